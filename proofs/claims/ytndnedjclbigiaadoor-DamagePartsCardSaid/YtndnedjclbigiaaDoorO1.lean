/- What some functions come to, each a function of its own text; joined out of: E, F0, F30, F81, F72, F58, F38, F23, F39, F59, F40, Fe0, F25, F41, F26, G4, G5. No conditions but those in each theorem. -/
import Derived.Test.YtndnedjclbigiaaDoorProg
import Derived.Test.YtndnedjclbigiaaDoorWWords
import Derived.Test.YtndnedjclbigiaaDoorWLast
import Derived.LaidEql
import Derived.Laws.Runes
import Derived.Below
import Derived.Deep.Draws
import Derived.Deep.AppendLies
import Derived.Maps.AppendAt
import Derived.OwnWalk
import Derived.Laws.BytesArg
import Derived.Laws.MakeOwn
import Derived.Laws.OwnMore
import Derived.Deep.OwnRows
import Derived.Tactics
import Derived.Lib.ConvBytes
import Derived.Laws.Slices
import Derived.WalkKit
import Derived.KernelRfl
import Derived.RowKit3
import Derived.Deep.LoopGhost
import Derived.Deep.QuietTactic
import Derived.BigQuiet
import Derived.WideLaws
import Derived.Deep.DeepCutAuto
import Derived.Deep.CutBlock
import Derived.Deep.RegionHeld3
import Derived.Laws.Rows
import Derived.Lib.AppendStr
import Derived.ArgAppend
import Derived.Laws.IdiomCopy
import Derived.OrdersHeld
import Derived.Laws.BitsLemmas
import Derived.RowKit
import Derived.Test.YtndnedjclbigiaaDoorWTab
import Derived.Test.YtndnedjclbigiaaDoorWFour
import Derived.Test.YtndnedjclbigiaaDoorWQPut
import Derived.Test.YtndnedjclbigiaaDoorWApart
import Derived.Test.YtndnedjclbigiaaDoorWArr
import Derived.Test.YtndnedjclbigiaaDoorWZeros
import Derived.Test.YtndnedjclbigiaaDoorWFoot
import Derived.Test.YtndnedjclbigiaaDoorWKept
import Derived.Test.YtndnedjclbigiaaDoorWShare
import Derived.Test.YtndnedjclbigiaaDoorWN
import Derived.Test.YtndnedjclbigiaaDoorWFootNe
import Derived.Test.YtndnedjclbigiaaDoorWAt
import Derived.Test.YtndnedjclbigiaaDoorWEqStruct
import Derived.Test.YtndnedjclbigiaaDoorWRepsOne
import Derived.Test.YtndnedjclbigiaaDoorWInv
import Derived.Test.YtndnedjclbigiaaDoorWInvWords
import Derived.Test.YtndnedjclbigiaaDoorWGuard
import Derived.Test.YtndnedjclbigiaaDoorWNEv
import Derived.Test.YtndnedjclbigiaaDoorWMore
import Derived.Laws.CopyOwn
namespace Go.Proofs.YtndnedjclbigiaaDoor
open Go.RowKit Go.Proofs.YtndnedjclbigiaaDoorW.PrintWords

/-- Where the sentinel errors' texts lie: the address that error number c (as the document numbers them) points to. -/
class Errs where
  ea : Int → Addr

def errW [Errs] : Option Int → Value
  | none => .nilIface
  | some c => .iface 133 (.pointer (some (Errs.ea c)))
theorem errW_none [Errs] : errW none = .nilIface := rfl
theorem errW_some [Errs] (c : Int) : errW (some c) = .iface 133 (.pointer (some (Errs.ea c))) := rfl

@[go_sem] theorem eqGuard_errW_iface [Errs] (op : BinOp) (ty : TypeId) (x y : Operand) (t : Option Int) (d : TypeId) (z : Value) : eqGuard op ty x y (errW t) (.iface d z) = pure () := by cases t <;> cases op <;> rfl
@[go_sem] theorem eqGuard_errW_nil [Errs] (op : BinOp) (ty : TypeId) (x : Operand) (c : Value) (t : Option Int) : eqGuard op ty x (.const c) (errW t) .nilIface = pure () := by cases t <;> cases op <;> cases x <;> rfl

/-- The variable in which error number c stands. -/
def gid : Int → Nat
  | 1 => 3
  | 2 => 0
  | 4 => 2
  | 12 => 1
  | _ => 0

def errIn (L : List Int) (c : Int) : Bool := decide (c ∈ L)
theorem errIn_mem {L : List Int} {c : Int} (h : errIn L c = true) : c ∈ L := of_decide_eq_true h

/-- The sentinels of the list stand in their variables, each at a place of its own. -/
structure Sent [Errs] (L : List Int) (w : World) : Prop where
  cell_ : ∀ c, c ∈ L → w.cell? ⟨gid c, 0, none⟩ = some (errW (some c))
  block_ : ∀ c, c ∈ L → ∃ cs t, w.heap[(Errs.ea c).block]? = some (.cells cs t (0, 0))
  inj_ : ∀ c d, c ∈ L → d ∈ L → Errs.ea c = Errs.ea d → c = d

theorem Sent.sub [Errs] {L M : List Int} {w : World} (hs : ∀ c, c ∈ M → c ∈ L) (h : Sent L w) : Sent M w :=
  ⟨fun c hc => h.cell_ c (hs c hc), fun c hc => h.block_ c (hs c hc), fun c d hc hd => h.inj_ c d (hs c hc) (hs d hd)⟩
theorem Sent.below [Errs] {L : List Int} {w W : World} (h : Sent L w) (hb : Below w.heap.size w W) : Sent L W :=
  ⟨fun c hc => pw_cell_below hb (h.cell_ c hc),
   fun c hc => by
    obtain ⟨cs, t, he⟩ := h.block_ c hc
    exact ⟨cs, t, (hb.block _ (Array.getElem?_eq_some_iff.1 he).1).trans he⟩, h.inj_⟩
theorem Sent.drewN [Errs] {L : List Int} {w : World} (h : Sent L w) (n : Nat) : Sent L (w.drewN n) := h.below (Drawn0.below (Drawn0.step (Drawn0.refl _) n))
theorem Sent.drew [Errs] {L : List Int} {w : World} (h : Sent L w) : Sent L w.drew := h.below (below_drew (Below.refl _ _))

theorem Sent.cell0 [Errs] {L : List Int} {w : World} (h : Sent L w) (c : Int) (g : Nat) (hg : gid c = g) (hc : c ∈ L) : w.cell? ⟨g, 0, none⟩ = some (errW (some c)) := by
  subst hg; exact h.cell_ c hc
theorem Sent.cell [Errs] {L : List Int} {w : World} (h : Sent L w) (c : Int) (g : Nat) (hg : gid c = g) (hc : c ∈ L) : ∀ W, Aside0 (Below w.heap.size w W) → W.cell? ⟨g, 0, none⟩ = some (errW (some c)) :=
  fun _ hb => (h.below hb.out).cell0 c g hg hc

theorem errComp : (Tryd.prog.info? 133).map (fun i => i.comparable) = some true := by kernel_rfl
theorem errSize : (Tryd.prog.info? 147).map (fun i => i.size) = some 1 := by kernel_rfl

theorem run_neq_iface_ptr_same {P : Program} (w : World) {ti tp te : TypeId} {ms : Array (String × TypeId)} {i j : TypeInfo} (a : Addr)
    (hi : P.underlying ti = some (.interface ms)) (hp : P.underlying tp = some (.pointer te)) (hinfo : P.info? tp = some i) (hcomp : i.comparable = true) (hte : P.info? te = some j) :
    (binOp .neq ti (.iface tp (.pointer (some a))) (.iface tp (.pointer (some a)))).run P w = .ok (.bool false) w := by
  simp only [binOp]
  simp [Op.equal, Op.maxDepth, run_equalIn_iface_ptr_same w 9998 a hi hp hinfo hcomp hte]
theorem run_neq_iface_ptr_other {P : Program} (w : World) {ti tp te : TypeId} {ms : Array (String × TypeId)} {i j : TypeInfo} {a b : Addr} {ca cb : Array Value} {ta tb : TypeId}
    (hi : P.underlying ti = some (.interface ms)) (hp : P.underlying tp = some (.pointer te)) (hinfo : P.info? tp = some i) (hcomp : i.comparable = true) (hte : P.info? te = some j) (hsz : j.size ≠ 0)
    (hne : a ≠ b) (ha : w.heap[a.block]? = some (.cells ca ta (0, 0))) (hb : w.heap[b.block]? = some (.cells cb tb (0, 0))) :
    (binOp .neq ti (.iface tp (.pointer (some a))) (.iface tp (.pointer (some b)))).run P w = .ok (.bool true) w := by
  simp only [binOp]
  simp [Op.equal, Op.maxDepth, run_equalIn_iface_ptr_other w 9998 hi hp hinfo hcomp hte hsz hne ha hb]

theorem Sent.nil_eql (v : Value) (W : World) : (binOp .eql 30 .nilIface (.iface 133 v)).run Tryd.prog W = .ok (.bool false) W := run_eql_iface_nil_left W _ v Tryd.underlying30
theorem Sent.nil_neq (v : Value) (W : World) : (binOp .neq 30 .nilIface (.iface 133 v)).run Tryd.prog W = .ok (.bool true) W := by
  have h : ∀ d : Nat, (Op.equalIn (d + 1) 30 .nilIface (.iface 133 v)).run Tryd.prog W = .ok false W := fun d => by simp [Op.equalIn, run_underlying Tryd.underlying30]
  simp only [binOp]
  simp [Op.equal, Op.maxDepth, h 9999]
theorem Sent.eql_nil (v : Value) (W : World) : (binOp .eql 30 (.iface 133 v) .nilIface).run Tryd.prog W = .ok (.bool false) W := by
  have h : ∀ d : Nat, (Op.equalIn (d + 1) 30 (.iface 133 v) .nilIface).run Tryd.prog W = .ok false W := fun d => by simp [Op.equalIn, run_underlying Tryd.underlying30]
  simp only [binOp]
  simp [Op.equal, Op.maxDepth, h 9999]
theorem Sent.neq_nil (v : Value) (W : World) : (binOp .neq 30 (.iface 133 v) .nilIface).run Tryd.prog W = .ok (.bool true) W := by
  have h : ∀ d : Nat, (Op.equalIn (d + 1) 30 (.iface 133 v) .nilIface).run Tryd.prog W = .ok false W := fun d => by simp [Op.equalIn, run_underlying Tryd.underlying30]
  simp only [binOp]
  simp [Op.equal, Op.maxDepth, h 9999]

/-- A world that has only grown since w, said so that the walk's simp can show it. -/
structure SentW (w W : World) : Prop where mk :: (below : Below w.heap.size w W)
@[go_sem] theorem SentW.of {w W : World} (h : Aside0 (Below w.heap.size w W)) : SentW w W := ⟨h.out⟩
@[go_sem] theorem SentW.setCell {w W : World} {g o : Nat} {v : Value} (h : SentW w W) (hg : Aside0 (w.heap.size ≤ g)) : SentW w (W.setCell ⟨g, o, none⟩ v) := ⟨below_set h.below hg.out⟩
@[go_sem] theorem SentW.drewN {w W : World} {n : Nat} (h : SentW w W) : SentW w (W.drewN n) := ⟨pw_below_drewN h.below n⟩
@[go_sem] theorem SentW.drew {w W : World} (h : SentW w W) : SentW w W.drew := ⟨below_drew h.below⟩
@[go_sem] theorem SentW.alloc {w W : World} {o : Obj} (h : SentW w W) : SentW w (W.alloc o) := ⟨below_alloc h.below o⟩

/-! Errors as Bools: is it nil; is it this sentinel; is it nil or one of the list. -/
def isNil (t : Option Int) : Bool := t.isNone
def errEq (t : Option Int) (g : Int) : Bool := t == some g
def errOk (L : List Int) (t : Option Int) : Bool := match t with
  | none => true
  | some q => decide (q ∈ L)
theorem errW_eql_nil [Errs] (t : Option Int) (W : World) : (binOp .eql 30 (errW t) .nilIface).run Tryd.prog W = .ok (.bool (isNil t)) W := by
  cases t with
  | none =>
    have h : ∀ d : Nat, (Op.equalIn (d + 1) 30 .nilIface .nilIface).run Tryd.prog W = .ok true W := fun d => by simp [Op.equalIn, run_underlying Tryd.underlying30]
    simp only [errW_none, binOp]
    simp [Op.equal, Op.maxDepth, h 9999, isNil]
  | some q => exact Sent.eql_nil _ W
theorem errW_neq_nil [Errs] (t : Option Int) (W : World) : (binOp .neq 30 (errW t) .nilIface).run Tryd.prog W = .ok (.bool (!isNil t)) W := by
  cases t with
  | none =>
    have h : ∀ d : Nat, (Op.equalIn (d + 1) 30 .nilIface .nilIface).run Tryd.prog W = .ok true W := fun d => by simp [Op.equalIn, run_underlying Tryd.underlying30]
    simp only [errW_none, binOp]
    simp [Op.equal, Op.maxDepth, h 9999, isNil]
  | some q => exact Sent.neq_nil _ W

section
variable [Errs] {L : List Int} {w : World}
theorem Sent.eql_same (q g : Int) (e : q = g) (W : World) :
    (binOp .eql 30 (.iface 133 (.pointer (some (Errs.ea q)))) (.iface 133 (.pointer (some (Errs.ea g))))).run Tryd.prog W = .ok (.bool true) W := by
  obtain ⟨i, hi, hc⟩ := Option.map_eq_some_iff.1 errComp
  obtain ⟨j, hj, hz⟩ := Option.map_eq_some_iff.1 errSize
  subst e
  exact run_eql_iface_ptr_same W _ Tryd.underlying30 Tryd.underlying133 hi hc hj
theorem Sent.neq_same (q g : Int) (e : q = g) (W : World) :
    (binOp .neq 30 (.iface 133 (.pointer (some (Errs.ea q)))) (.iface 133 (.pointer (some (Errs.ea g))))).run Tryd.prog W = .ok (.bool false) W := by
  obtain ⟨i, hi, hc⟩ := Option.map_eq_some_iff.1 errComp
  obtain ⟨j, hj, hz⟩ := Option.map_eq_some_iff.1 errSize
  subst e
  exact run_neq_iface_ptr_same W _ Tryd.underlying30 Tryd.underlying133 hi hc hj
theorem Sent.eql_other (h : Sent L w) (q g : Int) (hq : q ∈ L) (hg : g ∈ L) (e : ¬ q = g) (W : World) (hb : Below w.heap.size w W) :
    (binOp .eql 30 (.iface 133 (.pointer (some (Errs.ea q)))) (.iface 133 (.pointer (some (Errs.ea g))))).run Tryd.prog W = .ok (.bool false) W := by
  obtain ⟨i, hi, hc⟩ := Option.map_eq_some_iff.1 errComp
  obtain ⟨j, hj, hz⟩ := Option.map_eq_some_iff.1 errSize
  obtain ⟨ca, ta, ha⟩ := (h.below hb).block_ q hq
  obtain ⟨cb, tb, hB⟩ := (h.below hb).block_ g hg
  exact run_eql_iface_ptr_other W Tryd.underlying30 Tryd.underlying133 hi hc hj (by omega) (fun x => e (h.inj_ q g hq hg x)) ha hB
theorem Sent.neq_other (h : Sent L w) (q g : Int) (hq : q ∈ L) (hg : g ∈ L) (e : ¬ q = g) (W : World) (hb : Below w.heap.size w W) :
    (binOp .neq 30 (.iface 133 (.pointer (some (Errs.ea q)))) (.iface 133 (.pointer (some (Errs.ea g))))).run Tryd.prog W = .ok (.bool true) W := by
  obtain ⟨i, hi, hc⟩ := Option.map_eq_some_iff.1 errComp
  obtain ⟨j, hj, hz⟩ := Option.map_eq_some_iff.1 errSize
  obtain ⟨ca, ta, ha⟩ := (h.below hb).block_ q hq
  obtain ⟨cb, tb, hB⟩ := (h.below hb).block_ g hg
  exact run_neq_iface_ptr_other W Tryd.underlying30 Tryd.underlying133 hi hc hj (by omega) (fun x => e (h.inj_ q g hq hg x)) ha hB
theorem Sent.eqlB (h : Sent L w) (t : Option Int) (g : Int) (ht : errOk L t = true) (hg : g ∈ L) (W : World) (hb : Below w.heap.size w W) :
    (binOp .eql 30 (errW t) (.iface 133 (.pointer (some (Errs.ea g))))).run Tryd.prog W = .ok (.bool (errEq t g)) W := by
  cases t with
  | none => exact Sent.nil_eql _ W
  | some q =>
    by_cases e : q = g
    · have e2 : errEq (some q) g = true := by subst e; simp [errEq]
      rw [e2]; exact Sent.eql_same q g e W
    · have e2 : errEq (some q) g = false := by simp [errEq, e]
      rw [e2]; exact h.eql_other q g (of_decide_eq_true ht) hg e W hb
theorem Sent.neqB (h : Sent L w) (t : Option Int) (g : Int) (ht : errOk L t = true) (hg : g ∈ L) (W : World) (hb : Below w.heap.size w W) :
    (binOp .neq 30 (errW t) (.iface 133 (.pointer (some (Errs.ea g))))).run Tryd.prog W = .ok (.bool (!errEq t g)) W := by
  cases t with
  | none => exact Sent.nil_neq _ W
  | some q =>
    by_cases e : q = g
    · have e2 : errEq (some q) g = true := by subst e; simp [errEq]
      rw [e2]; exact Sent.neq_same q g e W
    · have e2 : errEq (some q) g = false := by simp [errEq, e]
      rw [e2]; exact h.neq_other q g (of_decide_eq_true ht) hg e W hb
end
end Go.Proofs.YtndnedjclbigiaaDoor

namespace Go.Proofs.YtndnedjclbigiaaDoor.F
open Go.RowKit Go.Proofs.YtndnedjclbigiaaDoorW.PrintWords Go.Proofs.YtndnedjclbigiaaDoorW.PrintLast Go.Proofs.YtndnedjclbigiaaDoorW.PrintMore
attribute [local go_sem] max2_int min2_int max_two min_two max_three min_three max_four min_four   -- for this text's walks alone
set_option linter.unusedVariables false
set_option linter.unusedSimpArgs false
set_option linter.unusedSectionVars false
open Go.Proofs.YtndnedjclbigiaaDoor
variable [Errs]

theorem info3 : (Tryd.prog.info? 3).map (fun i => (i.zero, i.size, i.bytes)) = some (some (.int .i64 0), 1, 8) := by kernel_rfl
theorem info5 : (Tryd.prog.info? 5).map (fun i => (i.zero, i.size, i.bytes)) = some (some (.int .u8 0), 1, 1) := by kernel_rfl
theorem info41 : (Tryd.prog.info? 41).map (fun i => (i.zero, i.size, i.bytes)) = some (some (.slice none 0 0), 1, 24) := by kernel_rfl
-- the values' own types
def rd_L2 (xs : List (List Int)) (i : Int) : (List Int) := xs.getD i.toNat ([] : List Int)
theorem at_L2 {w : World} {A : Option Addr} {n : Nat} {xs : List (List Int)} (h : Kd.C (Kd.slice 5 (Kd.int .u8)) w A n xs) (i : Int) (h0 : 0 ≤ i) (h1 : i < n) : ∃ ad A0 c0, A = some ad ∧ w.cell? (ad.add i.toNat) = some (.slice A0 (rd_L2 xs i).length c0) ∧ (rd_L2 xs i).length ≤ c0 ∧ (Kd.int .u8).C w A0 (rd_L2 xs i).length (rd_L2 xs i) := by
  obtain ⟨ad, c, e, _, hK, hc0⟩ := Kd.C_get h ([] : List Int) i h0 h1
  have hc : ∀ j u, c[j]? = some u → w.cell? (ad.add (i.toNat * 1 + j)) = some u := hc0
  obtain ⟨A0, c0, rfl, l0, g0⟩ := hK
  exact ⟨ad, A0, c0, e, by have hq := hc 0 _ rfl; rwa [Nat.mul_one, Nat.add_zero] at hq, l0, g0⟩

end Go.Proofs.YtndnedjclbigiaaDoor.F

namespace Go.Proofs.YtndnedjclbigiaaDoor.F
open Go.RowKit Go.Proofs.YtndnedjclbigiaaDoorW.PrintWords Go.Proofs.YtndnedjclbigiaaDoorW.PrintLast Go.Proofs.YtndnedjclbigiaaDoorW.PrintMore
attribute [local go_sem] max2_int min2_int max_two min_two max_three min_three max_four min_four   -- for this text's walks alone
set_option linter.unusedVariables false
set_option linter.unusedSimpArgs false
set_option linter.unusedSectionVars false
open Go.Proofs.YtndnedjclbigiaaDoor
variable [Errs]

/-! ### base_Check: function 30 -/
def base_Check.L : List Int := [1]
def base_Check.f (a0 : Int) (a1 : Int) : Option (Option Int) := if a0 < 1 then (some (some 1)) else (if a0 ≥ 16 then (some (some 1)) else (if a1 < 2 then (some (some 1)) else (if a1 > (wrap64 (16 - a0)) then (some (some 1)) else (some none))))
set_option maxHeartbeats 8000000 in
set_option maxRecDepth 100000 in
theorem base_Check.calls (a0 : Int) (a1 : Int) (r : Option Int) (w : World) (h : base_Check.f a0 a1 = some r) (hS : Sent base_Check.L w) :
    Calls Tryd.prog 30 #[.int .i64 a0, .int .i64 a1] w fun e w' => e = .returned (errW r) ∧ Drawn0 w w' := by
  have HS := Aside0.mk hS
  have hgl1 := Sent.cell0 hS 1 3 rfl (by decide)
  simp only [errW_some] at hgl1
  clear hS
  have H : (if a0 < 1 then (some (some 1)) else (if a0 ≥ 16 then (some (some 1)) else (if a1 < 2 then (some (some 1)) else (if a1 > (wrap64 (16 - a0)) then (some (some 1)) else (some none))))) = some r := h
  clear h
  by_cases c3 : a0 < 1
  · rw [if_pos c3] at H
    have c3b0 : decide (a0 < 1) = true := decide_eq_true c3
    clear c3
    obtain rfl := Option.some.inj H
    go_enter Tryd.func30, Tryd.ntmps30
    go_wp2
    go_ret
    exact ⟨by first | rfl | (simp; done) | (simp [*]; done), by repeat (first | exact Drawn0.refl _ | apply Drawn0.step)⟩
  · rw [if_neg c3] at H
    have c3b0 : decide (a0 < 1) = false := decide_eq_false c3
    clear c3
    by_cases c4 : a0 ≥ 16
    · rw [if_pos c4] at H
      have c4b0 : decide (16 ≤ a0) = true := decide_eq_true c4
      clear c4
      obtain rfl := Option.some.inj H
      go_enter Tryd.func30, Tryd.ntmps30
      go_wp2
      go_ret
      exact ⟨by first | rfl | (simp; done) | (simp [*]; done), by repeat (first | exact Drawn0.refl _ | apply Drawn0.step)⟩
    · rw [if_neg c4] at H
      have c4b0 : decide (16 ≤ a0) = false := decide_eq_false c4
      clear c4
      by_cases c5 : a1 < 2
      · rw [if_pos c5] at H
        have c5b0 : decide (a1 < 2) = true := decide_eq_true c5
        clear c5
        obtain rfl := Option.some.inj H
        go_enter Tryd.func30, Tryd.ntmps30
        go_wp2
        go_ret
        exact ⟨by first | rfl | (simp; done) | (simp [*]; done), by repeat (first | exact Drawn0.refl _ | apply Drawn0.step)⟩
      · rw [if_neg c5] at H
        have c5b0 : decide (a1 < 2) = false := decide_eq_false c5
        clear c5
        by_cases c6 : a1 > (wrap64 (16 - a0))
        · rw [if_pos c6] at H
          have c6b0 : decide ((wrap64 (16 - a0)) < a1) = true := decide_eq_true c6
          clear c6
          obtain rfl := Option.some.inj H
          go_enter Tryd.func30, Tryd.ntmps30
          go_wp2
          go_ret
          exact ⟨by first | rfl | (simp; done) | (simp [*]; done), by repeat (first | exact Drawn0.refl _ | apply Drawn0.step)⟩
        · rw [if_neg c6] at H
          have c6b0 : decide ((wrap64 (16 - a0)) < a1) = false := decide_eq_false c6
          clear c6
          obtain rfl := Option.some.inj H
          go_enter Tryd.func30, Tryd.ntmps30
          go_wp2
          go_ret
          exact ⟨by first | rfl | (simp; done) | (simp [*]; done), by repeat (first | exact Drawn0.refl _ | apply Drawn0.step)⟩

end Go.Proofs.YtndnedjclbigiaaDoor.F

namespace Go.Proofs.YtndnedjclbigiaaDoor.F
open Go.RowKit Go.Proofs.YtndnedjclbigiaaDoorW.PrintWords Go.Proofs.YtndnedjclbigiaaDoorW.PrintLast Go.Proofs.YtndnedjclbigiaaDoorW.PrintMore
attribute [local go_sem] max2_int min2_int max_two min_two max_three min_three max_four min_four   -- for this text's walks alone
set_option linter.unusedVariables false
set_option linter.unusedSimpArgs false
set_option linter.unusedSectionVars false
open Go.Proofs.YtndnedjclbigiaaDoor
variable [Errs]

/-! ### gf_double: function 81 -/
def gf_double.f (a0 : Int) : Option (Int) := if (wrap64 (a0 * 2)) > 255 then (some (Go.bits .xor .i64 (wrap64 (a0 * 2)) 285)) else (some (wrap64 (a0 * 2)))
set_option maxHeartbeats 8000000 in
set_option maxRecDepth 100000 in
theorem gf_double.calls (a0 : Int) (r : Int) (w : World) (h : gf_double.f a0 = some r) :
    Calls Tryd.prog 81 #[.int .i64 a0] w fun e w' => e = .returned (.int .i64 r) ∧ Drawn0 w w' := by
  have H : (if (wrap64 (a0 * 2)) > 255 then (some (Go.bits .xor .i64 (wrap64 (a0 * 2)) 285)) else (some (wrap64 (a0 * 2)))) = some r := h
  clear h
  by_cases c2 : (wrap64 (a0 * 2)) > 255
  · rw [if_pos c2] at H
    have c2b0 : decide (255 < (wrap64 (a0 * 2))) = true := decide_eq_true c2
    clear c2
    obtain rfl := Option.some.inj H
    go_enter Tryd.func81, Tryd.ntmps81
    go_wp2
    go_ret
    exact ⟨by first | rfl | (simp; done) | (simp [*]; done), by repeat (first | exact Drawn0.refl _ | apply Drawn0.step)⟩
  · rw [if_neg c2] at H
    have c2b0 : decide (255 < (wrap64 (a0 * 2))) = false := decide_eq_false c2
    clear c2
    obtain rfl := Option.some.inj H
    go_enter Tryd.func81, Tryd.ntmps81
    go_wp2
    go_ret
    exact ⟨by first | rfl | (simp; done) | (simp [*]; done), by repeat (first | exact Drawn0.refl _ | apply Drawn0.step)⟩

end Go.Proofs.YtndnedjclbigiaaDoor.F

namespace Go.Proofs.YtndnedjclbigiaaDoor.F
open Go.RowKit Go.Proofs.YtndnedjclbigiaaDoorW.PrintWords Go.Proofs.YtndnedjclbigiaaDoorW.PrintLast Go.Proofs.YtndnedjclbigiaaDoorW.PrintMore
attribute [local go_sem] max2_int min2_int max_two min_two max_three min_three max_four min_four   -- for this text's walks alone
set_option linter.unusedVariables false
set_option linter.unusedSimpArgs false
set_option linter.unusedSectionVars false
open Go.Proofs.YtndnedjclbigiaaDoor
variable [Errs]

/-! ### gf_Mul: function 72 -/
def gf_Mul.l0 : Nat → Int → Int → Int → Option (Int)
  | 0, _, _, _ => none
  | k + 1, x5, x6, x7 => if x7 > 0 then (if (Go.bits .and .i64 x7 1) = 1 then ((gf_double.f x6).bind fun t101 => (gf_Mul.l0 k (Go.bits .xor .i64 x5 x6) t101 (x7 / 2))) else ((gf_double.f x6).bind fun t102 => (gf_Mul.l0 k x5 t102 (x7 / 2)))) else (some ((x5) % 256))
def gf_Mul.f (k : Nat) (a0 : Int) (a1 : Int) : Option (Int) := gf_Mul.l0 k 0 (wrap64 (a0)) (wrap64 (a1))
theorem gf_Mul.mono_l : ∀ k, (∀ y0 y1 y2, LeO (gf_Mul.l0 k y0 y1 y2) (gf_Mul.l0 (k + 1) y0 y1 y2))
  | 0 => fun _ _ _ r h => by simp [gf_Mul.l0] at h
  | k + 1 => by
    have ih0 := gf_Mul.mono_l k
    · intro y0 y1 y2
      unfold gf_Mul.l0
      repeat' first
      | (with_reducible exact ih0 _ _ _)
      | (with_reducible exact LeO.refl _)
      | (with_reducible exact LeO.none _)
      | (with_reducible refine LeO.ite ?_ ?_)
      | (with_reducible refine LeO.bind ?_ (fun _ => ?_))
      | exact ih0 _ _ _
      | exact LeO.none _
      | refine LeO.ite ?_ ?_
      | refine LeO.bind ?_ (fun _ => ?_)
theorem gf_Mul.mono : ∀ a0 a1 k, LeO (gf_Mul.f k a0 a1) (gf_Mul.f (k + 1) a0 a1) := by
  intro a0 a1 k
  have ih0 := gf_Mul.mono_l k
  unfold gf_Mul.f
  repeat' first
      | (with_reducible exact ih0 _ _ _)
      | (with_reducible exact LeO.refl _)
      | (with_reducible exact LeO.none _)
      | (with_reducible refine LeO.ite ?_ ?_)
      | (with_reducible refine LeO.bind ?_ (fun _ => ?_))
      | exact ih0 _ _ _
      | exact LeO.none _
      | refine LeO.ite ?_ ?_
      | refine LeO.bind ?_ (fun _ => ?_)
set_option maxHeartbeats 8000000 in
set_option maxRecDepth 100000 in
theorem gf_Mul.calls (k : Nat) (a0 : Int) (a1 : Int) (r : Int) (w : World) (h : gf_Mul.f k a0 a1 = some r) :
    Calls Tryd.prog 72 #[.int .u8 a0, .int .u8 a1] w fun e w' => e = .returned (.int .u8 r) ∧ Drawn0 w w' := by
  have H : (gf_Mul.l0 k 0 (wrap64 (a0)) (wrap64 (a1))) = some r := h
  clear h
  have H' := Aside0.mk H
  clear H
  go_enter Tryd.func72, Tryd.ntmps72
  go_wp2
  go_loopg [5, 6, 7] k (fun kq v5 v6 v7 w' => ∃ (x5_1 : Int) (x6_1 : Int) (x7_1 : Int), v5 = .int .i64 x5_1 ∧ v6 = .int .i64 x6_1 ∧ v7 = .int .i64 x7_1 ∧ Aside0 (gf_Mul.l0 kq x5_1 x6_1 x7_1 = some r) ∧ Aside0 (kq ≤ k) ∧ Drawn0 w w')
  case atStart => exact ⟨(0), (wrap64 (a0)), (wrap64 (a1)), (by first | rfl | (simp; done) | (simp [*]; done)), (by first | rfl | (simp; done) | (simp [*]; done)), (by first | rfl | (simp; done) | (simp [*]; done)), H', ⟨Nat.le_refl _⟩, by repeat (first | exact Drawn0.refl _ | apply Drawn0.step)⟩
  case round =>
    clear H'
    try clear p2
    obtain ⟨x5_1, x6_1, x7_1, rfl, rfl, rfl, HA, HK1, ⟨m1, rfl⟩⟩ := hrel
    cases gk with
    | zero => exact absurd HA.out (by simp [gf_Mul.l0])
    | succ k1 =>
      have H := HA.out
      clear HA
      first | rw [gf_Mul.l0] at H | simp only [gf_Mul.l0] at H
      by_cases c3 : x7_1 > 0
      · rw [if_pos c3] at H
        have c3b0 : decide (0 < x7_1) = true := decide_eq_true c3
        clear c3
        by_cases c4 : (Go.bits .and .i64 x7_1 1) = 1
        · rw [if_pos c4] at H
          have c4b0 : ((Go.bits .and .i64 x7_1 1) == 1) = true := beq_iff_eq.mpr c4
          have c4b1 : ((Go.bits .and .i64 x7_1 1) != 1) = false := bne_eq_false_iff_eq.mpr c4
          clear c4
          replace H := Option.bind_eq_some_iff.mp H
          obtain ⟨t101, A50, H⟩ := H
          replace H : (gf_Mul.l0 k1 (Go.bits .xor .i64 x5_1 x6_1) t101 (x7_1 / 2)) = some r := H
          have A5 := Aside0.mk A50
          clear A50
          have H' := Aside0.mk H
          clear H
          go_wp2_with (first | ((with_reducible refine gate_callee (f := 81) rfl ?_); refine goesL_ (some 23) rfl rfl Tryd.func81 (by kernel_rfl) rfl #[.int .i64 x6_1] rfl (by (try simp only [List.map_toArray, List.map_cons, List.map_nil]); first | done | rfl | (simp only [List.length_drop, List.length_take]; rfl)) ?_; (with_reducible refine (gf_double.calls x6_1 t101 _ A5.out).mono ?_); rintro e w' ⟨rfl, ⟨nd, rfl⟩⟩; refine ⟨_, rfl, ?_⟩))
          go_roundg k1
          case measure => have := HK1.out; omega
          case rel => exact ⟨(Go.bits .xor .i64 x5_1 x6_1), (t101), (x7_1 / 2), (by first | rfl | (simp; done) | (simp [*]; done)), (by first | rfl | (simp; done) | (simp [*]; done)), (by first | rfl | (simp; done) | (simp [*]; done)), H', ⟨by have := HK1.out; omega⟩, by repeat (first | exact Drawn0.refl _ | apply Drawn0.step)⟩
        · rw [if_neg c4] at H
          have c4b0 : ((Go.bits .and .i64 x7_1 1) == 1) = false := beq_eq_false_iff_ne.mpr c4
          have c4b1 : ((Go.bits .and .i64 x7_1 1) != 1) = true := bne_iff_ne.mpr c4
          replace H := Option.bind_eq_some_iff.mp H
          obtain ⟨t102, A60, H⟩ := H
          replace H : (gf_Mul.l0 k1 x5_1 t102 (x7_1 / 2)) = some r := H
          have A6 := Aside0.mk A60
          clear A60
          have H' := Aside0.mk H
          clear H
          go_wp2_with (first | ((with_reducible refine gate_callee (f := 81) rfl ?_); refine goesL_ (some 23) rfl rfl Tryd.func81 (by kernel_rfl) rfl #[.int .i64 x6_1] rfl (by (try simp only [List.map_toArray, List.map_cons, List.map_nil]); first | done | rfl | (simp only [List.length_drop, List.length_take]; rfl)) ?_; (with_reducible refine (gf_double.calls x6_1 t102 _ A6.out).mono ?_); rintro e w' ⟨rfl, ⟨nd, rfl⟩⟩; refine ⟨_, rfl, ?_⟩))
          go_roundg k1
          case measure => have := HK1.out; omega
          case rel => exact ⟨(x5_1), (t102), (x7_1 / 2), (by first | rfl | (simp; done) | (simp [*]; done)), (by first | rfl | (simp; done) | (simp [*]; done)), (by first | rfl | (simp; done) | (simp [*]; done)), H', ⟨by have := HK1.out; omega⟩, by repeat (first | exact Drawn0.refl _ | apply Drawn0.step)⟩
      · rw [if_neg c3] at H
        have c3b0 : decide (0 < x7_1) = false := decide_eq_false c3
        clear c3
        obtain rfl := Option.some.inj H
        go_wp2
        go_ret
        exact ⟨by first | rfl | (simp; done) | (simp [*]; done), by repeat (first | exact Drawn0.refl _ | apply Drawn0.step)⟩

end Go.Proofs.YtndnedjclbigiaaDoor.F

namespace Go.Proofs.YtndnedjclbigiaaDoor.F
open Go.RowKit Go.Proofs.YtndnedjclbigiaaDoorW.PrintWords Go.Proofs.YtndnedjclbigiaaDoorW.PrintLast Go.Proofs.YtndnedjclbigiaaDoorW.PrintMore
attribute [local go_sem] max2_int min2_int max_two min_two max_three min_three max_four min_four   -- for this text's walks alone
set_option linter.unusedVariables false
set_option linter.unusedSimpArgs false
set_option linter.unusedSectionVars false
open Go.Proofs.YtndnedjclbigiaaDoor
variable [Errs]

/-! ### gf_Pow: function 58 -/
mutual
def gf_Pow.j0 : Nat → Int → Int → Option (Int)
  | 0, _, _ => none
  | k + 1, x0, x1 => gf_Pow.l0 k x0 x1 1
def gf_Pow.l0 : Nat → Int → Int → Int → Option (Int)
  | 0, _, _, _ => none
  | k + 1, x0, x1, x5 => if x1 > 0 then (if (Go.bits .and .i64 x1 1) = 1 then ((gf_Mul.f k x5 x0).bind fun t103 => ((gf_Mul.f k x0 x0).bind fun t104 => (gf_Pow.l0 k t104 (x1 / 2) t103))) else ((gf_Mul.f k x0 x0).bind fun t105 => (gf_Pow.l0 k t105 (x1 / 2) x5))) else (some x5)
end
def gf_Pow.f (k : Nat) (a0 : Int) (a1 : Int) : Option (Int) := if a1 = 0 then (some 1) else (if a0 = 0 then (some 0) else (if (Int.tmod a1 255) < 0 then (gf_Pow.j0 k a0 (wrap64 ((Int.tmod a1 255) + 255))) else (gf_Pow.j0 k a0 (Int.tmod a1 255))))
theorem gf_Pow.mono_l : ∀ k, (∀ y0 y1, LeO (gf_Pow.j0 k y0 y1) (gf_Pow.j0 (k + 1) y0 y1)) ∧ (∀ y0 y1 y2, LeO (gf_Pow.l0 k y0 y1 y2) (gf_Pow.l0 (k + 1) y0 y1 y2))
  | 0 => ⟨fun _ _ r h => by simp [gf_Pow.j0] at h, fun _ _ _ r h => by simp [gf_Pow.l0] at h⟩
  | k + 1 => by
    obtain ⟨ih0, ih1⟩ := gf_Pow.mono_l k
    refine ⟨?_, ?_⟩
    · intro y0 y1
      unfold gf_Pow.j0
      repeat' first
      | (with_reducible exact ih0 _ _)
      | (with_reducible exact ih1 _ _ _)
      | (with_reducible exact gf_Mul.mono _ _ _)
      | (with_reducible exact LeO.refl _)
      | (with_reducible exact LeO.none _)
      | (with_reducible refine LeO.ite ?_ ?_)
      | (with_reducible refine LeO.bind ?_ (fun _ => ?_))
      | exact ih0 _ _
      | exact ih1 _ _ _
      | exact gf_Mul.mono _ _ _
      | exact LeO.none _
      | refine LeO.ite ?_ ?_
      | refine LeO.bind ?_ (fun _ => ?_)
    · intro y0 y1 y2
      unfold gf_Pow.l0
      repeat' first
      | (with_reducible exact ih0 _ _)
      | (with_reducible exact ih1 _ _ _)
      | (with_reducible exact gf_Mul.mono _ _ _)
      | (with_reducible exact LeO.refl _)
      | (with_reducible exact LeO.none _)
      | (with_reducible refine LeO.ite ?_ ?_)
      | (with_reducible refine LeO.bind ?_ (fun _ => ?_))
      | exact ih0 _ _
      | exact ih1 _ _ _
      | exact gf_Mul.mono _ _ _
      | exact LeO.none _
      | refine LeO.ite ?_ ?_
      | refine LeO.bind ?_ (fun _ => ?_)
theorem gf_Pow.mono : ∀ a0 a1 k, LeO (gf_Pow.f k a0 a1) (gf_Pow.f (k + 1) a0 a1) := by
  intro a0 a1 k
  obtain ⟨ih0, ih1⟩ := gf_Pow.mono_l k
  unfold gf_Pow.f
  repeat' first
      | (with_reducible exact ih0 _ _)
      | (with_reducible exact ih1 _ _ _)
      | (with_reducible exact gf_Mul.mono _ _ _)
      | (with_reducible exact LeO.refl _)
      | (with_reducible exact LeO.none _)
      | (with_reducible refine LeO.ite ?_ ?_)
      | (with_reducible refine LeO.bind ?_ (fun _ => ?_))
      | exact ih0 _ _
      | exact ih1 _ _ _
      | exact gf_Mul.mono _ _ _
      | exact LeO.none _
      | refine LeO.ite ?_ ?_
      | refine LeO.bind ?_ (fun _ => ?_)
set_option maxHeartbeats 8000000 in
set_option maxRecDepth 100000 in
theorem gf_Pow.calls (k : Nat) (a0 : Int) (a1 : Int) (r : Int) (w : World) (h : gf_Pow.f k a0 a1 = some r) :
    Calls Tryd.prog 58 #[.int .u8 a0, .int .i64 a1] w fun e w' => e = .returned (.int .u8 r) ∧ Drawn0 w w' := by
  have H : (if a1 = 0 then (some 1) else (if a0 = 0 then (some 0) else (if (Int.tmod a1 255) < 0 then (gf_Pow.j0 k a0 (wrap64 ((Int.tmod a1 255) + 255))) else (gf_Pow.j0 k a0 (Int.tmod a1 255))))) = some r := h
  clear h
  by_cases c3 : a1 = 0
  · rw [if_pos c3] at H
    have c3b0 : (a1 == 0) = true := beq_iff_eq.mpr c3
    have c3b1 : (a1 != 0) = false := bne_eq_false_iff_eq.mpr c3
    clear c3
    obtain rfl := Option.some.inj H
    go_enter Tryd.func58, Tryd.ntmps58
    go_wp2
    go_ret
    exact ⟨by first | rfl | (simp; done) | (simp [*]; done), by repeat (first | exact Drawn0.refl _ | apply Drawn0.step)⟩
  · rw [if_neg c3] at H
    have c3b0 : (a1 == 0) = false := beq_eq_false_iff_ne.mpr c3
    have c3b1 : (a1 != 0) = true := bne_iff_ne.mpr c3
    by_cases c4 : a0 = 0
    · rw [if_pos c4] at H
      have c4b0 : (a0 == 0) = true := beq_iff_eq.mpr c4
      have c4b1 : (a0 != 0) = false := bne_eq_false_iff_eq.mpr c4
      clear c4
      obtain rfl := Option.some.inj H
      go_enter Tryd.func58, Tryd.ntmps58
      go_wp2
      go_ret
      exact ⟨by first | rfl | (simp; done) | (simp [*]; done), by repeat (first | exact Drawn0.refl _ | apply Drawn0.step)⟩
    · rw [if_neg c4] at H
      have c4b0 : (a0 == 0) = false := beq_eq_false_iff_ne.mpr c4
      have c4b1 : (a0 != 0) = true := bne_iff_ne.mpr c4
      have HC5 := Aside0.mk H
      clear H
      go_enter Tryd.func58, Tryd.ntmps58
      go_upto_if 13 with (fail)
      go_cut [1] (fun v1 wc => ∃ (kq : Nat) (x1_4 : Int), v1 = .int .i64 x1_4 ∧ Aside0 (gf_Pow.j0 kq a0 x1_4 = some r) ∧ Aside0 (kq ≤ k) ∧ Drawn0 w wc)
      case first =>
        have H := HC5.out
        clear HC5
        by_cases c6 : (Int.tmod a1 255) < 0
        · rw [if_pos c6] at H
          have c6b0 : decide ((Int.tmod a1 255) < 0) = true := decide_eq_true c6
          clear c6
          (first | rw [c6b0] | (simp only [i64_w, i32_w]; rw [c6b0]) | skip)
          have H' := Aside0.mk H
          clear H
          go_wp2
          go_meet
          case rel => exact ⟨_, (wrap64 ((Int.tmod a1 255) + 255)), (by first | rfl | (simp; done) | (simp [*]; done)), H', ⟨by first | omega | exact Nat.le_refl _⟩, by repeat (first | exact Drawn0.refl _ | apply Drawn0.step)⟩
        · rw [if_neg c6] at H
          have c6b0 : decide ((Int.tmod a1 255) < 0) = false := decide_eq_false c6
          clear c6
          (first | rw [c6b0] | (simp only [i64_w, i32_w]; rw [c6b0]) | skip)
          have H' := Aside0.mk H
          clear H
          go_wp2
          go_meet
          case rel => exact ⟨_, (Int.tmod a1 255), (by first | rfl | (simp; done) | (simp [*]; done)), H', ⟨by first | omega | exact Nat.le_refl _⟩, by repeat (first | exact Drawn0.refl _ | apply Drawn0.step)⟩
      case rest =>
        clear HC5
        try clear p2
        try clear c3
        try clear c3b0
        try clear c3b1
        try clear c4
        try clear c4b0
        try clear c4b1
        try clear c5
        try clear c6
        try clear c6b0
        try clear p6
        obtain ⟨kq, x1_4, rfl, HA, HJ4, ⟨mc4, rfl⟩⟩ := hcut
        cases kq with
        | zero => exact absurd HA.out (by simp [gf_Pow.j0])
        | succ kj4 =>
          have H := HA.out
          clear HA
          first | rw [gf_Pow.j0] at H | simp only [gf_Pow.j0] at H
          have H' := Aside0.mk H
          clear H
          go_wp2
          go_loopg [0, 1, 5] kj4 (fun kq v0 v1 v5 w' => ∃ (x0_2 : Int) (x1_2 : Int) (x5_2 : Int), v0 = .int .u8 x0_2 ∧ v1 = .int .i64 x1_2 ∧ v5 = .int .u8 x5_2 ∧ Aside0 (gf_Pow.l0 kq x0_2 x1_2 x5_2 = some r) ∧ Aside0 (kq ≤ kj4) ∧ Drawn0 w w')
          case atStart => exact ⟨(a0), (x1_4), (1), (by first | rfl | (simp; done) | (simp [*]; done)), (by first | rfl | (simp; done) | (simp [*]; done)), (by first | rfl | (simp; done) | (simp [*]; done)), H', ⟨Nat.le_refl _⟩, by repeat (first | exact Drawn0.refl _ | apply Drawn0.step)⟩
          case round =>
            clear H'
            try clear p2
            try clear c3
            try clear c3b0
            try clear c3b1
            try clear c4
            try clear c4b0
            try clear c4b1
            try clear c5
            try clear c6
            try clear c6b0
            try clear p6
            try clear p2
            try clear p6
            obtain ⟨x0_2, x1_2, x5_2, rfl, rfl, rfl, HA, HK2, ⟨m2, rfl⟩⟩ := hrel
            cases gk with
            | zero => exact absurd HA.out (by simp [gf_Pow.l0])
            | succ k2 =>
              have H := HA.out
              clear HA
              first | rw [gf_Pow.l0] at H | simp only [gf_Pow.l0] at H
              by_cases c7 : x1_2 > 0
              · rw [if_pos c7] at H
                have c7b0 : decide (0 < x1_2) = true := decide_eq_true c7
                clear c7
                by_cases c8 : (Go.bits .and .i64 x1_2 1) = 1
                · rw [if_pos c8] at H
                  have c8b0 : ((Go.bits .and .i64 x1_2 1) == 1) = true := beq_iff_eq.mpr c8
                  have c8b1 : ((Go.bits .and .i64 x1_2 1) != 1) = false := bne_eq_false_iff_eq.mpr c8
                  clear c8
                  replace H := Option.bind_eq_some_iff.mp H
                  obtain ⟨t103, A90, H⟩ := H
                  replace H : ((gf_Mul.f k2 x0_2 x0_2).bind fun t104 => (gf_Pow.l0 k2 t104 (x1_2 / 2) t103)) = some r := H
                  have A9 := Aside0.mk A90
                  clear A90
                  replace H := Option.bind_eq_some_iff.mp H
                  obtain ⟨t104, A100, H⟩ := H
                  replace H : (gf_Pow.l0 k2 t104 (x1_2 / 2) t103) = some r := H
                  have A10 := Aside0.mk A100
                  clear A100
                  have H' := Aside0.mk H
                  clear H
                  go_wp2_with (first | ((with_reducible refine gate_callee (f := 72) rfl ?_); refine goesL_ (some 25) rfl rfl Tryd.func72 (by kernel_rfl) rfl #[.int .u8 x5_2, .int .u8 x0_2] rfl (by (try simp only [List.map_toArray, List.map_cons, List.map_nil]); first | done | rfl | (simp only [List.length_drop, List.length_take]; rfl)) ?_; (with_reducible refine (gf_Mul.calls k2 x5_2 x0_2 t103 _ A9.out).mono ?_); rintro e w' ⟨rfl, ⟨nd, rfl⟩⟩; refine ⟨_, rfl, ?_⟩) | ((with_reducible refine gate_callee (f := 72) rfl ?_); refine goesL_ (some 28) rfl rfl Tryd.func72 (by kernel_rfl) rfl #[.int .u8 x0_2, .int .u8 x0_2] rfl (by (try simp only [List.map_toArray, List.map_cons, List.map_nil]); first | done | rfl | (simp only [List.length_drop, List.length_take]; rfl)) ?_; (with_reducible refine (gf_Mul.calls k2 x0_2 x0_2 t104 _ A10.out).mono ?_); rintro e w' ⟨rfl, ⟨nd, rfl⟩⟩; refine ⟨_, rfl, ?_⟩))
                  go_roundg k2
                  case measure => have := HJ4.out; have := HK2.out; omega
                  case rel => exact ⟨(t104), (x1_2 / 2), (t103), (by first | rfl | (simp; done) | (simp [*]; done)), (by first | rfl | (simp; done) | (simp [*]; done)), (by first | rfl | (simp; done) | (simp [*]; done)), H', ⟨by have := HJ4.out; have := HK2.out; omega⟩, by repeat (first | exact Drawn0.refl _ | apply Drawn0.step)⟩
                · rw [if_neg c8] at H
                  have c8b0 : ((Go.bits .and .i64 x1_2 1) == 1) = false := beq_eq_false_iff_ne.mpr c8
                  have c8b1 : ((Go.bits .and .i64 x1_2 1) != 1) = true := bne_iff_ne.mpr c8
                  replace H := Option.bind_eq_some_iff.mp H
                  obtain ⟨t105, A110, H⟩ := H
                  replace H : (gf_Pow.l0 k2 t105 (x1_2 / 2) x5_2) = some r := H
                  have A11 := Aside0.mk A110
                  clear A110
                  have H' := Aside0.mk H
                  clear H
                  go_wp2_with (first | ((with_reducible refine gate_callee (f := 72) rfl ?_); refine goesL_ (some 28) rfl rfl Tryd.func72 (by kernel_rfl) rfl #[.int .u8 x0_2, .int .u8 x0_2] rfl (by (try simp only [List.map_toArray, List.map_cons, List.map_nil]); first | done | rfl | (simp only [List.length_drop, List.length_take]; rfl)) ?_; (with_reducible refine (gf_Mul.calls k2 x0_2 x0_2 t105 _ A11.out).mono ?_); rintro e w' ⟨rfl, ⟨nd, rfl⟩⟩; refine ⟨_, rfl, ?_⟩))
                  go_roundg k2
                  case measure => have := HJ4.out; have := HK2.out; omega
                  case rel => exact ⟨(t105), (x1_2 / 2), (x5_2), (by first | rfl | (simp; done) | (simp [*]; done)), (by first | rfl | (simp; done) | (simp [*]; done)), (by first | rfl | (simp; done) | (simp [*]; done)), H', ⟨by have := HJ4.out; have := HK2.out; omega⟩, by repeat (first | exact Drawn0.refl _ | apply Drawn0.step)⟩
              · rw [if_neg c7] at H
                have c7b0 : decide (0 < x1_2) = false := decide_eq_false c7
                clear c7
                obtain rfl := Option.some.inj H
                go_wp2
                go_ret
                exact ⟨by first | rfl | (simp; done) | (simp [*]; done), by repeat (first | exact Drawn0.refl _ | apply Drawn0.step)⟩

end Go.Proofs.YtndnedjclbigiaaDoor.F

namespace Go.Proofs.YtndnedjclbigiaaDoor.F
open Go.RowKit Go.Proofs.YtndnedjclbigiaaDoorW.PrintWords Go.Proofs.YtndnedjclbigiaaDoorW.PrintLast Go.Proofs.YtndnedjclbigiaaDoorW.PrintMore
attribute [local go_sem] max2_int min2_int max_two min_two max_three min_three max_four min_four   -- for this text's walks alone
set_option linter.unusedVariables false
set_option linter.unusedSimpArgs false
set_option linter.unusedSectionVars false
open Go.Proofs.YtndnedjclbigiaaDoor
variable [Errs]

/-! ### gf_Inv: function 38 -/
def gf_Inv.f (k : Nat) (a0 : Int) : Option (Int × Bool) := if a0 = 0 then (some (0, false)) else ((gf_Pow.f k a0 254).bind fun t106 => (some (t106, true)))
theorem gf_Inv.mono : ∀ a0 k, LeO (gf_Inv.f k a0) (gf_Inv.f (k + 1) a0) := by
  intro a0 k
  unfold gf_Inv.f
  repeat' first
      | (with_reducible exact gf_Pow.mono _ _ _)
      | (with_reducible exact LeO.refl _)
      | (with_reducible exact LeO.none _)
      | (with_reducible refine LeO.ite ?_ ?_)
      | (with_reducible refine LeO.bind ?_ (fun _ => ?_))
      | exact gf_Pow.mono _ _ _
      | exact LeO.none _
      | refine LeO.ite ?_ ?_
      | refine LeO.bind ?_ (fun _ => ?_)
set_option maxHeartbeats 8000000 in
set_option maxRecDepth 100000 in
theorem gf_Inv.calls (k : Nat) (a0 : Int) (r1 : Int) (r2 : Bool) (w : World) (h : gf_Inv.f k a0 = some (r1, r2)) :
    Calls Tryd.prog 38 #[.int .u8 a0] w fun e w' => e = .returned (.tuple #[.int .u8 r1, .bool r2]) ∧ Drawn0 w w' := by
  have H : (if a0 = 0 then (some (0, false)) else ((gf_Pow.f k a0 254).bind fun t106 => (some (t106, true)))) = some (r1, r2) := h
  clear h
  by_cases c2 : a0 = 0
  · rw [if_pos c2] at H
    have c2b0 : (a0 == 0) = true := beq_iff_eq.mpr c2
    have c2b1 : (a0 != 0) = false := bne_eq_false_iff_eq.mpr c2
    clear c2
    simp only [Option.some.injEq, Prod.mk.injEq] at H
    obtain ⟨rfl, rfl⟩ := H
    go_enter Tryd.func38, Tryd.ntmps38
    go_wp2
    go_ret2
    exact ⟨by first | rfl | (simp; done) | (simp [*]; done), by repeat (first | exact Drawn0.refl _ | apply Drawn0.step)⟩
  · rw [if_neg c2] at H
    have c2b0 : (a0 == 0) = false := beq_eq_false_iff_ne.mpr c2
    have c2b1 : (a0 != 0) = true := bne_iff_ne.mpr c2
    replace H := Option.bind_eq_some_iff.mp H
    obtain ⟨t106, A30, H⟩ := H
    replace H : (some (t106, true)) = some (r1, r2) := H
    have A3 := Aside0.mk A30
    clear A30
    simp only [Option.some.injEq, Prod.mk.injEq] at H
    obtain ⟨rfl, rfl⟩ := H
    go_enter Tryd.func38, Tryd.ntmps38
    go_wp2_with (first | ((with_reducible refine gate_callee (f := 58) rfl ?_); refine goesL_ (some 7) rfl rfl Tryd.func58 (by kernel_rfl) rfl #[.int .u8 a0, .int .i64 254] rfl (by (try simp only [List.map_toArray, List.map_cons, List.map_nil]); first | done | rfl | (simp only [List.length_drop, List.length_take]; rfl)) ?_; (with_reducible refine (gf_Pow.calls k a0 254 t106 _ A3.out).mono ?_); rintro e w' ⟨rfl, ⟨nd, rfl⟩⟩; refine ⟨_, rfl, ?_⟩))
    go_ret2
    exact ⟨by first | rfl | (simp; done) | (simp [*]; done), by repeat (first | exact Drawn0.refl _ | apply Drawn0.step)⟩

end Go.Proofs.YtndnedjclbigiaaDoor.F

namespace Go.Proofs.YtndnedjclbigiaaDoor.F
open Go.RowKit Go.Proofs.YtndnedjclbigiaaDoorW.PrintWords Go.Proofs.YtndnedjclbigiaaDoorW.PrintLast Go.Proofs.YtndnedjclbigiaaDoorW.PrintMore
attribute [local go_sem] max2_int min2_int max_two min_two max_three min_three max_four min_four   -- for this text's walks alone
set_option linter.unusedVariables false
set_option linter.unusedSimpArgs false
set_option linter.unusedSectionVars false
open Go.Proofs.YtndnedjclbigiaaDoor
variable [Errs]

/-! ### base_Parity: function 23 -/
def base_Parity.L : List Int := [1]
mutual
def base_Parity.l0 : Nat → Int → Int → Int → Int → Int → List Int → Option (Int × Int × List Int × Option Int)
  | 0, _, _, _, _, _, _ => none
  | k + 1, x0, x22, x23, x111000, x111001, x111002 => if x23 < x22 then (base_Parity.l1 k x0 x23 x22 x23 x0 0 x111000 x111001 x111002) else (some (x111000, x111001, x111002, none))
def base_Parity.l1 : Nat → Int → Int → Int → Int → Int → Int → Int → Int → List Int → Option (Int × Int × List Int × Option Int)
  | 0, _, _, _, _, _, _, _, _, _ => none
  | k + 1, x0, x8, x22, x23, x26, x27, x111000, x111001, x111002 => if x27 < x26 then ((gf_Inv.f k ((Go.bits .xor .i64 (wrap64 (x0 + x8)) x27) % 256)).bind fun bt111 => (if x111002.length < 140737488355328 then (base_Parity.l1 k x0 x8 x22 x23 x26 (wrap64 (x27 + 1)) x111000 x111001 (x111002 ++ [bt111.1])) else (none))) else (base_Parity.l0 k x0 x22 (wrap64 (x23 + 1)) x111000 x111001 x111002)
end
def base_Parity.f (k : Nat) (a0 : Int) (a1 : Int) : Option (Int × Int × List Int × Option Int) := (base_Check.f a0 a1).bind fun t108 => (if t108.isNone = true then (base_Parity.l0 k a0 a1 0 a1 a0 ([] : List Int)) else (some (0, 0, ([] : List Int), some (t108.getD 0))))
theorem base_Parity.mono_l : ∀ k, (∀ y0 y1 y2 y3 y4 y5, LeO (base_Parity.l0 k y0 y1 y2 y3 y4 y5) (base_Parity.l0 (k + 1) y0 y1 y2 y3 y4 y5)) ∧ (∀ y0 y1 y2 y3 y4 y5 y6 y7 y8, LeO (base_Parity.l1 k y0 y1 y2 y3 y4 y5 y6 y7 y8) (base_Parity.l1 (k + 1) y0 y1 y2 y3 y4 y5 y6 y7 y8))
  | 0 => ⟨fun _ _ _ _ _ _ r h => by simp [base_Parity.l0] at h, fun _ _ _ _ _ _ _ _ _ r h => by simp [base_Parity.l1] at h⟩
  | k + 1 => by
    obtain ⟨ih0, ih1⟩ := base_Parity.mono_l k
    refine ⟨?_, ?_⟩
    · intro y0 y1 y2 y3 y4 y5
      unfold base_Parity.l0
      repeat' first
      | (with_reducible exact ih0 _ _ _ _ _ _)
      | (with_reducible exact ih1 _ _ _ _ _ _ _ _ _)
      | (with_reducible exact gf_Inv.mono _ _)
      | (with_reducible exact LeO.refl _)
      | (with_reducible exact LeO.none _)
      | (with_reducible refine LeO.ite ?_ ?_)
      | (with_reducible refine LeO.bind ?_ (fun _ => ?_))
      | exact ih0 _ _ _ _ _ _
      | exact ih1 _ _ _ _ _ _ _ _ _
      | exact gf_Inv.mono _ _
      | exact LeO.none _
      | refine LeO.ite ?_ ?_
      | refine LeO.bind ?_ (fun _ => ?_)
    · intro y0 y1 y2 y3 y4 y5 y6 y7 y8
      unfold base_Parity.l1
      repeat' first
      | (with_reducible exact ih0 _ _ _ _ _ _)
      | (with_reducible exact ih1 _ _ _ _ _ _ _ _ _)
      | (with_reducible exact gf_Inv.mono _ _)
      | (with_reducible exact LeO.refl _)
      | (with_reducible exact LeO.none _)
      | (with_reducible refine LeO.ite ?_ ?_)
      | (with_reducible refine LeO.bind ?_ (fun _ => ?_))
      | exact ih0 _ _ _ _ _ _
      | exact ih1 _ _ _ _ _ _ _ _ _
      | exact gf_Inv.mono _ _
      | exact LeO.none _
      | refine LeO.ite ?_ ?_
      | refine LeO.bind ?_ (fun _ => ?_)
theorem base_Parity.mono : ∀ a0 a1 k, LeO (base_Parity.f k a0 a1) (base_Parity.f (k + 1) a0 a1) := by
  intro a0 a1 k
  obtain ⟨ih0, ih1⟩ := base_Parity.mono_l k
  unfold base_Parity.f
  repeat' first
      | (with_reducible exact ih0 _ _ _ _ _ _)
      | (with_reducible exact ih1 _ _ _ _ _ _ _ _ _)
      | (with_reducible exact gf_Inv.mono _ _)
      | (with_reducible exact LeO.refl _)
      | (with_reducible exact LeO.none _)
      | (with_reducible refine LeO.ite ?_ ?_)
      | (with_reducible refine LeO.bind ?_ (fun _ => ?_))
      | exact ih0 _ _ _ _ _ _
      | exact ih1 _ _ _ _ _ _ _ _ _
      | exact gf_Inv.mono _ _
      | exact LeO.none _
      | refine LeO.ite ?_ ?_
      | refine LeO.bind ?_ (fun _ => ?_)
set_option maxHeartbeats 8000000 in
set_option maxRecDepth 100000 in
theorem base_Parity.calls (k : Nat) (a0 : Int) (a1 : Int) (r1 : Int) (r2 : Int) (r3 : List Int) (r4 : Option Int) (w : World) (h : base_Parity.f k a0 a1 = some (r1, r2, r3, r4)) (hS : Sent base_Parity.L w) :
    Calls Tryd.prog 23 #[.int .i64 a0, .int .i64 a1] w fun e w' => ∃ v2_ : Value, e = .returned (.tuple #[.agg #[.int .i64 r1, .int .i64 r2, v2_], errW r4]) ∧ Kd.R (Kd.int .u8) 5 w' w.heap.size (fun _ => True) v2_ r3 ∧ Below w.heap.size w w' := by
  have hu43 := Tryd.underlying43
  have hu30 := Tryd.underlying30
  have HB := Aside0.mk (Below.refl w.heap.size w)
  have HS := Aside0.mk hS
  clear hS
  have H : ((base_Check.f a0 a1).bind fun t108 => (if t108.isNone = true then (base_Parity.l0 k a0 a1 0 a1 a0 ([] : List Int)) else (some (0, 0, ([] : List Int), some (t108.getD 0))))) = some (r1, r2, r3, r4) := h
  clear h
  replace H := Option.bind_eq_some_iff.mp H
  obtain ⟨t108, A30, H⟩ := H
  replace H : (if t108.isNone = true then (base_Parity.l0 k a0 a1 0 a1 a0 ([] : List Int)) else (some (0, 0, ([] : List Int), some (t108.getD 0)))) = some (r1, r2, r3, r4) := H
  have A3 := Aside0.mk A30
  clear A30
  rcases t108 with _ | q109
  · have H1 : (base_Parity.l0 k a0 a1 0 a1 a0 ([] : List Int)) = some (r1, r2, r3, r4) := by rw [if_pos (show (none : Option Int).isNone = true by rfl)] at H; exact H
    clear H
    have H := H1
    clear H1
    try simp only [errW_none, errW_some]
    have H' := Aside0.mk H
    clear H
    go_enter Tryd.func23, Tryd.ntmps23
    go_wp2_with (first | ((with_reducible refine gate_dst (N := 4) rfl ?_); refine box_event ?hg (N := 4) ?hd (cs := #[.int .i64 0, .int .i64 0, .slice none 0 0]) (t := 43) ?hr ?_; (case hd => rfl); (case hg => rfl); (case hr => first | (go_simp; done) | (go_simp; rfl)); intro gb107 hg w4 hbox hb; have n0_ := Aside0.mk (below_step (by repeat (first | (with_reducible first | exact HB.out | apply below_alloc | apply pw_below_drewN | apply below_drew1) | exact HB.out)) hb); have n1_ := Aside0.mk (hbox); have n2_ := Aside0.mk ((by rw [hg]; exact (below_size (by repeat (first | (with_reducible first | exact HB.out | apply below_alloc | apply pw_below_drewN | apply below_drew1) | exact HB.out))) : w.heap.size ≤ gb107)); have n3_ := Aside0.mk ((by rw [hg]; exact (below_size (by repeat (first | (with_reducible first | exact HB.out | apply below_alloc | apply pw_below_drewN | apply below_drew1) | exact HB.out))) : w.heap.size ≤ gb107)); clear HB; have HB := n0_; have BK107 := n1_; have GW107 := n2_; have GE107 := n3_; clear n0_ n1_ n2_ n3_; clear hb hbox hg) | ((with_reducible refine gate_callee (f := 30) rfl ?_); refine goesL_ (some 14) rfl rfl Tryd.func30 (by kernel_rfl) rfl #[.int .i64 a0, .int .i64 a1] rfl (by (try simp only [List.map_toArray, List.map_cons, List.map_nil]); first | done | rfl | (simp only [List.length_drop, List.length_take]; rfl)) ?_; (with_reducible refine (base_Check.calls a0 a1 none _ A3.out (Sent.sub (show ∀ c, c ∈ base_Check.L → c ∈ base_Parity.L by decide) (Sent.below HS.out (by repeat (first | (with_reducible first | exact HB.out | apply below_alloc | apply pw_below_drewN | apply below_drew1 | refine below_set ?_ GE107.out) | exact HB.out))))).mono ?_); rintro e w' ⟨rfl, ⟨nd, rfl⟩⟩; refine ⟨_, rfl, ?_⟩; (try simp only [errW_none, errW_some]); (try (rw [drewN_self w4]; generalize hq_ : World.drewN w4 _ = w4; have n0_ : Aside0 (w4.heap[gb107]? = some (.cells #[.int .i64 0, .int .i64 0, .slice none 0 0] 43 (0, 0))) := ⟨by rw [← hq_]; exact (by (with_reducible repeat (first | refine blk_drewN ?_ _ | refine blk_drew ?_ | refine blk_alloc ?_ _)); exact BK107.out)⟩; have n1_ : Aside0 (Below w.heap.size w w4) := ⟨by rw [← hq_]; exact (by repeat (first | (with_reducible first | exact HB.out | apply below_alloc | apply pw_below_drewN | apply below_drew1 | refine below_set ?_ GE107.out) | exact HB.out))⟩; clear BK107 HB hq_; have BK107 := n0_; have HB := n1_; clear n0_ n1_))) | ((with_reducible refine gate_dst (N := 7) rfl ?_); refine box_event ?hg (N := 7) ?hd (cs := #[.int .i64 0, .int .i64 0, .slice none 0 0]) (t := 43) ?hr ?_; (case hd => rfl); (case hg => rfl); (case hr => first | (go_simp; done) | (go_simp; rfl)); intro gb110 hg w5 hbox hb; have n0_ := Aside0.mk (blk_below (g := gb107) (o := .cells #[.int .i64 0, .int .i64 0, .slice none 0 0] 43 (0, 0)) (by (with_reducible repeat (first | refine blk_drewN ?_ _ | refine blk_drew ?_ | refine blk_alloc ?_ _)); exact BK107.out) hb); have n1_ := Aside0.mk (below_step (by repeat (first | (with_reducible first | exact HB.out | apply below_alloc | apply pw_below_drewN | apply below_drew1 | refine below_set ?_ GE107.out) | exact HB.out)) hb); have n2_ := Aside0.mk (hbox); have n3_ := Aside0.mk ((by rw [hg]; exact (below_size (by repeat (first | (with_reducible first | exact HB.out | apply below_alloc | apply pw_below_drewN | apply below_drew1 | refine below_set ?_ GE107.out) | exact HB.out))) : w.heap.size ≤ gb110)); have n4_ := Aside0.mk ((by rw [hg]; exact (below_size (by repeat (first | (with_reducible first | exact HB.out | apply below_alloc | apply pw_below_drewN | apply below_drew1 | refine below_set ?_ GE107.out) | exact HB.out))) : w.heap.size ≤ gb110)); have n5_ := Aside0.mk ((by rw [hg]; exact Nat.ne_of_lt (blk_lt (g := gb107) (o := .cells #[.int .i64 0, .int .i64 0, .slice none 0 0] 43 (0, 0)) (by (with_reducible repeat (first | refine blk_drewN ?_ _ | refine blk_drew ?_ | refine blk_alloc ?_ _)); exact BK107.out)) : gb107 ≠ gb110)); have n6_ := Aside0.mk ((by rw [hg]; exact Nat.ne_of_gt (blk_lt (g := gb107) (o := .cells #[.int .i64 0, .int .i64 0, .slice none 0 0] 43 (0, 0)) (by (with_reducible repeat (first | refine blk_drewN ?_ _ | refine blk_drew ?_ | refine blk_alloc ?_ _)); exact BK107.out)) : gb110 ≠ gb107)); clear BK107; clear HB; have BK107 := n0_; have HB := n1_; have BK110 := n2_; have GW110 := n3_; have GE110 := n4_; have NB107_110 := n5_; have NB110_107 := n6_; clear n0_ n1_ n2_ n3_ n4_ n5_ n6_; clear hb hbox hg; have hnb6 := NB110_107.out; have hnc6 := NB107_110.out; have hcz7_0 : w5.cell? ⟨gb110, 0, none⟩ = some (.int .i64 0) := (blk_cell BK110.out 0).trans rfl; have hcz7_1 : w5.cell? ⟨gb110, 1, none⟩ = some (.int .i64 0) := (blk_cell BK110.out 1).trans rfl; have hcz7_2 : w5.cell? ⟨gb110, 2, none⟩ = some (.slice none 0 0) := (blk_cell BK110.out 2).trans rfl; have hfz7_0 := blk_frozen BK110.out 0; have hfz7_1 := blk_frozen BK110.out 1; have hfz7_2 := blk_frozen BK110.out 2))
    go_loopg [23] k (fun kq v23 w' => ∃ (x23_1 : Int) (x111002_1 : List Int) (u111002 : Value), v23 = .int .i64 x23_1 ∧ Aside0 (base_Parity.l0 kq a0 a1 x23_1 a1 a0 x111002_1 = some (r1, r2, r3, r4)) ∧ Aside0 (kq ≤ k) ∧ Aside0 (Kd.R (Kd.int .u8) 5 w' w.heap.size (fun _ => True) u111002 x111002_1) ∧ Aside0 (w'.heap[gb107]? = some (.cells #[.int .i64 0, .int .i64 0, (.slice none 0 0)] 43 (0, 0))) ∧ Aside0 (w'.heap[gb110]? = some (.cells #[.int .i64 a1, .int .i64 a0, u111002] 43 (0, 0))) ∧ Aside0 (Below w.heap.size w w'))
    case atStart => exact ⟨(0), (([] : List Int)), (.slice none 0 0), (by first | rfl | (simp; done) | (simp [*]; done)), H', ⟨Nat.le_refl _⟩, ⟨by first | exact Kd.R_nil _ _ _ _ _ | exact Kd.N_nil _ _ _ _ _ | exact Kd.V_nil _ _ _ _ _ | exact Kd.Q_nil _ _ _ _ _ | exact Kd.S_nil _ _ _ _ _⟩, ⟨by (with_reducible repeat (first | refine blk_drewN ?_ _ | refine blk_drew ?_ | refine blk_alloc ?_ _)); refine blk_far ?_ NB107_110.out _; (with_reducible repeat (first | refine blk_drewN ?_ _ | refine blk_drew ?_ | refine blk_alloc ?_ _)); refine blk_far ?_ NB107_110.out _; (with_reducible repeat (first | refine blk_drewN ?_ _ | refine blk_drew ?_ | refine blk_alloc ?_ _)); refine blk_far ?_ NB107_110.out _; (with_reducible repeat (first | refine blk_drewN ?_ _ | refine blk_drew ?_ | refine blk_alloc ?_ _)); exact BK107.out⟩, ⟨by (with_reducible repeat (first | refine blk_drewN ?_ _ | refine blk_drew ?_ | refine blk_alloc ?_ _)); refine blk_put (cs := #[.int .i64 a1, .int .i64 a0, .slice none 0 0]) ?_ 2 _ rfl; (with_reducible repeat (first | refine blk_drewN ?_ _ | refine blk_drew ?_ | refine blk_alloc ?_ _)); refine blk_put (cs := #[.int .i64 a1, .int .i64 0, .slice none 0 0]) ?_ 1 _ rfl; (with_reducible repeat (first | refine blk_drewN ?_ _ | refine blk_drew ?_ | refine blk_alloc ?_ _)); refine blk_put (cs := #[.int .i64 0, .int .i64 0, .slice none 0 0]) ?_ 0 _ rfl; (with_reducible repeat (first | refine blk_drewN ?_ _ | refine blk_drew ?_ | refine blk_alloc ?_ _)); exact BK110.out⟩, ⟨by repeat (first | (with_reducible first | exact HB.out | apply below_alloc | apply pw_below_drewN | apply below_drew1 | refine below_set ?_ GE107.out | refine below_set ?_ GE110.out) | exact HB.out)⟩⟩
    case round =>
      clear H'
      try clear q1
      try clear c2
      try clear p2
      try clear c3
      try clear c6
      try clear hcz7_0
      try clear hcz7_1
      try clear hcz7_2
      try clear hfz7_0
      try clear hfz7_1
      try clear hfz7_2
      try clear q109
      obtain ⟨x23_1, x111002_1, u111002, rfl, HA, HK1, HO_111002, BK107, BK110, HB⟩ := hrel
      cases gk with
      | zero => exact absurd HA.out (by simp [base_Parity.l0])
      | succ k1 =>
        have H := HA.out
        clear HA
        first | rw [base_Parity.l0] at H | simp only [base_Parity.l0] at H
        by_cases c8 : x23_1 < a1
        · rw [if_pos c8] at H
          have c8b0 : decide (x23_1 < a1) = true := decide_eq_true c8
          clear c8
          have H' := Aside0.mk H
          clear H
          go_wp2
          go_loopg [27] k1 (fun kq v27 w' => ∃ (x27_2 : Int) (x111002_2 : List Int) (u111002 : Value), v27 = .int .i64 x27_2 ∧ Aside0 (base_Parity.l1 kq a0 x23_1 a1 x23_1 a0 x27_2 a1 a0 x111002_2 = some (r1, r2, r3, r4)) ∧ Aside0 (kq ≤ k1) ∧ Aside0 (Kd.R (Kd.int .u8) 5 w' w.heap.size (fun _ => True) u111002 x111002_2) ∧ Aside0 (w'.heap[gb107]? = some (.cells #[.int .i64 0, .int .i64 0, (.slice none 0 0)] 43 (0, 0))) ∧ Aside0 (w'.heap[gb110]? = some (.cells #[.int .i64 a1, .int .i64 a0, u111002] 43 (0, 0))) ∧ Aside0 (Below w.heap.size w w'))
          case atStart => exact ⟨(0), (x111002_1), (u111002), (by first | rfl | (simp; done) | (simp [*]; done)), H', ⟨Nat.le_refl _⟩, ⟨by (with_reducible repeat (first | apply Kd.R_alloc | apply Kd.R_drewN | apply Kd.R_drew)); exact HO_111002.out⟩, ⟨by (with_reducible repeat (first | refine blk_drewN ?_ _ | refine blk_drew ?_ | refine blk_alloc ?_ _)); exact BK107.out⟩, ⟨by (with_reducible repeat (first | refine blk_drewN ?_ _ | refine blk_drew ?_ | refine blk_alloc ?_ _)); exact BK110.out⟩, ⟨by repeat (first | (with_reducible first | exact HB.out | apply below_alloc | apply pw_below_drewN | apply below_drew1 | refine below_set ?_ GE107.out | refine below_set ?_ GE110.out) | exact HB.out)⟩⟩
          case round =>
            clear H'
            try clear q1
            try clear c2
            try clear p2
            try clear c3
            try clear c6
            try clear c8
            try clear c8b0
            try clear hcz7_0
            try clear hcz7_1
            try clear hcz7_2
            try clear hfz7_0
            try clear hfz7_1
            try clear hfz7_2
            try clear p2
            try clear q1
            try clear q109
            obtain ⟨x27_2, x111002_2, u111002, rfl, HA, HK2, HO_111002, BK107, BK110, HB⟩ := hrel
            cases gk with
            | zero => exact absurd HA.out (by simp [base_Parity.l1])
            | succ k2 =>
              have H := HA.out
              clear HA
              first | rw [base_Parity.l1] at H | simp only [base_Parity.l1] at H
              by_cases c9 : x27_2 < a0
              · rw [if_pos c9] at H
                have c9b0 : decide (x27_2 < a0) = true := decide_eq_true c9
                clear c9
                replace H := Option.bind_eq_some_iff.mp H
                obtain ⟨⟨t111, t112⟩, A100, H⟩ := H
                replace H : (if x111002_2.length < 140737488355328 then (base_Parity.l1 k2 a0 x23_1 a1 x23_1 a0 (wrap64 (x27_2 + 1)) a1 a0 (x111002_2 ++ [t111])) else (none)) = some (r1, r2, r3, r4) := H
                have A10 := Aside0.mk A100
                clear A100
                by_cases c11 : x111002_2.length < 140737488355328
                · rw [if_pos c11] at H
                  have LMc11 := Aside0.mk c11
                  clear c11
                  obtain ⟨y113, hy113⟩ : ∃ y_ : List Int, y_ = (x111002_2 ++ [t111]) := ⟨_, rfl⟩
                  replace H : (base_Parity.l1 k2 a0 x23_1 a1 x23_1 a0 (wrap64 (x27_2 + 1)) a1 a0 y113) = some (r1, r2, r3, r4) := by first | (rw [hy113]; with_reducible exact H) | (have H2_ := (Option.bind_some _ _).symm.trans H; rw [hy113]; with_reducible exact H2_) | (have H2_ := (Option.bind_some _ _).symm.trans H; with_reducible exact H2_) | with_reducible exact H | (rw [hy113]; exact H) | exact H
                  have Ny113 := Aside0.mk hy113
                  clear hy113
                  have H' := Aside0.mk H
                  clear H
                  go_wp2_with (first | ((with_reducible refine gate_callee (f := 38) rfl ?_); refine goesL_ (some 37) rfl rfl Tryd.func38 (by kernel_rfl) rfl #[.int .u8 ((Go.bits .xor .i64 (wrap64 (a0 + x23_1)) x27_2) % 256)] rfl (by (try simp only [List.map_toArray, List.map_cons, List.map_nil]); first | done | rfl | (simp only [List.length_drop, List.length_take]; rfl)) ?_; (with_reducible refine (gf_Inv.calls k2 ((Go.bits .xor .i64 (wrap64 (a0 + x23_1)) x27_2) % 256) t111 t112 _ A10.out).mono ?_); rintro e w' ⟨rfl, ⟨nd, rfl⟩⟩; refine ⟨_, rfl, ?_⟩; (try (rw [drewN_self wr]; generalize hq_ : World.drewN wr _ = wr; have n0_ : Aside0 (Kd.R (Kd.int .u8) 5 wr w.heap.size (fun _ => True) u111002 x111002_2) := ⟨by rw [← hq_]; exact (by (with_reducible repeat (first | apply Kd.R_alloc | apply Kd.R_drewN | apply Kd.R_drew)); exact HO_111002.out)⟩; have n1_ : Aside0 (wr.heap[gb107]? = some (.cells #[.int .i64 0, .int .i64 0, .slice none 0 0] 43 (0, 0))) := ⟨by rw [← hq_]; exact (by (with_reducible repeat (first | refine blk_drewN ?_ _ | refine blk_drew ?_ | refine blk_alloc ?_ _)); exact BK107.out)⟩; have n2_ : Aside0 (wr.heap[gb110]? = some (.cells #[.int .i64 a1, .int .i64 a0, u111002] 43 (0, 0))) := ⟨by rw [← hq_]; exact (by (with_reducible repeat (first | refine blk_drewN ?_ _ | refine blk_drew ?_ | refine blk_alloc ?_ _)); exact BK110.out)⟩; have n3_ : Aside0 (Below w.heap.size w wr) := ⟨by rw [← hq_]; exact (by repeat (first | (with_reducible first | exact HB.out | apply below_alloc | apply pw_below_drewN | apply below_drew1 | refine below_set ?_ GE107.out | refine below_set ?_ GE110.out) | exact HB.out))⟩; clear HO_111002 BK107 BK110 HB hq_; have HO_111002 := n0_; have BK107 := n1_; have BK110 := n2_; have HB := n3_; clear n0_ n1_ n2_ n3_)); have hnb12 := NB110_107.out; have hnc12 := NB107_110.out; have hcz13_0 : wr.cell? ⟨gb110, 0, none⟩ = some (.int .i64 a1) := (blk_cell BK110.out 0).trans rfl; have hcz13_1 : wr.cell? ⟨gb110, 1, none⟩ = some (.int .i64 a0) := (blk_cell BK110.out 1).trans rfl; have hcz13_2 : wr.cell? ⟨gb110, 2, none⟩ = some (u111002) := (blk_cell BK110.out 2).trans rfl; have hfz13_0 := blk_frozen BK110.out 0; have hfz13_1 := blk_frozen BK110.out 1; have hfz13_2 := blk_frozen BK110.out 2) | ((with_reducible refine gate_builtin (b := .append) (xs := #[.tmp 41, .tmp 43]) rfl ?_); at_builtin; refine Kd.R_append (Kd.int .u8) (w0 := w) w.heap.size rfl (.tmp 41) (.tmp 43) 41 5 (.int .u8 0) 1 rfl Tryd.underlying41 info5 rfl (by decide) (by omega) u111002 x111002_2 t111 [.int .u8 t111] (fun _ => True) (fun _ => False) rfl rfl ?aP (fun _ hk => hk.elim) ?aF ?aO ?aB ?aS ?aL ?_; (case aP => exact rfl); (case aB => exact (by repeat (first | (with_reducible first | exact HB.out | apply below_alloc | apply pw_below_drewN | apply below_drew1 | refine below_set ?_ GE107.out | refine below_set ?_ GE110.out) | exact HB.out))); (case aF => exact (fun _ _ => trivial)); (case aO => exact (by (with_reducible repeat (first | apply Kd.R_alloc | apply Kd.R_drewN | apply Kd.R_drew)); exact HO_111002.out)); (case aS => exact (below_size (by repeat (first | (with_reducible first | exact HB.out | apply below_alloc | apply pw_below_drewN | apply below_drew1 | refine below_set ?_ GE107.out | refine below_set ?_ GE110.out) | exact HB.out)))); (case aL => have := LMc11.out; omega); intro v114 w14 ho hb hg hat; rw [← Ny113.out] at ho; have n0_ := Aside0.mk (blk_grown (g := gb107) (o := .cells #[.int .i64 0, .int .i64 0, .slice none 0 0] 43 (0, 0)) (by (with_reducible repeat (first | refine blk_drewN ?_ _ | refine blk_drew ?_ | refine blk_alloc ?_ _)); exact BK107.out) hg (Kd.R_ne HO_111002.out BK107.out (by decide))); have n1_ := Aside0.mk (blk_grown (g := gb110) (o := .cells #[.int .i64 a1, .int .i64 a0, u111002] 43 (0, 0)) (by (with_reducible repeat (first | refine blk_drewN ?_ _ | refine blk_drew ?_ | refine blk_alloc ?_ _)); exact BK110.out) hg (Kd.R_ne HO_111002.out BK110.out (by decide))); have n2_ := Aside0.mk (hb); have n3_ := Aside0.mk (ho); clear BK107; clear BK110; clear HB; clear HO_111002; have BK107 := n0_; have BK110 := n1_; have HB := n2_; have HO115 := n3_; clear n0_ n1_ n2_ n3_; clear ho hb hg hat; obtain ⟨Ao15, co15, eo15⟩ := Kd.R_slice HO115.out; subst eo15; have hcz16_0 : w14.cell? ⟨gb110, 0, none⟩ = some (.int .i64 a1) := (blk_cell BK110.out 0).trans rfl; have hcz16_1 : w14.cell? ⟨gb110, 1, none⟩ = some (.int .i64 a0) := (blk_cell BK110.out 1).trans rfl; have hcz16_2 : w14.cell? ⟨gb110, 2, none⟩ = some (u111002) := (blk_cell BK110.out 2).trans rfl; have hfz16_0 := blk_frozen BK110.out 0; have hfz16_1 := blk_frozen BK110.out 1; have hfz16_2 := blk_frozen BK110.out 2))
                  go_roundg k2
                  case measure => have := HK1.out; have := HK2.out; omega
                  case rel => exact ⟨(wrap64 (x27_2 + 1)), (y113), (.slice Ao15 y113.length co15), (by first | rfl | (simp; done) | (simp [*]; done)), H', ⟨by have := HK1.out; have := HK2.out; omega⟩, ⟨by (with_reducible repeat (first | apply Kd.R_alloc | apply Kd.R_drewN | apply Kd.R_drew)); exact Kd.R_mono (Kd.R_far (p := ⟨gb110, 2, none⟩) (Kd.R_types HO115.out BK110.out (by decide)) (fun _ hk => hk.2) (.slice Ao15 y113.length co15)) (fun _ hk => trivial)⟩, ⟨by (with_reducible repeat (first | refine blk_drewN ?_ _ | refine blk_drew ?_ | refine blk_alloc ?_ _)); refine blk_far ?_ NB107_110.out _; (with_reducible repeat (first | refine blk_drewN ?_ _ | refine blk_drew ?_ | refine blk_alloc ?_ _)); exact BK107.out⟩, ⟨by (with_reducible repeat (first | refine blk_drewN ?_ _ | refine blk_drew ?_ | refine blk_alloc ?_ _)); refine blk_put (cs := #[.int .i64 a1, .int .i64 a0, u111002]) ?_ 2 _ rfl; (with_reducible repeat (first | refine blk_drewN ?_ _ | refine blk_drew ?_ | refine blk_alloc ?_ _)); exact BK110.out⟩, ⟨by repeat (first | (with_reducible first | exact HB.out | apply below_alloc | apply pw_below_drewN | apply below_drew1 | refine below_set ?_ GE107.out | refine below_set ?_ GE110.out) | exact HB.out)⟩⟩
                · rw [if_neg c11] at H
                  exact absurd H (by simp)
              · rw [if_neg c9] at H
                have c9b0 : decide (x27_2 < a0) = false := decide_eq_false c9
                clear c9
                have H' := Aside0.mk H
                clear H
                go_wp2
                go_roundg k2
                case measure => have := HK1.out; have := HK2.out; omega
                case rel => exact ⟨(wrap64 (x23_1 + 1)), (x111002_2), (u111002), (by first | rfl | (simp; done) | (simp [*]; done)), H', ⟨by have := HK1.out; have := HK2.out; omega⟩, ⟨by (with_reducible repeat (first | apply Kd.R_alloc | apply Kd.R_drewN | apply Kd.R_drew)); exact HO_111002.out⟩, ⟨by (with_reducible repeat (first | refine blk_drewN ?_ _ | refine blk_drew ?_ | refine blk_alloc ?_ _)); exact BK107.out⟩, ⟨by (with_reducible repeat (first | refine blk_drewN ?_ _ | refine blk_drew ?_ | refine blk_alloc ?_ _)); exact BK110.out⟩, ⟨by repeat (first | (with_reducible first | exact HB.out | apply below_alloc | apply pw_below_drewN | apply below_drew1 | refine below_set ?_ GE107.out | refine below_set ?_ GE110.out) | exact HB.out)⟩⟩
        · rw [if_neg c8] at H
          have c8b0 : decide (x23_1 < a1) = false := decide_eq_false c8
          clear c8
          simp only [Option.some.injEq, Prod.mk.injEq] at H
          obtain ⟨rfl, rfl, rfl, rfl⟩ := H
          have hnb17 := NB110_107.out
          have hnc17 := NB107_110.out
          have hcz18_0 : wr.cell? ⟨gb110, 0, none⟩ = some (.int .i64 a1) := (blk_cell BK110.out 0).trans rfl
          have hcz18_1 : wr.cell? ⟨gb110, 1, none⟩ = some (.int .i64 a0) := (blk_cell BK110.out 1).trans rfl
          have hcz18_2 : wr.cell? ⟨gb110, 2, none⟩ = some (u111002) := (blk_cell BK110.out 2).trans rfl
          have hfz18_0 := blk_frozen BK110.out 0
          have hfz18_1 := blk_frozen BK110.out 1
          have hfz18_2 := blk_frozen BK110.out 2
          have hcz19_0 : wr.cell? ⟨gb107, 0, none⟩ = some (.int .i64 0) := (blk_cell BK107.out 0).trans rfl
          have hcz19_1 : wr.cell? ⟨gb107, 1, none⟩ = some (.int .i64 0) := (blk_cell BK107.out 1).trans rfl
          have hcz19_2 : wr.cell? ⟨gb107, 2, none⟩ = some (.slice none 0 0) := (blk_cell BK107.out 2).trans rfl
          have hfz19_0 := blk_frozen BK107.out 0
          have hfz19_1 := blk_frozen BK107.out 1
          have hfz19_2 := blk_frozen BK107.out 2
          obtain ⟨Ao20, co20, eo20⟩ := Kd.R_slice HO_111002.out
          subst eo20
          go_wp2
          refine bodyPost_ret (results_ct rfl _ _ gb107 43 #[.int .i64 a1, .int .i64 a0, .slice Ao20 x111002_1.length co20] (0, 0) _ rfl (by (with_reducible repeat (first | refine blk_drewN ?_ _ | refine blk_drew ?_ | refine blk_alloc ?_ _)); refine blk_put (cs := #[.int .i64 a1, .int .i64 a0, .slice none 0 0]) ?_ 2 _ rfl; (with_reducible repeat (first | refine blk_drewN ?_ _ | refine blk_drew ?_ | refine blk_alloc ?_ _)); refine blk_put (cs := #[.int .i64 a1, .int .i64 0, .slice none 0 0]) ?_ 1 _ rfl; (with_reducible repeat (first | refine blk_drewN ?_ _ | refine blk_drew ?_ | refine blk_alloc ?_ _)); refine blk_put (cs := #[.int .i64 0, .int .i64 0, .slice none 0 0]) ?_ 0 _ rfl; (with_reducible repeat (first | refine blk_drewN ?_ _ | refine blk_drew ?_ | refine blk_alloc ?_ _)); exact BK107.out) Tryd.underlying43 rfl (by kernel_rfl)) rfl ?_
          exact ⟨_, by first | rfl | (simp [errW_none, errW_some] <;> rfl) | (simp [*, errW_none, errW_some] <;> rfl), by (with_reducible repeat (first | apply Kd.R_alloc | apply Kd.R_drewN | apply Kd.R_drew)); exact Kd.R_mono (Kd.R_far (p := ⟨gb107, 2, none⟩) (Kd.R_far (p := ⟨gb107, 1, none⟩) (Kd.R_far (p := ⟨gb107, 0, none⟩) (Kd.R_types HO_111002.out BK107.out (by decide)) (fun _ hk => hk.2) (.int .i64 a1)) (fun _ hk => hk.2) (.int .i64 a0)) (fun _ hk => hk.2) (.slice Ao20 x111002_1.length co20)) (fun _ hk => trivial), by repeat (first | (with_reducible first | exact HB.out | apply below_alloc | apply pw_below_drewN | apply below_drew1 | refine below_set ?_ GE107.out | refine below_set ?_ GE110.out) | exact HB.out)⟩
  · have H1 : (some (0, 0, ([] : List Int), some q109)) = some (r1, r2, r3, r4) := by rw [if_neg (show ¬ (some q109).isNone = true by simp)] at H; exact H
    clear H
    have H := H1
    clear H1
    try simp only [errW_none, errW_some]
    simp only [Option.some.injEq, Prod.mk.injEq] at H
    obtain ⟨rfl, rfl, rfl, rfl⟩ := H
    go_enter Tryd.func23, Tryd.ntmps23
    go_wp2_with (first | ((with_reducible refine gate_dst (N := 4) rfl ?_); refine box_event ?hg (N := 4) ?hd (cs := #[.int .i64 0, .int .i64 0, .slice none 0 0]) (t := 43) ?hr ?_; (case hd => rfl); (case hg => rfl); (case hr => first | (go_simp; done) | (go_simp; rfl)); intro gb107 hg w21 hbox hb; have n0_ := Aside0.mk (below_step (by repeat (first | (with_reducible first | exact HB.out | apply below_alloc | apply pw_below_drewN | apply below_drew1) | exact HB.out)) hb); have n1_ := Aside0.mk (hbox); have n2_ := Aside0.mk ((by rw [hg]; exact (below_size (by repeat (first | (with_reducible first | exact HB.out | apply below_alloc | apply pw_below_drewN | apply below_drew1) | exact HB.out))) : w.heap.size ≤ gb107)); have n3_ := Aside0.mk ((by rw [hg]; exact (below_size (by repeat (first | (with_reducible first | exact HB.out | apply below_alloc | apply pw_below_drewN | apply below_drew1) | exact HB.out))) : w.heap.size ≤ gb107)); clear HB; have HB := n0_; have BK107 := n1_; have GW107 := n2_; have GE107 := n3_; clear n0_ n1_ n2_ n3_; clear hb hbox hg) | ((with_reducible refine gate_callee (f := 30) rfl ?_); refine goesL_ (some 14) rfl rfl Tryd.func30 (by kernel_rfl) rfl #[.int .i64 a0, .int .i64 a1] rfl (by (try simp only [List.map_toArray, List.map_cons, List.map_nil]); first | done | rfl | (simp only [List.length_drop, List.length_take]; rfl)) ?_; (with_reducible refine (base_Check.calls a0 a1 (some q109) _ A3.out (Sent.sub (show ∀ c, c ∈ base_Check.L → c ∈ base_Parity.L by decide) (Sent.below HS.out (by repeat (first | (with_reducible first | exact HB.out | apply below_alloc | apply pw_below_drewN | apply below_drew1 | refine below_set ?_ GE107.out) | exact HB.out))))).mono ?_); rintro e w' ⟨rfl, ⟨nd, rfl⟩⟩; refine ⟨_, rfl, ?_⟩; (try simp only [errW_none, errW_some]); (try (rw [drewN_self w21]; generalize hq_ : World.drewN w21 _ = w21; have n0_ : Aside0 (w21.heap[gb107]? = some (.cells #[.int .i64 0, .int .i64 0, .slice none 0 0] 43 (0, 0))) := ⟨by rw [← hq_]; exact (by (with_reducible repeat (first | refine blk_drewN ?_ _ | refine blk_drew ?_ | refine blk_alloc ?_ _)); exact BK107.out)⟩; have n1_ : Aside0 (Below w.heap.size w w21) := ⟨by rw [← hq_]; exact (by repeat (first | (with_reducible first | exact HB.out | apply below_alloc | apply pw_below_drewN | apply below_drew1 | refine below_set ?_ GE107.out) | exact HB.out))⟩; clear BK107 HB hq_; have BK107 := n0_; have HB := n1_; clear n0_ n1_)); have hcz22_0 : w21.cell? ⟨gb107, 0, none⟩ = some (.int .i64 0) := (blk_cell BK107.out 0).trans rfl; have hcz22_1 : w21.cell? ⟨gb107, 1, none⟩ = some (.int .i64 0) := (blk_cell BK107.out 1).trans rfl; have hcz22_2 : w21.cell? ⟨gb107, 2, none⟩ = some (.slice none 0 0) := (blk_cell BK107.out 2).trans rfl; have hfz22_0 := blk_frozen BK107.out 0; have hfz22_1 := blk_frozen BK107.out 1; have hfz22_2 := blk_frozen BK107.out 2))
    refine bodyPost_ret (results_ct rfl _ _ gb107 43 #[.int .i64 0, .int .i64 0, .slice none 0 0] (0, 0) _ rfl (by (with_reducible repeat (first | refine blk_drewN ?_ _ | refine blk_drew ?_ | refine blk_alloc ?_ _)); refine blk_put (cs := #[.int .i64 0, .int .i64 0, .slice none 0 0]) ?_ 2 _ rfl; (with_reducible repeat (first | refine blk_drewN ?_ _ | refine blk_drew ?_ | refine blk_alloc ?_ _)); refine blk_put (cs := #[.int .i64 0, .int .i64 0, .slice none 0 0]) ?_ 1 _ rfl; (with_reducible repeat (first | refine blk_drewN ?_ _ | refine blk_drew ?_ | refine blk_alloc ?_ _)); refine blk_put (cs := #[.int .i64 0, .int .i64 0, .slice none 0 0]) ?_ 0 _ rfl; (with_reducible repeat (first | refine blk_drewN ?_ _ | refine blk_drew ?_ | refine blk_alloc ?_ _)); exact BK107.out) Tryd.underlying43 rfl (by kernel_rfl)) rfl ?_
    exact ⟨_, by first | rfl | (simp [errW_none, errW_some] <;> rfl) | (simp [*, errW_none, errW_some] <;> rfl), by first | exact Kd.R_nil _ _ _ _ _ | exact Kd.N_nil _ _ _ _ _ | exact Kd.V_nil _ _ _ _ _ | exact Kd.Q_nil _ _ _ _ _ | exact Kd.S_nil _ _ _ _ _, by repeat (first | (with_reducible first | exact HB.out | apply below_alloc | apply pw_below_drewN | apply below_drew1 | refine below_set ?_ GE107.out) | exact HB.out)⟩

end Go.Proofs.YtndnedjclbigiaaDoor.F

namespace Go.Proofs.YtndnedjclbigiaaDoor.F
open Go.RowKit Go.Proofs.YtndnedjclbigiaaDoorW.PrintWords Go.Proofs.YtndnedjclbigiaaDoorW.PrintLast Go.Proofs.YtndnedjclbigiaaDoorW.PrintMore
attribute [local go_sem] max2_int min2_int max_two min_two max_three min_three max_four min_four   -- for this text's walks alone
set_option linter.unusedVariables false
set_option linter.unusedSimpArgs false
set_option linter.unusedSectionVars false
open Go.Proofs.YtndnedjclbigiaaDoor
variable [Errs]

/-! ### half_place_number: function 39 -/
def half_place_number.f (a0_0 : Int) (a0_1 : Int) : Option (Int) := some (wrap64 ((wrap64 (2 * a0_0)) + a0_1))
set_option maxHeartbeats 8000000 in
set_option maxRecDepth 100000 in
theorem half_place_number.calls (a0_0 : Int) (a0_1 : Int) (r : Int) (w : World) (h : half_place_number.f a0_0 a0_1 = some r) :
    Calls Tryd.prog 39 #[.agg #[.int .i64 a0_0, .int .i64 a0_1]] w fun e w' => e = .returned (.int .i64 r) ∧ Below w.heap.size w w' := by
  have hu58 := Tryd.underlying58
  have HB := Aside0.mk (Below.refl w.heap.size w)
  have H : (some (wrap64 ((wrap64 (2 * a0_0)) + a0_1))) = some r := h
  clear h
  obtain rfl := Option.some.inj H
  go_enter Tryd.func39, Tryd.ntmps39
  go_wp2_with (first | ((with_reducible refine gate_dst (N := 1) rfl ?_); refine box_event ?hg (N := 1) ?hd (cs := #[.int .i64 a0_0, .int .i64 a0_1]) (t := 58) ?hr ?_; (case hd => rfl); (case hg => rfl); (case hr => first | (go_simp; done) | (go_simp; rfl)); intro gb116 hg w2 hbox hb; have n0_ := Aside0.mk (below_step (by repeat (first | (with_reducible first | exact HB.out | apply below_alloc | apply pw_below_drewN | apply below_drew1) | exact HB.out)) hb); have n1_ := Aside0.mk (hbox); have n2_ := Aside0.mk ((by rw [hg]; exact (below_size (by repeat (first | (with_reducible first | exact HB.out | apply below_alloc | apply pw_below_drewN | apply below_drew1) | exact HB.out))) : w.heap.size ≤ gb116)); have n3_ := Aside0.mk ((by rw [hg]; exact (below_size (by repeat (first | (with_reducible first | exact HB.out | apply below_alloc | apply pw_below_drewN | apply below_drew1) | exact HB.out))) : w.heap.size ≤ gb116)); clear HB; have HB := n0_; have BK116 := n1_; have GW116 := n2_; have GE116 := n3_; clear n0_ n1_ n2_ n3_; clear hb hbox hg; have hcz3_0 : w2.cell? ⟨gb116, 0, none⟩ = some (.int .i64 a0_0) := (blk_cell BK116.out 0).trans rfl; have hcz3_1 : w2.cell? ⟨gb116, 1, none⟩ = some (.int .i64 a0_1) := (blk_cell BK116.out 1).trans rfl; have hfz3_0 := blk_frozen BK116.out 0; have hfz3_1 := blk_frozen BK116.out 1))
  go_ret
  exact ⟨by first | rfl | (simp [errW_none, errW_some] <;> rfl) | (simp [*, errW_none, errW_some] <;> rfl), by repeat (first | (with_reducible first | exact HB.out | apply below_alloc | apply pw_below_drewN | apply below_drew1 | refine below_set ?_ GE116.out) | exact HB.out)⟩

end Go.Proofs.YtndnedjclbigiaaDoor.F

namespace Go.Proofs.YtndnedjclbigiaaDoor.F
open Go.RowKit Go.Proofs.YtndnedjclbigiaaDoorW.PrintWords Go.Proofs.YtndnedjclbigiaaDoorW.PrintLast Go.Proofs.YtndnedjclbigiaaDoorW.PrintMore
attribute [local go_sem] max2_int min2_int max_two min_two max_three min_three max_four min_four   -- for this text's walks alone
set_option linter.unusedVariables false
set_option linter.unusedSimpArgs false
set_option linter.unusedSectionVars false
open Go.Proofs.YtndnedjclbigiaaDoor
variable [Errs]

/-! ### base_Group: function 59 -/
def base_Group.L : List Int := [1]
def base_Group.f (a0 : Int) (a1 : Int) : Option (Int × Option Int) := (base_Check.f a0 a1).bind fun t117 => (if t117.isNone = true then (if (wrap64 (a1 - 1)) = 0 then (none) else (some (wrap64 (Int.tdiv (wrap64 ((wrap64 (a0 + a1)) - 2)) (wrap64 (a1 - 1))), none))) else (some (0, some (t117.getD 0))))
set_option maxHeartbeats 8000000 in
set_option maxRecDepth 100000 in
theorem base_Group.calls (a0 : Int) (a1 : Int) (r1 : Int) (r2 : Option Int) (w : World) (h : base_Group.f a0 a1 = some (r1, r2)) (hS : Sent base_Group.L w) :
    Calls Tryd.prog 59 #[.int .i64 a0, .int .i64 a1] w fun e w' => e = .returned (.tuple #[.int .i64 r1, errW r2]) ∧ Drawn0 w w' := by
  have hu30 := Tryd.underlying30
  have HS := Aside0.mk hS
  clear hS
  have H : ((base_Check.f a0 a1).bind fun t117 => (if t117.isNone = true then (if (wrap64 (a1 - 1)) = 0 then (none) else (some (wrap64 (Int.tdiv (wrap64 ((wrap64 (a0 + a1)) - 2)) (wrap64 (a1 - 1))), none))) else (some (0, some (t117.getD 0))))) = some (r1, r2) := h
  clear h
  replace H := Option.bind_eq_some_iff.mp H
  obtain ⟨t117, A30, H⟩ := H
  replace H : (if t117.isNone = true then (if (wrap64 (a1 - 1)) = 0 then (none) else (some (wrap64 (Int.tdiv (wrap64 ((wrap64 (a0 + a1)) - 2)) (wrap64 (a1 - 1))), none))) else (some (0, some (t117.getD 0)))) = some (r1, r2) := H
  have A3 := Aside0.mk A30
  clear A30
  rcases t117 with _ | q118
  · have H1 : (if (wrap64 (a1 - 1)) = 0 then (none) else (some (wrap64 (Int.tdiv (wrap64 ((wrap64 (a0 + a1)) - 2)) (wrap64 (a1 - 1))), none))) = some (r1, r2) := by rw [if_pos (show (none : Option Int).isNone = true by rfl)] at H; exact H
    clear H
    have H := H1
    clear H1
    try simp only [errW_none, errW_some]
    by_cases c4 : (wrap64 (a1 - 1)) = 0
    · rw [if_pos c4] at H
      exact absurd H (by simp)
    · rw [if_neg c4] at H
      have c4b0 : ((wrap64 (a1 - 1)) == 0) = false := beq_eq_false_iff_ne.mpr c4
      have c4b1 : ((wrap64 (a1 - 1)) != 0) = true := bne_iff_ne.mpr c4
      simp only [Option.some.injEq, Prod.mk.injEq] at H
      obtain ⟨rfl, rfl⟩ := H
      go_enter Tryd.func59, Tryd.ntmps59
      go_wp2_with (first | ((with_reducible refine gate_callee (f := 30) rfl ?_); refine goesL_ (some 9) rfl rfl Tryd.func30 (by kernel_rfl) rfl #[.int .i64 a0, .int .i64 a1] rfl (by (try simp only [List.map_toArray, List.map_cons, List.map_nil]); first | done | rfl | (simp only [List.length_drop, List.length_take]; rfl)) ?_; (with_reducible refine (base_Check.calls a0 a1 none _ A3.out (Sent.sub (show ∀ c, c ∈ base_Check.L → c ∈ base_Group.L by decide) (by repeat (first | (with_reducible first | exact HS.out | apply Sent.drewN | apply Sent.drew) | exact HS.out)))).mono ?_); rintro e w' ⟨rfl, ⟨nd, rfl⟩⟩; refine ⟨_, rfl, ?_⟩; (try simp only [errW_none, errW_some])))
      go_ret2
      exact ⟨by first | rfl | (simp; done) | (simp [*]; done), by repeat (first | exact Drawn0.refl _ | apply Drawn0.step)⟩
  · have H1 : (some (0, some q118)) = some (r1, r2) := by rw [if_neg (show ¬ (some q118).isNone = true by simp)] at H; exact H
    clear H
    have H := H1
    clear H1
    try simp only [errW_none, errW_some]
    simp only [Option.some.injEq, Prod.mk.injEq] at H
    obtain ⟨rfl, rfl⟩ := H
    go_enter Tryd.func59, Tryd.ntmps59
    go_wp2_with (first | ((with_reducible refine gate_callee (f := 30) rfl ?_); refine goesL_ (some 9) rfl rfl Tryd.func30 (by kernel_rfl) rfl #[.int .i64 a0, .int .i64 a1] rfl (by (try simp only [List.map_toArray, List.map_cons, List.map_nil]); first | done | rfl | (simp only [List.length_drop, List.length_take]; rfl)) ?_; (with_reducible refine (base_Check.calls a0 a1 (some q118) _ A3.out (Sent.sub (show ∀ c, c ∈ base_Check.L → c ∈ base_Group.L by decide) (by repeat (first | (with_reducible first | exact HS.out | apply Sent.drewN | apply Sent.drew) | exact HS.out)))).mono ?_); rintro e w' ⟨rfl, ⟨nd, rfl⟩⟩; refine ⟨_, rfl, ?_⟩; (try simp only [errW_none, errW_some])))
    go_ret2
    exact ⟨by first | rfl | (simp; done) | (simp [*]; done), by repeat (first | exact Drawn0.refl _ | apply Drawn0.step)⟩

end Go.Proofs.YtndnedjclbigiaaDoor.F

namespace Go.Proofs.YtndnedjclbigiaaDoor.F
open Go.RowKit Go.Proofs.YtndnedjclbigiaaDoorW.PrintWords Go.Proofs.YtndnedjclbigiaaDoorW.PrintLast Go.Proofs.YtndnedjclbigiaaDoorW.PrintMore
attribute [local go_sem] max2_int min2_int max_two min_two max_three min_three max_four min_four   -- for this text's walks alone
set_option linter.unusedVariables false
set_option linter.unusedSimpArgs false
set_option linter.unusedSectionVars false
open Go.Proofs.YtndnedjclbigiaaDoor
variable [Errs]

/-! ### half_Carried: function 40 -/
def half_Carried.L : List Int := [1, 12]
mutual
def half_Carried.j0 : Nat → Int → Int → Int → Bool → Option (List Int × Option Int)
  | 0, _, _, _, _ => none
  | k + 1, x0, x2, x8, x27 => if x27 = true then (some (([] : List Int), some 12)) else (if x2 > 0 then (half_Carried.l0 k x0 x2 x8 ([] : List Int) (wrap64 ((wrap64 (x2 - 1)) * x8))) else (some (([] : List Int), none)))
def half_Carried.l0 : Nat → Int → Int → Int → List Int → Int → Option (List Int × Option Int)
  | 0, _, _, _, _, _ => none
  | k + 1, x0, x2, x8, x10, x11 => if x11 < (mn (wrap64 (x2 * x8)) x0) then (if x10.length < 17592186044416 then (half_Carried.l0 k x0 x2 x8 (x10 ++ [x11]) (wrap64 (x11 + 1))) else (none)) else (some (x10, none))
end
def half_Carried.f (k : Nat) (a0 : Int) (a1 : Int) (a2 : Int) : Option (List Int × Option Int) := (base_Group.f a0 a1).bind fun bt119 => (if bt119.2.isNone = true then (if a2 < 0 then (half_Carried.j0 k a0 a2 bt119.1 true) else (half_Carried.j0 k a0 a2 bt119.1 (decide (a2 ≥ a1)))) else (some (([] : List Int), some (bt119.2.getD 0))))
theorem half_Carried.mono_l : ∀ k, (∀ y0 y1 y2 y3, LeO (half_Carried.j0 k y0 y1 y2 y3) (half_Carried.j0 (k + 1) y0 y1 y2 y3)) ∧ (∀ y0 y1 y2 y3 y4, LeO (half_Carried.l0 k y0 y1 y2 y3 y4) (half_Carried.l0 (k + 1) y0 y1 y2 y3 y4))
  | 0 => ⟨fun _ _ _ _ r h => by simp [half_Carried.j0] at h, fun _ _ _ _ _ r h => by simp [half_Carried.l0] at h⟩
  | k + 1 => by
    obtain ⟨ih0, ih1⟩ := half_Carried.mono_l k
    refine ⟨?_, ?_⟩
    · intro y0 y1 y2 y3
      unfold half_Carried.j0
      repeat' first
      | (with_reducible exact ih0 _ _ _ _)
      | (with_reducible exact ih1 _ _ _ _ _)
      | (with_reducible exact LeO.refl _)
      | (with_reducible exact LeO.none _)
      | (with_reducible refine LeO.ite ?_ ?_)
      | (with_reducible refine LeO.bind ?_ (fun _ => ?_))
      | exact ih0 _ _ _ _
      | exact ih1 _ _ _ _ _
      | exact LeO.none _
      | refine LeO.ite ?_ ?_
      | refine LeO.bind ?_ (fun _ => ?_)
    · intro y0 y1 y2 y3 y4
      unfold half_Carried.l0
      repeat' first
      | (with_reducible exact ih0 _ _ _ _)
      | (with_reducible exact ih1 _ _ _ _ _)
      | (with_reducible exact LeO.refl _)
      | (with_reducible exact LeO.none _)
      | (with_reducible refine LeO.ite ?_ ?_)
      | (with_reducible refine LeO.bind ?_ (fun _ => ?_))
      | exact ih0 _ _ _ _
      | exact ih1 _ _ _ _ _
      | exact LeO.none _
      | refine LeO.ite ?_ ?_
      | refine LeO.bind ?_ (fun _ => ?_)
theorem half_Carried.mono : ∀ a0 a1 a2 k, LeO (half_Carried.f k a0 a1 a2) (half_Carried.f (k + 1) a0 a1 a2) := by
  intro a0 a1 a2 k
  obtain ⟨ih0, ih1⟩ := half_Carried.mono_l k
  unfold half_Carried.f
  repeat' first
      | (with_reducible exact ih0 _ _ _ _)
      | (with_reducible exact ih1 _ _ _ _ _)
      | (with_reducible exact LeO.refl _)
      | (with_reducible exact LeO.none _)
      | (with_reducible refine LeO.ite ?_ ?_)
      | (with_reducible refine LeO.bind ?_ (fun _ => ?_))
      | exact ih0 _ _ _ _
      | exact ih1 _ _ _ _ _
      | exact LeO.none _
      | refine LeO.ite ?_ ?_
      | refine LeO.bind ?_ (fun _ => ?_)
set_option maxHeartbeats 8000000 in
set_option maxRecDepth 100000 in
theorem half_Carried.calls (k : Nat) (a0 : Int) (a1 : Int) (a2 : Int) (r1 : List Int) (r2 : Option Int) (w : World) (h : half_Carried.f k a0 a1 a2 = some (r1, r2)) (hS : Sent half_Carried.L w) :
    Calls Tryd.prog 40 #[.int .i64 a0, .int .i64 a1, .int .i64 a2] w fun e w' => ∃ v0_ : Value, e = .returned (.tuple #[v0_, errW r2]) ∧ Kd.R (Kd.int .i64) 3 w' w.heap.size (fun _ => True) v0_ r1 ∧ Below w.heap.size w w' := by
  have hu30 := Tryd.underlying30
  have HB := Aside0.mk (Below.refl w.heap.size w)
  have HS := Aside0.mk hS
  have hgl12 := Sent.cell hS 12 1 rfl (by decide)
  simp only [errW_some] at hgl12
  have hglw12 := Sent.cell0 hS 12 1 rfl (by decide)
  simp only [errW_some] at hglw12
  clear hS
  have H : ((base_Group.f a0 a1).bind fun bt119 => (if bt119.2.isNone = true then (if a2 < 0 then (half_Carried.j0 k a0 a2 bt119.1 true) else (half_Carried.j0 k a0 a2 bt119.1 (decide (a2 ≥ a1)))) else (some (([] : List Int), some (bt119.2.getD 0))))) = some (r1, r2) := h
  clear h
  replace H := Option.bind_eq_some_iff.mp H
  obtain ⟨⟨t119, t120⟩, A40, H⟩ := H
  replace H : (if t120.isNone = true then (if a2 < 0 then (half_Carried.j0 k a0 a2 t119 true) else (half_Carried.j0 k a0 a2 t119 (decide (a2 ≥ a1)))) else (some (([] : List Int), some (t120.getD 0)))) = some (r1, r2) := H
  have A4 := Aside0.mk A40
  clear A40
  rcases t120 with _ | q121
  · have H1 : (if a2 < 0 then (half_Carried.j0 k a0 a2 t119 true) else (half_Carried.j0 k a0 a2 t119 (decide (a2 ≥ a1)))) = some (r1, r2) := by rw [if_pos (show (none : Option Int).isNone = true by rfl)] at H; exact H
    clear H
    have H := H1
    clear H1
    try simp only [errW_none, errW_some]
    have HC5 := Aside0.mk H
    clear H
    go_enter Tryd.func40, Tryd.ntmps40
    go_upto_region 4 with (first | (go_at_call 59; (with_reducible refine (base_Group.calls a0 a1 t119 none _ A4.out (Sent.sub (show ∀ c, c ∈ base_Group.L → c ∈ half_Carried.L by decide) (Sent.below HS.out (by repeat (first | (with_reducible first | exact HB.out | apply below_alloc | apply pw_below_drewN | apply below_drew1) | exact HB.out))))).mono ?_); rintro e w' ⟨rfl, ⟨nd, rfl⟩⟩; (try simp only [errW_none, errW_some]); (try first | exact ⟨rfl, _, World.drewN_drewN _ _ _⟩ | exact ⟨rfl, _, Eq.trans (World.drewN_drewN _ _ _) (congrArg (World.drewN _) (Nat.add_assoc _ _ _))⟩)))
    repeat (go_quiet (first | (go_at_call 59; (with_reducible refine (base_Group.calls a0 a1 t119 none _ A4.out (Sent.sub (show ∀ c, c ∈ base_Group.L → c ∈ half_Carried.L by decide) (Sent.below HS.out (by repeat (first | (with_reducible first | exact HB.out | apply below_alloc | apply pw_below_drewN | apply below_drew1) | exact HB.out))))).mono ?_); rintro e w' ⟨rfl, ⟨nd, rfl⟩⟩; (try simp only [errW_none, errW_some]); (try first | exact ⟨rfl, _, World.drewN_drewN _ _ _⟩ | exact ⟨rfl, _, Eq.trans (World.drewN_drewN _ _ _) (congrArg (World.drewN _) (Nat.add_assoc _ _ _))⟩))); go_upto_region 4 with (first | (go_at_call 59; (with_reducible refine (base_Group.calls a0 a1 t119 none _ A4.out (Sent.sub (show ∀ c, c ∈ base_Group.L → c ∈ half_Carried.L by decide) (Sent.below HS.out (by repeat (first | (with_reducible first | exact HB.out | apply below_alloc | apply pw_below_drewN | apply below_drew1) | exact HB.out))))).mono ?_); rintro e w' ⟨rfl, ⟨nd, rfl⟩⟩; (try simp only [errW_none, errW_some]); (try first | exact ⟨rfl, _, World.drewN_drewN _ _ _⟩ | exact ⟨rfl, _, Eq.trans (World.drewN_drewN _ _ _) (congrArg (World.drewN _) (Nat.add_assoc _ _ _))⟩))))
    (try simp only [Act.put, List.setIfInBounds_toArray, List.set_cons_zero, List.set_cons_succ])
    go_cut [27] (fun v27 wc => ∃ (kq : Nat) (x27_4 : Bool), v27 = .bool x27_4 ∧ Aside0 (half_Carried.j0 kq a0 a2 t119 x27_4 = some (r1, r2)) ∧ Aside0 (kq ≤ k) ∧ Aside0 (Below w.heap.size w wc))
    case first =>
      have H := HC5.out
      clear HC5
      by_cases c6 : a2 < 0
      · rw [if_pos c6] at H
        have c6b0 : decide (a2 < 0) = true := decide_eq_true c6
        clear c6
        (first | rw [c6b0] | (simp only [i64_w, i32_w]; rw [c6b0]) | skip)
        have H' := Aside0.mk H
        clear H
        go_wp2
        repeat (go_quiet (fail); try go_wp2)
        go_meet
        case rel => exact ⟨_, (true), (by first | rfl | (simp; done) | (simp [*]; done)), H', ⟨by first | omega | exact Nat.le_refl _⟩, ⟨by repeat (first | (with_reducible first | exact HB.out | apply below_alloc | apply pw_below_drewN | apply below_drew1) | exact HB.out)⟩⟩
      · rw [if_neg c6] at H
        have c6b0 : decide (a2 < 0) = false := decide_eq_false c6
        clear c6
        (first | rw [c6b0] | (simp only [i64_w, i32_w]; rw [c6b0]) | skip)
        have H' := Aside0.mk H
        clear H
        go_wp2
        repeat (go_quiet (fail); try go_wp2)
        go_meet
        case rel => exact ⟨_, (decide (a2 ≥ a1)), (by first | rfl | (simp; done) | (simp [*]; done)), H', ⟨by first | omega | exact Nat.le_refl _⟩, ⟨by repeat (first | (with_reducible first | exact HB.out | apply below_alloc | apply pw_below_drewN | apply below_drew1) | exact HB.out)⟩⟩
    case rest =>
      clear HC5
      try clear q1
      try clear p2
      try clear c4
      try clear c6
      try clear c6b0
      try clear q121
      obtain ⟨kq, x27_4, rfl, HA, HJ4, HB⟩ := hcut
      cases kq with
      | zero => exact absurd HA.out (by simp [half_Carried.j0])
      | succ kj4 =>
        have H := HA.out
        clear HA
        first | rw [half_Carried.j0] at H | simp only [half_Carried.j0] at H
        by_cases c7 : x27_4 = true
        · subst c7
          have H1 : (some (([] : List Int), some 12)) = some (r1, r2) := by rw [if_pos rfl] at H; exact H
          clear H
          have H := H1
          clear H1
          simp only [Option.some.injEq, Prod.mk.injEq] at H
          obtain ⟨rfl, rfl⟩ := H
          go_wp2
          repeat (go_quiet (fail); try go_wp2)
          go_ret2
          exact ⟨_, by first | rfl | (simp [errW_none, errW_some] <;> rfl) | (simp [*, errW_none, errW_some] <;> rfl), by first | exact Kd.R_nil _ _ _ _ _ | exact Kd.N_nil _ _ _ _ _ | exact Kd.V_nil _ _ _ _ _ | exact Kd.Q_nil _ _ _ _ _ | exact Kd.S_nil _ _ _ _ _, by repeat (first | (with_reducible first | exact HB.out | apply below_alloc | apply pw_below_drewN | apply below_drew1) | exact HB.out)⟩
        · replace c7 := Bool.eq_false_iff.mpr c7
          subst c7
          have H1 : (if a2 > 0 then (half_Carried.l0 kj4 a0 a2 t119 ([] : List Int) (wrap64 ((wrap64 (a2 - 1)) * t119))) else (some (([] : List Int), none))) = some (r1, r2) := by rw [if_neg (show ¬ (false = true) by decide)] at H; exact H
          clear H
          have H := H1
          clear H1
          by_cases c8 : a2 > 0
          · rw [if_pos c8] at H
            have c8b0 : decide (0 < a2) = true := decide_eq_true c8
            clear c8
            have H' := Aside0.mk H
            clear H
            go_wp2
            repeat (go_quiet (fail); try go_wp2)
            go_loopg [10, 11] kj4 (fun kq v10 v11 w' => ∃ (x10_2 : List Int) (x11_2 : Int), v11 = .int .i64 x11_2 ∧ Aside0 (half_Carried.l0 kq a0 a2 t119 x10_2 x11_2 = some (r1, r2)) ∧ Aside0 (kq ≤ kj4) ∧ Aside0 (Kd.R (Kd.int .i64) 3 w' w.heap.size (fun _ => True) v10 x10_2) ∧ Aside0 (Below w.heap.size w w'))
            case atStart => exact ⟨(([] : List Int)), (wrap64 ((wrap64 (a2 - 1)) * t119)), (by first | rfl | (simp; done) | (simp [*]; done)), H', ⟨Nat.le_refl _⟩, ⟨by first | exact Kd.R_nil _ _ _ _ _ | exact Kd.N_nil _ _ _ _ _ | exact Kd.V_nil _ _ _ _ _ | exact Kd.Q_nil _ _ _ _ _ | exact Kd.S_nil _ _ _ _ _⟩, ⟨by repeat (first | (with_reducible first | exact HB.out | apply below_alloc | apply pw_below_drewN | apply below_drew1) | exact HB.out)⟩⟩
            case round =>
              clear H'
              try clear q1
              try clear p2
              try clear c4
              try clear c6
              try clear c6b0
              try clear p6
              try clear c7
              try clear c8
              try clear c8b0
              try clear p2
              try clear q1
              try clear q121
              obtain ⟨x10_2, x11_2, rfl, HA, HK2, HO_10, HB⟩ := hrel
              cases gk with
              | zero => exact absurd HA.out (by simp [half_Carried.l0])
              | succ k2 =>
                have H := HA.out
                clear HA
                first | rw [half_Carried.l0] at H | simp only [half_Carried.l0] at H
                obtain ⟨ji9, hji9⟩ : ∃ j_ : Int, (mn (wrap64 (a2 * t119)) a0) = j_ := ⟨_, rfl⟩
                replace H : (if x11_2 < (ji9) then (if x10_2.length < 17592186044416 then (half_Carried.l0 k2 a0 a2 t119 (x10_2 ++ [x11_2]) (wrap64 (x11_2 + 1))) else (none)) else (some (x10_2, none))) = some (r1, r2) := by first | (rw [hji9] at H; exact H) | (simp only [hji9] at H ⊢; exact H)
                have hji9_ : (if a0 < (wrap64 (a2 * t119)) then a0 else (wrap64 (a2 * t119))) = ji9 := hji9
                by_cases c10 : x11_2 < (ji9)
                · rw [if_pos c10] at H
                  have c10b0 : decide (x11_2 < (ji9)) = true := decide_eq_true c10
                  clear c10
                  by_cases c11 : x10_2.length < 17592186044416
                  · rw [if_pos c11] at H
                    have LMc11 := Aside0.mk c11
                    clear c11
                    obtain ⟨y122, hy122⟩ : ∃ y_ : List Int, y_ = (x10_2 ++ [x11_2]) := ⟨_, rfl⟩
                    replace H : (half_Carried.l0 k2 a0 a2 t119 y122 (wrap64 (x11_2 + 1))) = some (r1, r2) := by first | (rw [hy122]; with_reducible exact H) | (have H2_ := (Option.bind_some _ _).symm.trans H; rw [hy122]; with_reducible exact H2_) | (have H2_ := (Option.bind_some _ _).symm.trans H; with_reducible exact H2_) | with_reducible exact H | (rw [hy122]; exact H) | exact H
                    have Ny122 := Aside0.mk hy122
                    clear hy122
                    have H' := Aside0.mk H
                    clear H
                    go_wp2_with (first | ((with_reducible refine gate_builtin (b := .append) (xs := #[.tmp 44, .tmp 46]) rfl ?_); at_builtin; refine Kd.R_append (Kd.int .i64) (w0 := w) w.heap.size rfl (.tmp 44) (.tmp 46) 22 3 (.int .i64 0) 8 rfl Tryd.underlying22 info3 rfl (by decide) (by omega) u10 x10_2 x11_2 [.int .i64 x11_2] (fun _ => True) (fun _ => False) rfl rfl ?aP (fun _ hk => hk.elim) ?aF ?aO ?aB ?aS ?aL ?_; (case aP => exact rfl); (case aB => exact (by repeat (first | (with_reducible first | exact HB.out | apply below_alloc | apply pw_below_drewN | apply below_drew1) | exact HB.out))); (case aF => exact (fun _ _ => trivial)); (case aO => exact (by (with_reducible repeat (first | apply Kd.R_alloc | apply Kd.R_drewN | apply Kd.R_drew)); exact HO_10.out)); (case aS => exact (below_size (by repeat (first | (with_reducible first | exact HB.out | apply below_alloc | apply pw_below_drewN | apply below_drew1) | exact HB.out)))); (case aL => have := LMc11.out; omega); intro v123 w12 ho hb hg hat; rw [← Ny122.out] at ho; have n0_ := Aside0.mk (hb); have n1_ := Aside0.mk (ho); clear HB; clear HO_10; have HB := n0_; have HO124 := n1_; clear n0_ n1_; clear ho hb hg hat))
                    repeat (go_quiet (first | ((with_reducible refine gate_builtin (b := .append) (xs := #[.tmp 44, .tmp 46]) rfl ?_); at_builtin; refine Kd.R_append (Kd.int .i64) (w0 := w) w.heap.size rfl (.tmp 44) (.tmp 46) 22 3 (.int .i64 0) 8 rfl Tryd.underlying22 info3 rfl (by decide) (by omega) u10 x10_2 x11_2 [.int .i64 x11_2] (fun _ => True) (fun _ => False) rfl rfl ?aP (fun _ hk => hk.elim) ?aF ?aO ?aB ?aS ?aL ?_; (case aP => exact rfl); (case aB => exact (by repeat (first | (with_reducible first | exact HB.out | apply below_alloc | apply pw_below_drewN | apply below_drew1) | exact HB.out))); (case aF => exact (fun _ _ => trivial)); (case aO => exact (by (with_reducible repeat (first | apply Kd.R_alloc | apply Kd.R_drewN | apply Kd.R_drew)); exact HO_10.out)); (case aS => exact (below_size (by repeat (first | (with_reducible first | exact HB.out | apply below_alloc | apply pw_below_drewN | apply below_drew1) | exact HB.out)))); (case aL => have := LMc11.out; omega); intro v123 w12 ho hb hg hat; rw [← Ny122.out] at ho; have n0_ := Aside0.mk (hb); have n1_ := Aside0.mk (ho); clear HB; clear HO_10; have HB := n0_; have HO124 := n1_; clear n0_ n1_; clear ho hb hg hat)); try go_wp2_with (first | ((with_reducible refine gate_builtin (b := .append) (xs := #[.tmp 44, .tmp 46]) rfl ?_); at_builtin; refine Kd.R_append (Kd.int .i64) (w0 := w) w.heap.size rfl (.tmp 44) (.tmp 46) 22 3 (.int .i64 0) 8 rfl Tryd.underlying22 info3 rfl (by decide) (by omega) u10 x10_2 x11_2 [.int .i64 x11_2] (fun _ => True) (fun _ => False) rfl rfl ?aP (fun _ hk => hk.elim) ?aF ?aO ?aB ?aS ?aL ?_; (case aP => exact rfl); (case aB => exact (by repeat (first | (with_reducible first | exact HB.out | apply below_alloc | apply pw_below_drewN | apply below_drew1) | exact HB.out))); (case aF => exact (fun _ _ => trivial)); (case aO => exact (by (with_reducible repeat (first | apply Kd.R_alloc | apply Kd.R_drewN | apply Kd.R_drew)); exact HO_10.out)); (case aS => exact (below_size (by repeat (first | (with_reducible first | exact HB.out | apply below_alloc | apply pw_below_drewN | apply below_drew1) | exact HB.out)))); (case aL => have := LMc11.out; omega); intro v123 w12 ho hb hg hat; rw [← Ny122.out] at ho; have n0_ := Aside0.mk (hb); have n1_ := Aside0.mk (ho); clear HB; clear HO_10; have HB := n0_; have HO124 := n1_; clear n0_ n1_; clear ho hb hg hat)))
                    go_roundg k2
                    case measure => have := HJ4.out; have := HK2.out; omega
                    case rel => exact ⟨(y122), (wrap64 (x11_2 + 1)), (by first | rfl | (simp; done) | (simp [*]; done)), H', ⟨by have := HJ4.out; have := HK2.out; omega⟩, ⟨by (with_reducible repeat (first | apply Kd.R_alloc | apply Kd.R_drewN | apply Kd.R_drew)); exact HO124.out⟩, ⟨by repeat (first | (with_reducible first | exact HB.out | apply below_alloc | apply pw_below_drewN | apply below_drew1) | exact HB.out)⟩⟩
                  · rw [if_neg c11] at H
                    exact absurd H (by simp)
                · rw [if_neg c10] at H
                  have c10b0 : decide (x11_2 < (ji9)) = false := decide_eq_false c10
                  clear c10
                  simp only [Option.some.injEq, Prod.mk.injEq] at H
                  obtain ⟨rfl, rfl⟩ := H
                  go_wp2
                  repeat (go_quiet (fail); try go_wp2)
                  go_ret2
                  exact ⟨_, by first | rfl | (simp [errW_none, errW_some] <;> rfl) | (simp only [← hji9]; first | rfl | (simp [errW_none, errW_some] <;> rfl)) | (simp [*, errW_none, errW_some] <;> rfl), by (with_reducible repeat (first | apply Kd.R_alloc | apply Kd.R_drewN | apply Kd.R_drew)); exact HO_10.out, by repeat (first | (with_reducible first | exact HB.out | apply below_alloc | apply pw_below_drewN | apply below_drew1) | exact HB.out)⟩
          · rw [if_neg c8] at H
            have c8b0 : decide (0 < a2) = false := decide_eq_false c8
            clear c8
            simp only [Option.some.injEq, Prod.mk.injEq] at H
            obtain ⟨rfl, rfl⟩ := H
            go_wp2
            repeat (go_quiet (fail); try go_wp2)
            go_ret2
            exact ⟨_, by first | rfl | (simp [errW_none, errW_some] <;> rfl) | (simp [*, errW_none, errW_some] <;> rfl), by first | exact Kd.R_nil _ _ _ _ _ | exact Kd.N_nil _ _ _ _ _ | exact Kd.V_nil _ _ _ _ _ | exact Kd.Q_nil _ _ _ _ _ | exact Kd.S_nil _ _ _ _ _, by repeat (first | (with_reducible first | exact HB.out | apply below_alloc | apply pw_below_drewN | apply below_drew1) | exact HB.out)⟩
  · have H1 : (some (([] : List Int), some q121)) = some (r1, r2) := by rw [if_neg (show ¬ (some q121).isNone = true by simp)] at H; exact H
    clear H
    have H := H1
    clear H1
    try simp only [errW_none, errW_some]
    simp only [Option.some.injEq, Prod.mk.injEq] at H
    obtain ⟨rfl, rfl⟩ := H
    go_enter Tryd.func40, Tryd.ntmps40
    go_wp2_with (first | (go_at_call 59; (with_reducible refine (base_Group.calls a0 a1 t119 (some q121) _ A4.out (Sent.sub (show ∀ c, c ∈ base_Group.L → c ∈ half_Carried.L by decide) (Sent.below HS.out (by repeat (first | (with_reducible first | exact HB.out | apply below_alloc | apply pw_below_drewN | apply below_drew1) | exact HB.out))))).mono ?_); rintro e w' ⟨rfl, ⟨nd, rfl⟩⟩; (try simp only [errW_none, errW_some]); (try first | exact ⟨rfl, _, World.drewN_drewN _ _ _⟩ | exact ⟨rfl, _, Eq.trans (World.drewN_drewN _ _ _) (congrArg (World.drewN _) (Nat.add_assoc _ _ _))⟩)))
    repeat (go_quiet (first | (go_at_call 59; (with_reducible refine (base_Group.calls a0 a1 t119 (some q121) _ A4.out (Sent.sub (show ∀ c, c ∈ base_Group.L → c ∈ half_Carried.L by decide) (Sent.below HS.out (by repeat (first | (with_reducible first | exact HB.out | apply below_alloc | apply pw_below_drewN | apply below_drew1) | exact HB.out))))).mono ?_); rintro e w' ⟨rfl, ⟨nd, rfl⟩⟩; (try simp only [errW_none, errW_some]); (try first | exact ⟨rfl, _, World.drewN_drewN _ _ _⟩ | exact ⟨rfl, _, Eq.trans (World.drewN_drewN _ _ _) (congrArg (World.drewN _) (Nat.add_assoc _ _ _))⟩))); try go_wp2_with (first | (go_at_call 59; (with_reducible refine (base_Group.calls a0 a1 t119 (some q121) _ A4.out (Sent.sub (show ∀ c, c ∈ base_Group.L → c ∈ half_Carried.L by decide) (Sent.below HS.out (by repeat (first | (with_reducible first | exact HB.out | apply below_alloc | apply pw_below_drewN | apply below_drew1) | exact HB.out))))).mono ?_); rintro e w' ⟨rfl, ⟨nd, rfl⟩⟩; (try simp only [errW_none, errW_some]); (try first | exact ⟨rfl, _, World.drewN_drewN _ _ _⟩ | exact ⟨rfl, _, Eq.trans (World.drewN_drewN _ _ _) (congrArg (World.drewN _) (Nat.add_assoc _ _ _))⟩))))
    go_ret2
    exact ⟨_, by first | rfl | (simp [errW_none, errW_some] <;> rfl) | (simp [*, errW_none, errW_some] <;> rfl), by first | exact Kd.R_nil _ _ _ _ _ | exact Kd.N_nil _ _ _ _ _ | exact Kd.V_nil _ _ _ _ _ | exact Kd.Q_nil _ _ _ _ _ | exact Kd.S_nil _ _ _ _ _, by repeat (first | (with_reducible first | exact HB.out | apply below_alloc | apply pw_below_drewN | apply below_drew1) | exact HB.out)⟩

end Go.Proofs.YtndnedjclbigiaaDoor.F

namespace Go.Proofs.YtndnedjclbigiaaDoor.F
open Go.RowKit Go.Proofs.YtndnedjclbigiaaDoorW.PrintWords Go.Proofs.YtndnedjclbigiaaDoorW.PrintLast Go.Proofs.YtndnedjclbigiaaDoorW.PrintMore
attribute [local go_sem] max2_int min2_int max_two min_two max_three min_three max_four min_four   -- for this text's walks alone
set_option linter.unusedVariables false
set_option linter.unusedSimpArgs false
set_option linter.unusedSectionVars false
open Go.Proofs.YtndnedjclbigiaaDoor
variable [Errs]

theorem eqA58 (d : Nat) (w : World) (x0 y0 : Int) (x1 y1 : Int) :
    (Op.equalIn (d + 2) 58 (.agg #[.int .i64 x0, .int .i64 x1]) (.agg #[.int .i64 y0, .int .i64 y1])).run Tryd.prog w = .ok (x0 == y0 && (x1 == y1)) w := by
  refine eqA_of Tryd.underlying58 (by kernel_rfl) ?_
  refine eqf_cons (by rfl) (by go_simp; rfl) (by go_simp; rfl) (by go_simp) ?_
  exact eqf_last (by rfl) (by go_simp; rfl) (by go_simp; rfl) (by go_simp)
end Go.Proofs.YtndnedjclbigiaaDoor.F

namespace Go.Proofs.YtndnedjclbigiaaDoor.F
open Go.RowKit Go.Proofs.YtndnedjclbigiaaDoorW.PrintWords Go.Proofs.YtndnedjclbigiaaDoorW.PrintLast Go.Proofs.YtndnedjclbigiaaDoorW.PrintMore
attribute [local go_sem] max2_int min2_int max_two min_two max_three min_three max_four min_four   -- for this text's walks alone
set_option linter.unusedVariables false
set_option linter.unusedSimpArgs false
set_option linter.unusedSectionVars false
open Go.Proofs.YtndnedjclbigiaaDoor
variable [Errs]

/-! ### half_at: function 25 -/
def half_at.f (a0 : Int) : Option (Int × Int) := some (wrap64 (Int.tdiv a0 2), Int.tmod a0 2)
set_option maxHeartbeats 8000000 in
set_option maxRecDepth 100000 in
theorem half_at.calls (a0 : Int) (r1 : Int) (r2 : Int) (w : World) (h : half_at.f a0 = some (r1, r2)) :
    Calls Tryd.prog 25 #[.int .i64 a0] w fun e w' => e = .returned (.agg #[.int .i64 r1, .int .i64 r2]) ∧ Below w.heap.size w w' := by
  have hu58 := Tryd.underlying58
  have HB := Aside0.mk (Below.refl w.heap.size w)
  have H : (some (wrap64 (Int.tdiv a0 2), Int.tmod a0 2)) = some (r1, r2) := h
  clear h
  simp only [Option.some.injEq, Prod.mk.injEq] at H
  obtain ⟨rfl, rfl⟩ := H
  go_enter Tryd.func25, Tryd.ntmps25
  go_wp2_with (first | ((with_reducible refine gate_dst (N := 2) rfl ?_); refine box_event ?hg (N := 2) ?hd (cs := #[.int .i64 0, .int .i64 0]) (t := 58) ?hr ?_; (case hd => rfl); (case hg => rfl); (case hr => first | (go_simp; done) | (go_simp; rfl)); intro gb142 hg w2 hbox hb; have n0_ := Aside0.mk (below_step (by repeat (first | (with_reducible first | exact HB.out | apply below_alloc | apply pw_below_drewN | apply below_drew1) | exact HB.out)) hb); have n1_ := Aside0.mk (hbox); have n2_ := Aside0.mk ((by rw [hg]; exact (below_size (by repeat (first | (with_reducible first | exact HB.out | apply below_alloc | apply pw_below_drewN | apply below_drew1) | exact HB.out))) : w.heap.size ≤ gb142)); have n3_ := Aside0.mk ((by rw [hg]; exact (below_size (by repeat (first | (with_reducible first | exact HB.out | apply below_alloc | apply pw_below_drewN | apply below_drew1) | exact HB.out))) : w.heap.size ≤ gb142)); clear HB; have HB := n0_; have BK142 := n1_; have GW142 := n2_; have GE142 := n3_; clear n0_ n1_ n2_ n3_; clear hb hbox hg; have hcz3_0 : w2.cell? ⟨gb142, 0, none⟩ = some (.int .i64 0) := (blk_cell BK142.out 0).trans rfl; have hcz3_1 : w2.cell? ⟨gb142, 1, none⟩ = some (.int .i64 0) := (blk_cell BK142.out 1).trans rfl; have hfz3_0 := blk_frozen BK142.out 0; have hfz3_1 := blk_frozen BK142.out 1))
  refine bodyPost_ret (results_cell_row rfl _ _ gb142 58 #[.int .i64 (wrap64 (Int.tdiv a0 2)), .int .i64 (Int.tmod a0 2)] (0, 0) _ rfl (by (with_reducible repeat (first | refine blk_drewN ?_ _ | refine blk_drew ?_ | refine blk_alloc ?_ _)); refine blk_put (cs := #[.int .i64 (wrap64 (Int.tdiv a0 2)), .int .i64 0]) ?_ 1 _ rfl; (with_reducible repeat (first | refine blk_drewN ?_ _ | refine blk_drew ?_ | refine blk_alloc ?_ _)); refine blk_put (cs := #[.int .i64 0, .int .i64 0]) ?_ 0 _ rfl; (with_reducible repeat (first | refine blk_drewN ?_ _ | refine blk_drew ?_ | refine blk_alloc ?_ _)); exact BK142.out) Tryd.underlying58 rfl (by kernel_rfl)) rfl ?_
  exact ⟨by first | rfl | (simp [errW_none, errW_some] <;> rfl) | (simp [*, errW_none, errW_some] <;> rfl), by repeat (first | (with_reducible first | exact HB.out | apply below_alloc | apply pw_below_drewN | apply below_drew1 | refine below_set ?_ GE142.out) | exact HB.out)⟩

end Go.Proofs.YtndnedjclbigiaaDoor.F

namespace Go.Proofs.YtndnedjclbigiaaDoor.F
open Go.RowKit Go.Proofs.YtndnedjclbigiaaDoorW.PrintWords Go.Proofs.YtndnedjclbigiaaDoorW.PrintLast Go.Proofs.YtndnedjclbigiaaDoorW.PrintMore
attribute [local go_sem] max2_int min2_int max_two min_two max_three min_three max_four min_four   -- for this text's walks alone
set_option linter.unusedVariables false
set_option linter.unusedSimpArgs false
set_option linter.unusedSectionVars false
open Go.Proofs.YtndnedjclbigiaaDoor
variable [Errs]

/-! ### mat_sized: function 41 -/
def mat_sized.f (a0 : Int) : Option (Bool) := if a0 ≥ 0 then (some (decide (a0 ≤ 64))) else (some false)
set_option maxHeartbeats 8000000 in
set_option maxRecDepth 100000 in
theorem mat_sized.calls (a0 : Int) (r : Bool) (w : World) (h : mat_sized.f a0 = some r) :
    Calls Tryd.prog 41 #[.int .i64 a0] w fun e w' => e = .returned (.bool r) ∧ Drawn0 w w' := by
  have H : (if a0 ≥ 0 then (some (decide (a0 ≤ 64))) else (some false)) = some r := h
  clear h
  by_cases c2 : a0 ≥ 0
  · rw [if_pos c2] at H
    have c2b0 : decide (0 ≤ a0) = true := decide_eq_true c2
    clear c2
    obtain rfl := Option.some.inj H
    go_enter Tryd.func41, Tryd.ntmps41
    go_wp2
    go_ret
    exact ⟨by first | rfl | (simp; done) | (simp [*]; done), by repeat (first | exact Drawn0.refl _ | apply Drawn0.step)⟩
  · rw [if_neg c2] at H
    have c2b0 : decide (0 ≤ a0) = false := decide_eq_false c2
    clear c2
    obtain rfl := Option.some.inj H
    go_enter Tryd.func41, Tryd.ntmps41
    go_wp2
    go_ret
    exact ⟨by first | rfl | (simp; done) | (simp [*]; done), by repeat (first | exact Drawn0.refl _ | apply Drawn0.step)⟩

end Go.Proofs.YtndnedjclbigiaaDoor.F

namespace Go.Proofs.YtndnedjclbigiaaDoor.F
open Go.RowKit Go.Proofs.YtndnedjclbigiaaDoorW.PrintWords Go.Proofs.YtndnedjclbigiaaDoorW.PrintLast Go.Proofs.YtndnedjclbigiaaDoorW.PrintMore
attribute [local go_sem] max2_int min2_int max_two min_two max_three min_three max_four min_four   -- for this text's walks alone
set_option linter.unusedVariables false
set_option linter.unusedSimpArgs false
set_option linter.unusedSectionVars false
open Go.Proofs.YtndnedjclbigiaaDoor
variable [Errs]

/-! ### mat_Of: function 26 -/
def mat_Of.L : List Int := [2]
mutual
def mat_Of.j0 : Nat → Int → List (List Int) → Bool → Option (Int × Int × List Int × Option Int)
  | 0, _, _, _ => none
  | k + 1, x0, x1, x16 => if x16 = true then (some (0, 0, ([] : List Int), some 2)) else (mat_Of.l0 k x0 x1 (x1.length : Int) 0 (x1.length : Int) x0 ([] : List Int))
def mat_Of.l0 : Nat → Int → List (List Int) → Int → Int → Int → Int → List Int → Option (Int × Int × List Int × Option Int)
  | 0, _, _, _, _, _, _, _ => none
  | k + 1, x0, x23, x24, x25, x146000, x146001, x146002 => if x25 < x24 then (if 0 ≤ x25 then (if x25 < (x23.length : Int) then (if ((rd_L2 x23 x25).length : Int) = x0 then (if x146002.length + (rd_L2 x23 x25).length < 140737488355328 then (mat_Of.l0 k x0 x23 x24 (wrap64 (x25 + 1)) x146000 x146001 (x146002 ++ (rd_L2 x23 x25))) else (none)) else (some (0, 0, ([] : List Int), some 2))) else (none)) else (none)) else (some (x146000, x146001, x146002, none))
end
def mat_Of.f (k : Nat) (a0 : Int) (l1 : List (List Int)) : Option (Int × Int × List Int × Option Int) := (mat_sized.f a0).bind fun t144 => (if t144 = true then (mat_Of.j0 k a0 l1 (decide ((l1.length : Int) > 64))) else (mat_Of.j0 k a0 l1 true))
theorem mat_Of.mono_l : ∀ k, (∀ y0 y1 y2, LeO (mat_Of.j0 k y0 y1 y2) (mat_Of.j0 (k + 1) y0 y1 y2)) ∧ (∀ y0 y1 y2 y3 y4 y5 y6, LeO (mat_Of.l0 k y0 y1 y2 y3 y4 y5 y6) (mat_Of.l0 (k + 1) y0 y1 y2 y3 y4 y5 y6))
  | 0 => ⟨fun _ _ _ r h => by simp [mat_Of.j0] at h, fun _ _ _ _ _ _ _ r h => by simp [mat_Of.l0] at h⟩
  | k + 1 => by
    obtain ⟨ih0, ih1⟩ := mat_Of.mono_l k
    refine ⟨?_, ?_⟩
    · intro y0 y1 y2
      unfold mat_Of.j0
      repeat' first
      | (with_reducible exact ih0 _ _ _)
      | (with_reducible exact ih1 _ _ _ _ _ _ _)
      | (with_reducible exact LeO.refl _)
      | (with_reducible exact LeO.none _)
      | (with_reducible refine LeO.ite ?_ ?_)
      | (with_reducible refine LeO.bind ?_ (fun _ => ?_))
      | exact ih0 _ _ _
      | exact ih1 _ _ _ _ _ _ _
      | exact LeO.none _
      | refine LeO.ite ?_ ?_
      | refine LeO.bind ?_ (fun _ => ?_)
    · intro y0 y1 y2 y3 y4 y5 y6
      unfold mat_Of.l0
      repeat' first
      | (with_reducible exact ih0 _ _ _)
      | (with_reducible exact ih1 _ _ _ _ _ _ _)
      | (with_reducible exact LeO.refl _)
      | (with_reducible exact LeO.none _)
      | (with_reducible refine LeO.ite ?_ ?_)
      | (with_reducible refine LeO.bind ?_ (fun _ => ?_))
      | exact ih0 _ _ _
      | exact ih1 _ _ _ _ _ _ _
      | exact LeO.none _
      | refine LeO.ite ?_ ?_
      | refine LeO.bind ?_ (fun _ => ?_)
theorem mat_Of.mono : ∀ a0 a1 k, LeO (mat_Of.f k a0 a1) (mat_Of.f (k + 1) a0 a1) := by
  intro a0 a1 k
  obtain ⟨ih0, ih1⟩ := mat_Of.mono_l k
  unfold mat_Of.f
  repeat' first
      | (with_reducible exact ih0 _ _ _)
      | (with_reducible exact ih1 _ _ _ _ _ _ _)
      | (with_reducible exact LeO.refl _)
      | (with_reducible exact LeO.none _)
      | (with_reducible refine LeO.ite ?_ ?_)
      | (with_reducible refine LeO.bind ?_ (fun _ => ?_))
      | exact ih0 _ _ _
      | exact ih1 _ _ _ _ _ _ _
      | exact LeO.none _
      | refine LeO.ite ?_ ?_
      | refine LeO.bind ?_ (fun _ => ?_)
set_option maxHeartbeats 8000000 in
set_option maxRecDepth 100000 in
theorem mat_Of.calls (k : Nat) (a0 : Int) (A1 : Option Addr) (c1 : Nat) (l1 : List (List Int)) (r1 : Int) (r2 : Int) (r3 : List Int) (r4 : Option Int) (w : World) (hr1 : Kd.C (Kd.slice 5 (Kd.int .u8)) w A1 l1.length l1) (hc1 : l1.length ≤ c1) (h : mat_Of.f k a0 l1 = some (r1, r2, r3, r4)) (hS : Sent mat_Of.L w) :
    Calls Tryd.prog 26 #[.int .i64 a0, .slice A1 l1.length c1] w fun e w' => ∃ v2_ : Value, e = .returned (.tuple #[.agg #[.int .i64 r1, .int .i64 r2, v2_], errW r4]) ∧ Kd.R (Kd.int .u8) 5 w' w.heap.size (fun _ => True) v2_ r3 ∧ Below w.heap.size w w' := by
  have hu43 := Tryd.underlying43
  have HR1 := Aside0.mk hr1
  have HC1 := Aside0.mk hc1
  clear hr1 hc1
  have HB := Aside0.mk (Below.refl w.heap.size w)
  have HS := Aside0.mk hS
  have hgl2 := Sent.cell hS 2 0 rfl (by decide)
  simp only [errW_some] at hgl2
  have hglw2 := Sent.cell0 hS 2 0 rfl (by decide)
  simp only [errW_some] at hglw2
  clear hS
  have H : ((mat_sized.f a0).bind fun t144 => (if t144 = true then (mat_Of.j0 k a0 l1 (decide ((l1.length : Int) > 64))) else (mat_Of.j0 k a0 l1 true))) = some (r1, r2, r3, r4) := h
  clear h
  have HC3 := Aside0.mk H
  clear H
  go_enter Tryd.func26, Tryd.ntmps26
  go_upto_region 1 with (first | ((with_reducible refine gate_dst (N := 4) rfl ?_); (try (refine gate_guard (by rfl) ?_; dsimp only)); refine box_event ?hg (N := 4) ?hd (cs := #[.int .i64 0, .int .i64 0, .slice none 0 0]) (t := 43) ?hr ?_; (case hd => rfl); (case hg => rfl); (case hr => first | (go_simp; done) | (go_simp; rfl)); intro gb143 hg w4 hbox hb; have n0_ := Aside0.mk (below_step (by repeat (first | (with_reducible first | exact HB.out | apply below_alloc | apply pw_below_drewN | apply below_drew1) | exact HB.out)) hb); have n1_ := Aside0.mk (hbox); have n2_ := Aside0.mk ((by rw [hg]; exact (below_size (by repeat (first | (with_reducible first | exact HB.out | apply below_alloc | apply pw_below_drewN | apply below_drew1) | exact HB.out))) : w.heap.size ≤ gb143)); have n3_ := Aside0.mk ((by rw [hg]; exact (below_size (by repeat (first | (with_reducible first | exact HB.out | apply below_alloc | apply pw_below_drewN | apply below_drew1) | exact HB.out))) : w.heap.size ≤ gb143)); clear HB; have HB := n0_; have BK143 := n1_; have GW143 := n2_; have GE143 := n3_; clear n0_ n1_ n2_ n3_; clear hb hbox hg))
  (try simp only [Act.put, List.setIfInBounds_toArray, List.set_cons_zero, List.set_cons_succ])
  go_cut [16] (fun v16 wc => ∃ (kq : Nat) (x16_2 : Bool), v16 = .bool x16_2 ∧ Aside0 (mat_Of.j0 kq a0 l1 x16_2 = some (r1, r2, r3, r4)) ∧ Aside0 (kq ≤ k) ∧ Aside0 (wc.heap[gb143]? = some (.cells #[.int .i64 0, .int .i64 0, (.slice none 0 0)] 43 (0, 0))) ∧ Aside0 (Below w.heap.size w wc))
  case first =>
    have H := HC3.out
    clear HC3
    replace H := Option.bind_eq_some_iff.mp H
    obtain ⟨t144, A50, H⟩ := H
    replace H : (if t144 = true then (mat_Of.j0 k a0 l1 (decide ((l1.length : Int) > 64))) else (mat_Of.j0 k a0 l1 true)) = some (r1, r2, r3, r4) := H
    have A5 := Aside0.mk A50
    clear A50
    by_cases c6 : t144 = true
    · subst c6
      have H1 : (mat_Of.j0 k a0 l1 (decide ((l1.length : Int) > 64))) = some (r1, r2, r3, r4) := by rw [if_pos rfl] at H; exact H
      clear H
      have H := H1
      clear H1
      have H' := Aside0.mk H
      clear H
      go_wp2_with (first | ((with_reducible refine gate_callee (f := 41) rfl ?_); refine goesL_ (some 10) rfl rfl Tryd.func41 (by kernel_rfl) rfl #[.int .i64 a0] rfl (by (try simp only [List.map_toArray, List.map_cons, List.map_nil]); first | done | rfl | (simp only [List.length_drop, List.length_take]; rfl)) ?_; (with_reducible refine (mat_sized.calls a0 true _ A5.out).mono ?_); rintro e w' ⟨rfl, ⟨nd, rfl⟩⟩; refine ⟨_, rfl, ?_⟩))
      go_meet
      case rel => exact ⟨_, (decide ((l1.length : Int) > 64)), (by first | rfl | (simp; done) | (simp [*]; done)), H', ⟨by first | omega | exact Nat.le_refl _⟩, ⟨by (with_reducible repeat (first | refine blk_drewN ?_ _ | refine blk_drew ?_ | refine blk_alloc ?_ _)); exact BK143.out⟩, ⟨by repeat (first | (with_reducible first | exact HB.out | apply below_alloc | apply pw_below_drewN | apply below_drew1 | refine below_set ?_ GE143.out) | exact HB.out)⟩⟩
    · replace c6 := Bool.eq_false_iff.mpr c6
      subst c6
      have H1 : (mat_Of.j0 k a0 l1 true) = some (r1, r2, r3, r4) := by rw [if_neg (show ¬ (false = true) by decide)] at H; exact H
      clear H
      have H := H1
      clear H1
      have H' := Aside0.mk H
      clear H
      go_wp2_with (first | ((with_reducible refine gate_callee (f := 41) rfl ?_); refine goesL_ (some 10) rfl rfl Tryd.func41 (by kernel_rfl) rfl #[.int .i64 a0] rfl (by (try simp only [List.map_toArray, List.map_cons, List.map_nil]); first | done | rfl | (simp only [List.length_drop, List.length_take]; rfl)) ?_; (with_reducible refine (mat_sized.calls a0 false _ A5.out).mono ?_); rintro e w' ⟨rfl, ⟨nd, rfl⟩⟩; refine ⟨_, rfl, ?_⟩))
      go_meet
      case rel => exact ⟨_, (true), (by first | rfl | (simp; done) | (simp [*]; done)), H', ⟨by first | omega | exact Nat.le_refl _⟩, ⟨by (with_reducible repeat (first | refine blk_drewN ?_ _ | refine blk_drew ?_ | refine blk_alloc ?_ _)); exact BK143.out⟩, ⟨by repeat (first | (with_reducible first | exact HB.out | apply below_alloc | apply pw_below_drewN | apply below_drew1 | refine below_set ?_ GE143.out) | exact HB.out)⟩⟩
  case rest =>
    clear HC3
    try clear c1
    try clear c2
    try clear p2
    try clear c4
    try clear c6
    obtain ⟨kq, x16_2, rfl, HA, HJ2, BK143, HB⟩ := hcut
    cases kq with
    | zero => exact absurd HA.out (by simp [mat_Of.j0])
    | succ kj2 =>
      have H := HA.out
      clear HA
      first | rw [mat_Of.j0] at H | simp only [mat_Of.j0] at H
      by_cases c7 : x16_2 = true
      · subst c7
        have H1 : (some (0, 0, ([] : List Int), some 2)) = some (r1, r2, r3, r4) := by rw [if_pos rfl] at H; exact H
        clear H
        have H := H1
        clear H1
        simp only [Option.some.injEq, Prod.mk.injEq] at H
        obtain ⟨rfl, rfl, rfl, rfl⟩ := H
        try go_wp2
        have n0_ := Aside0.mk (blk_drew BK143.out)
        have n1_ := Aside0.mk (below_drew1 HB.out)
        clear BK143
        clear HB
        have BK143 := n0_
        have HB := n1_
        clear n0_ n1_
        refine start_ (n := 4) (S := fun w' => w'.cell? ⟨0, 0, none⟩ = some (.iface 133 (.pointer (some (Errs.ea 2))))) (ds := []) #[false, false, false, false] (by kernel_rfl) rfl rfl ((hgl2 _ HB)) (fun hHeld => ?_)
        generalize wc.drew = w8 at BK143 HB hHeld ⊢
        refine pure_ (i := 0) (N := some 17) (v := ?_) (a' := ?_) #[true, false, false, false] rfl rfl (by kernel_rfl) (fun _ _ _ h => h) (Or.inl ⟨by rfl, ?_⟩) ?_ ?_
        rotate_left
        · intro w'
          go_simp
          with_reducible rfl
        rotate_left
        · simp only [Act.put, List.setIfInBounds_toArray, List.set_cons_zero, List.set_cons_succ, i64_w, i32_w]
          rfl
        refine take_ (i := 1) (N := some 18) (v := ?_) (a' := ?_) #[true, true, false, false] rfl rfl (by kernel_rfl) (fun _ _ _ h => h) (Or.inl ⟨by rfl, ?_⟩) hHeld ?_ ?_
        rotate_left
        · intro w' s0
          go_simp
          with_reducible rfl
        rotate_left
        · simp only [Act.put, List.setIfInBounds_toArray, List.set_cons_zero, List.set_cons_succ, i64_w, i32_w]
          rfl
        refine one_ (i := 2) (N := none) #[true, true, true, false] rfl rfl (by kernel_rfl) (by decide) (fun K hK => ?_)
        have hs9 : w8.cell? ⟨gb143, 0, none⟩ = some (.int .i64 0) := (blk_cell BK143.out 0).trans rfl
        have hfs9 := blk_frozen BK143.out 0
        have hs10 : w8.cell? ⟨gb143, 1, none⟩ = some (.int .i64 0) := (blk_cell BK143.out 1).trans rfl
        have hfs10 := blk_frozen BK143.out 1
        have hs11 : w8.cell? ⟨gb143, 2, none⟩ = some (.slice none 0 0) := (blk_cell BK143.out 2).trans rfl
        have hfs11 := blk_frozen BK143.out 2
        refine skip_ (w1 := ?_) (by rfl) rfl ?_ ?_
        rotate_left
        · go_simp
          rfl
        refine hK.out _ _ (((cell_far (p := ⟨gb143, _, none⟩) (by first | exact Nat.ne_of_lt (Nat.lt_of_lt_of_le (World.block_lt_of_cell? _ _ hglw2) GW143.out) | (rw [add_block]; exact Nat.ne_of_lt (Nat.lt_of_lt_of_le (World.block_lt_of_cell? _ _ hglw2) GW143.out)) | (show (Addr.add _ _).block ≠ _; rw [add_block]; exact Nat.ne_of_lt (Nat.lt_of_lt_of_le (World.block_lt_of_cell? _ _ hglw2) GW143.out)) | (dsimp only; exact Nat.ne_of_lt (Nat.lt_of_lt_of_le (World.block_lt_of_cell? _ _ hglw2) GW143.out))) _).trans (((cell_far (p := ⟨gb143, _, none⟩) (by first | exact Nat.ne_of_lt (Nat.lt_of_lt_of_le (World.block_lt_of_cell? _ _ hglw2) GW143.out) | (rw [add_block]; exact Nat.ne_of_lt (Nat.lt_of_lt_of_le (World.block_lt_of_cell? _ _ hglw2) GW143.out)) | (show (Addr.add _ _).block ≠ _; rw [add_block]; exact Nat.ne_of_lt (Nat.lt_of_lt_of_le (World.block_lt_of_cell? _ _ hglw2) GW143.out)) | (dsimp only; exact Nat.ne_of_lt (Nat.lt_of_lt_of_le (World.block_lt_of_cell? _ _ hglw2) GW143.out))) _).trans (((cell_far (p := ⟨gb143, _, none⟩) (by first | exact Nat.ne_of_lt (Nat.lt_of_lt_of_le (World.block_lt_of_cell? _ _ hglw2) GW143.out) | (rw [add_block]; exact Nat.ne_of_lt (Nat.lt_of_lt_of_le (World.block_lt_of_cell? _ _ hglw2) GW143.out)) | (show (Addr.add _ _).block ≠ _; rw [add_block]; exact Nat.ne_of_lt (Nat.lt_of_lt_of_le (World.block_lt_of_cell? _ _ hglw2) GW143.out)) | (dsimp only; exact Nat.ne_of_lt (Nat.lt_of_lt_of_le (World.block_lt_of_cell? _ _ hglw2) GW143.out))) _).trans (hHeld))))))) (fun hHeld => ?_)
        clear hK K
        refine pure_ (i := 3) (N := some 5) (v := ?_) (a' := ?_) #[true, true, true, true] rfl rfl (by kernel_rfl) (fun _ _ _ h => h) (Or.inl ⟨by rfl, ?_⟩) ?_ ?_
        rotate_left
        · intro w'
          go_simp
          with_reducible rfl
        rotate_left
        · simp only [Act.put, List.setIfInBounds_toArray, List.set_cons_zero, List.set_cons_succ, i64_w, i32_w]
          rfl
        refine done_ (by kernel_rfl) ?_
        try go_wp2
        refine bodyPost_ret (results_ct rfl _ _ gb143 43 #[.int .i64 0, .int .i64 0, .slice none 0 0] (0, 0) _ rfl (by (with_reducible repeat (first | refine blk_drewN ?_ _ | refine blk_drew ?_ | refine blk_alloc ?_ _)); refine blk_put (cs := #[.int .i64 0, .int .i64 0, .slice none 0 0]) ?_ 2 _ rfl; (with_reducible repeat (first | refine blk_drewN ?_ _ | refine blk_drew ?_ | refine blk_alloc ?_ _)); refine blk_put (cs := #[.int .i64 0, .int .i64 0, .slice none 0 0]) ?_ 1 _ rfl; (with_reducible repeat (first | refine blk_drewN ?_ _ | refine blk_drew ?_ | refine blk_alloc ?_ _)); refine blk_put (cs := #[.int .i64 0, .int .i64 0, .slice none 0 0]) ?_ 0 _ rfl; (with_reducible repeat (first | refine blk_drewN ?_ _ | refine blk_drew ?_ | refine blk_alloc ?_ _)); exact BK143.out) Tryd.underlying43 rfl (by kernel_rfl)) rfl ?_
        exact ⟨_, by first | rfl | (simp [errW_none, errW_some] <;> rfl) | (simp [*, errW_none, errW_some] <;> rfl), by first | exact Kd.R_nil _ _ _ _ _ | exact Kd.N_nil _ _ _ _ _ | exact Kd.V_nil _ _ _ _ _ | exact Kd.Q_nil _ _ _ _ _ | exact Kd.S_nil _ _ _ _ _, by repeat (first | (with_reducible first | exact HB.out | apply below_alloc | apply pw_below_drewN | apply below_drew1 | refine below_set ?_ GE143.out) | exact HB.out)⟩
      · replace c7 := Bool.eq_false_iff.mpr c7
        subst c7
        have H1 : (mat_Of.l0 kj2 a0 l1 (l1.length : Int) 0 (l1.length : Int) a0 ([] : List Int)) = some (r1, r2, r3, r4) := by rw [if_neg (show ¬ (false = true) by decide)] at H; exact H
        clear H
        have H := H1
        clear H1
        have H' := Aside0.mk H
        clear H
        go_wp2_with (first | ((with_reducible refine gate_dst (N := 6) rfl ?_); (try (refine gate_guard (by rfl) ?_; dsimp only)); refine box_event ?hg (N := 6) ?hd (cs := #[.int .i64 0, .int .i64 0, .slice none 0 0]) (t := 43) ?hr ?_; (case hd => rfl); (case hg => rfl); (case hr => first | (go_simp; done) | (go_simp; rfl)); intro gb145 hg w12 hbox hb; have n0_ := Aside0.mk (blk_below (g := gb143) (o := .cells #[.int .i64 0, .int .i64 0, .slice none 0 0] 43 (0, 0)) (by (with_reducible repeat (first | refine blk_drewN ?_ _ | refine blk_drew ?_ | refine blk_alloc ?_ _)); exact BK143.out) hb); have n1_ := Aside0.mk (below_step (by repeat (first | (with_reducible first | exact HB.out | apply below_alloc | apply pw_below_drewN | apply below_drew1 | refine below_set ?_ GE143.out) | exact HB.out)) hb); have n2_ := Aside0.mk (hbox); have n3_ := Aside0.mk ((by rw [hg]; exact (below_size (by repeat (first | (with_reducible first | exact HB.out | apply below_alloc | apply pw_below_drewN | apply below_drew1 | refine below_set ?_ GE143.out) | exact HB.out))) : w.heap.size ≤ gb145)); have n4_ := Aside0.mk ((by rw [hg]; exact (below_size (by repeat (first | (with_reducible first | exact HB.out | apply below_alloc | apply pw_below_drewN | apply below_drew1 | refine below_set ?_ GE143.out) | exact HB.out))) : w.heap.size ≤ gb145)); have n5_ := Aside0.mk ((by rw [hg]; exact Nat.ne_of_lt (blk_lt (g := gb143) (o := .cells #[.int .i64 0, .int .i64 0, .slice none 0 0] 43 (0, 0)) (by (with_reducible repeat (first | refine blk_drewN ?_ _ | refine blk_drew ?_ | refine blk_alloc ?_ _)); exact BK143.out)) : gb143 ≠ gb145)); have n6_ := Aside0.mk ((by rw [hg]; exact Nat.ne_of_gt (blk_lt (g := gb143) (o := .cells #[.int .i64 0, .int .i64 0, .slice none 0 0] 43 (0, 0)) (by (with_reducible repeat (first | refine blk_drewN ?_ _ | refine blk_drew ?_ | refine blk_alloc ?_ _)); exact BK143.out)) : gb145 ≠ gb143)); clear BK143; clear HB; have BK143 := n0_; have HB := n1_; have BK145 := n2_; have GW145 := n3_; have GE145 := n4_; have NB143_145 := n5_; have NB145_143 := n6_; clear n0_ n1_ n2_ n3_ n4_ n5_ n6_; clear hb hbox hg; have hnb13 := NB145_143.out; have hnc13 := NB143_145.out; have hcz14_0 : w12.cell? ⟨gb145, 0, none⟩ = some (.int .i64 0) := (blk_cell BK145.out 0).trans rfl; have hcz14_1 : w12.cell? ⟨gb145, 1, none⟩ = some (.int .i64 0) := (blk_cell BK145.out 1).trans rfl; have hcz14_2 : w12.cell? ⟨gb145, 2, none⟩ = some (.slice none 0 0) := (blk_cell BK145.out 2).trans rfl; have hfz14_0 := blk_frozen BK145.out 0; have hfz14_1 := blk_frozen BK145.out 1; have hfz14_2 := blk_frozen BK145.out 2))
        go_loopg [25] kj2 (fun kq v25 w' => ∃ (x25_2 : Int) (x144000_2 : Int) (x144001_2 : Int) (x146002_2 : List Int) (u146002 : Value), v25 = .int .i64 x25_2 ∧ Aside0 (mat_Of.l0 kq a0 l1 (l1.length : Int) x25_2 (l1.length : Int) a0 x146002_2 = some (r1, r2, r3, r4)) ∧ Aside0 (kq ≤ kj2) ∧ Aside0 (Kd.R (Kd.int .u8) 5 w' w.heap.size (fun _ => True) u146002 x146002_2) ∧ Aside0 (w'.heap[gb143]? = some (.cells #[.int .i64 x144000_2, .int .i64 x144001_2, (.slice none 0 0)] 43 (0, 0))) ∧ Aside0 (w'.heap[gb145]? = some (.cells #[.int .i64 (l1.length : Int), .int .i64 a0, u146002] 43 (0, 0))) ∧ Aside0 (Below w.heap.size w w'))
        case atStart => exact ⟨(0), (0), (0), (([] : List Int)), (.slice none 0 0), (by first | rfl | (simp; done) | (simp [*]; done)), H', ⟨Nat.le_refl _⟩, ⟨by first | exact Kd.R_nil _ _ _ _ _ | exact Kd.N_nil _ _ _ _ _ | exact Kd.V_nil _ _ _ _ _ | exact Kd.Q_nil _ _ _ _ _ | exact Kd.S_nil _ _ _ _ _⟩, ⟨by (with_reducible repeat (first | refine blk_drewN ?_ _ | refine blk_drew ?_ | refine blk_alloc ?_ _)); refine blk_far ?_ NB143_145.out _; (with_reducible repeat (first | refine blk_drewN ?_ _ | refine blk_drew ?_ | refine blk_alloc ?_ _)); refine blk_far ?_ NB143_145.out _; (with_reducible repeat (first | refine blk_drewN ?_ _ | refine blk_drew ?_ | refine blk_alloc ?_ _)); refine blk_far ?_ NB143_145.out _; (with_reducible repeat (first | refine blk_drewN ?_ _ | refine blk_drew ?_ | refine blk_alloc ?_ _)); exact BK143.out⟩, ⟨by (with_reducible repeat (first | refine blk_drewN ?_ _ | refine blk_drew ?_ | refine blk_alloc ?_ _)); refine blk_put (cs := #[.int .i64 (l1.length : Int), .int .i64 a0, .slice none 0 0]) ?_ 2 _ rfl; (with_reducible repeat (first | refine blk_drewN ?_ _ | refine blk_drew ?_ | refine blk_alloc ?_ _)); refine blk_put (cs := #[.int .i64 (l1.length : Int), .int .i64 0, .slice none 0 0]) ?_ 1 _ rfl; (with_reducible repeat (first | refine blk_drewN ?_ _ | refine blk_drew ?_ | refine blk_alloc ?_ _)); refine blk_put (cs := #[.int .i64 0, .int .i64 0, .slice none 0 0]) ?_ 0 _ rfl; (with_reducible repeat (first | refine blk_drewN ?_ _ | refine blk_drew ?_ | refine blk_alloc ?_ _)); exact BK145.out⟩, ⟨by repeat (first | (with_reducible first | exact HB.out | apply below_alloc | apply pw_below_drewN | apply below_drew1 | refine below_set ?_ GE143.out | refine below_set ?_ GE145.out) | exact HB.out)⟩⟩
        case round =>
          clear H'
          try clear c1
          try clear c2
          try clear p2
          try clear c4
          try clear c6
          try clear c7
          try clear c13
          try clear hcz14_0
          try clear hcz14_1
          try clear hcz14_2
          try clear hfz14_0
          try clear hfz14_1
          try clear hfz14_2
          try clear p2
          obtain ⟨x25_2, x144000_2, x144001_2, x146002_2, u146002, rfl, HA, HK2, HO_146002, BK143, BK145, HB⟩ := hrel
          cases gk with
          | zero => exact absurd HA.out (by simp [mat_Of.l0])
          | succ k2 =>
            have H := HA.out
            clear HA
            first | rw [mat_Of.l0] at H | simp only [mat_Of.l0] at H
            by_cases c15 : x25_2 < (l1.length : Int)
            · rw [if_pos c15] at H
              have c15b0 : decide (x25_2 < (l1.length : Int)) = true := decide_eq_true c15
              clear c15
              by_cases c16 : 0 ≤ x25_2
              · rw [if_pos c16] at H
                have c16b0 : decide (0 ≤ x25_2) = true := decide_eq_true c16
                clear c16
                by_cases c17 : x25_2 < (l1.length : Int)
                · rw [if_pos c17] at H
                  have c17b0 : decide (x25_2 < (l1.length : Int)) = true := decide_eq_true c17
                  clear c17
                  by_cases c18 : ((rd_L2 l1 x25_2).length : Int) = a0
                  · rw [if_pos c18] at H
                    have c18b0 : (((rd_L2 l1 x25_2).length : Int) == a0) = true := beq_iff_eq.mpr c18
                    have c18b1 : (((rd_L2 l1 x25_2).length : Int) != a0) = false := bne_eq_false_iff_eq.mpr c18
                    clear c18
                    by_cases c19 : x146002_2.length + (rd_L2 l1 x25_2).length < 140737488355328
                    · rw [if_pos c19] at H
                      have LMc19 := Aside0.mk c19
                      clear c19
                      obtain ⟨y147, hy147⟩ : ∃ y_ : List Int, y_ = (x146002_2 ++ (rd_L2 l1 x25_2)) := ⟨_, rfl⟩
                      replace H : (mat_Of.l0 k2 a0 l1 (l1.length : Int) (wrap64 (x25_2 + 1)) (l1.length : Int) a0 y147) = some (r1, r2, r3, r4) := by first | (rw [hy147]; with_reducible exact H) | (have H2_ := (Option.bind_some _ _).symm.trans H; rw [hy147]; with_reducible exact H2_) | (have H2_ := (Option.bind_some _ _).symm.trans H; with_reducible exact H2_) | with_reducible exact H | (rw [hy147]; exact H) | exact H
                      have Ny147 := Aside0.mk hy147
                      clear hy147
                      have H' := Aside0.mk H
                      clear H
                      have p146 : 0 ≤ (x25_2 : Int) := of_decide_eq_true (by first | (with_reducible assumption) | assumption)
                      have q146 : x25_2 < (l1.length : Int) := of_decide_eq_true (by first | (with_reducible assumption) | assumption)
                      obtain ⟨ad146, A146_0, c146_0, e146, hx146_0, hl146_0, hi146_0⟩ := at_L2 HR1.out x25_2 p146 q146
                      cases e146
                      replace hx146_0 := (HB.out.cell (World.block_lt_of_cell? w _ hx146_0)).trans hx146_0
                      have HR146_0 := Aside0.mk hi146_0
                      have HC146_0 := Aside0.mk hl146_0
                      clear hi146_0 hl146_0
                      replace p146 := eq_true p146
                      replace q146 := eq_true q146
                      have hnb20 := NB145_143.out
                      have hnc20 := NB143_145.out
                      have hcz21_0 : wr.cell? ⟨gb145, 0, none⟩ = some (.int .i64 (l1.length : Int)) := (blk_cell BK145.out 0).trans rfl
                      have hcz21_1 : wr.cell? ⟨gb145, 1, none⟩ = some (.int .i64 a0) := (blk_cell BK145.out 1).trans rfl
                      have hcz21_2 : wr.cell? ⟨gb145, 2, none⟩ = some (u146002) := (blk_cell BK145.out 2).trans rfl
                      have hfz21_0 := blk_frozen BK145.out 0
                      have hfz21_1 := blk_frozen BK145.out 1
                      have hfz21_2 := blk_frozen BK145.out 2
                      go_wp2_with (first | ((with_reducible refine gate_builtin (b := .append) (xs := #[.tmp 36, .tmp 37]) rfl ?_); (try (refine gate_guard (by rfl) ?_; dsimp only)); at_builtin; refine Kd.R_append_rows (Kd.int .u8) (w0 := w) w.heap.size rfl (.tmp 36) (.tmp 37) 41 5 (.int .u8 0) 1 rfl Tryd.underlying41 info5 rfl (by decide) (by omega) u146002 x146002_2 (rd_L2 l1 x25_2) _ _ _ (fun _ => True) (fun _ => False) rfl rfl ?aO ?aR (fun _ _ h => h) (fun _ h => h.elim) ?aF ?aB ?aS ?aL ?_; (case aR => repeat (first | exact (Kd.C_below HR146_0.out HB.out) | (with_reducible refine Kd.C_alloc ?_ _) | (with_reducible refine Kd.C_drewN ?_ _) | (with_reducible refine Kd.C_drew ?_))); (case aB => exact (by repeat (first | (with_reducible first | exact HB.out | apply below_alloc | apply pw_below_drewN | apply below_drew1 | refine below_set ?_ GE143.out | refine below_set ?_ GE145.out) | exact HB.out))); (case aF => exact (fun _ _ => trivial)); (case aO => exact (by (with_reducible repeat (first | apply Kd.R_alloc | apply Kd.R_drewN | apply Kd.R_drew)); exact HO_146002.out)); (case aS => exact (below_size (by repeat (first | (with_reducible first | exact HB.out | apply below_alloc | apply pw_below_drewN | apply below_drew1 | refine below_set ?_ GE143.out | refine below_set ?_ GE145.out) | exact HB.out)))); (case aL => have := LMc19.out; omega); intro v148 w22 ho hb hg hat; rw [← Ny147.out] at ho; have n0_ := Aside0.mk (blk_grown (g := gb143) (o := .cells #[.int .i64 x144000_2, .int .i64 x144001_2, .slice none 0 0] 43 (0, 0)) (by (with_reducible repeat (first | refine blk_drewN ?_ _ | refine blk_drew ?_ | refine blk_alloc ?_ _)); exact BK143.out) hg (Kd.R_ne HO_146002.out BK143.out (by decide))); have n1_ := Aside0.mk (blk_grown (g := gb145) (o := .cells #[.int .i64 (l1.length : Int), .int .i64 a0, u146002] 43 (0, 0)) (by (with_reducible repeat (first | refine blk_drewN ?_ _ | refine blk_drew ?_ | refine blk_alloc ?_ _)); exact BK145.out) hg (Kd.R_ne HO_146002.out BK145.out (by decide))); have n2_ := Aside0.mk (hb); have n3_ := Aside0.mk (ho); clear BK143; clear BK145; clear HB; clear HO_146002; have BK143 := n0_; have BK145 := n1_; have HB := n2_; have HO149 := n3_; clear n0_ n1_ n2_ n3_; clear ho hb hg hat; obtain ⟨Ao23, co23, eo23⟩ := Kd.R_slice HO149.out; subst eo23; have hcz24_0 : w22.cell? ⟨gb145, 0, none⟩ = some (.int .i64 (l1.length : Int)) := (blk_cell BK145.out 0).trans rfl; have hcz24_1 : w22.cell? ⟨gb145, 1, none⟩ = some (.int .i64 a0) := (blk_cell BK145.out 1).trans rfl; have hcz24_2 : w22.cell? ⟨gb145, 2, none⟩ = some (u146002) := (blk_cell BK145.out 2).trans rfl; have hfz24_0 := blk_frozen BK145.out 0; have hfz24_1 := blk_frozen BK145.out 1; have hfz24_2 := blk_frozen BK145.out 2))
                      go_roundg k2
                      case measure => have := HJ2.out; have := HK2.out; omega
                      case rel => exact ⟨(wrap64 (x25_2 + 1)), (x144000_2), (x144001_2), (y147), (.slice Ao23 y147.length co23), (by first | rfl | (simp; done) | (simp [*]; done)), H', ⟨by have := HJ2.out; have := HK2.out; omega⟩, ⟨by (with_reducible repeat (first | apply Kd.R_alloc | apply Kd.R_drewN | apply Kd.R_drew)); exact Kd.R_mono (Kd.R_far (p := ⟨gb145, 2, none⟩) (Kd.R_types HO149.out BK145.out (by decide)) (fun _ hk => hk.2) (.slice Ao23 y147.length co23)) (fun _ hk => trivial)⟩, ⟨by (with_reducible repeat (first | refine blk_drewN ?_ _ | refine blk_drew ?_ | refine blk_alloc ?_ _)); refine blk_far ?_ NB143_145.out _; (with_reducible repeat (first | refine blk_drewN ?_ _ | refine blk_drew ?_ | refine blk_alloc ?_ _)); exact BK143.out⟩, ⟨by (with_reducible repeat (first | refine blk_drewN ?_ _ | refine blk_drew ?_ | refine blk_alloc ?_ _)); refine blk_put (cs := #[.int .i64 (l1.length : Int), .int .i64 a0, u146002]) ?_ 2 _ rfl; (with_reducible repeat (first | refine blk_drewN ?_ _ | refine blk_drew ?_ | refine blk_alloc ?_ _)); exact BK145.out⟩, ⟨by repeat (first | (with_reducible first | exact HB.out | apply below_alloc | apply pw_below_drewN | apply below_drew1 | refine below_set ?_ GE143.out | refine below_set ?_ GE145.out) | exact HB.out)⟩⟩
                    · rw [if_neg c19] at H
                      exact absurd H (by simp)
                  · rw [if_neg c18] at H
                    have c18b0 : (((rd_L2 l1 x25_2).length : Int) == a0) = false := beq_eq_false_iff_ne.mpr c18
                    have c18b1 : (((rd_L2 l1 x25_2).length : Int) != a0) = true := bne_iff_ne.mpr c18
                    simp only [Option.some.injEq, Prod.mk.injEq] at H
                    obtain ⟨rfl, rfl, rfl, rfl⟩ := H
                    have p146 : 0 ≤ (x25_2 : Int) := of_decide_eq_true (by first | (with_reducible assumption) | assumption)
                    have q146 : x25_2 < (l1.length : Int) := of_decide_eq_true (by first | (with_reducible assumption) | assumption)
                    obtain ⟨ad146, A146_0, c146_0, e146, hx146_0, hl146_0, hi146_0⟩ := at_L2 HR1.out x25_2 p146 q146
                    cases e146
                    replace hx146_0 := (HB.out.cell (World.block_lt_of_cell? w _ hx146_0)).trans hx146_0
                    have HR146_0 := Aside0.mk hi146_0
                    have HC146_0 := Aside0.mk hl146_0
                    clear hi146_0 hl146_0
                    replace p146 := eq_true p146
                    replace q146 := eq_true q146
                    try go_wp2
                    have n0_ := Aside0.mk (Kd.R_drew HO_146002.out)
                    have n1_ := Aside0.mk (blk_drew BK143.out)
                    have n2_ := Aside0.mk (blk_drew BK145.out)
                    have n3_ := Aside0.mk (below_drew1 HB.out)
                    clear HO_146002
                    clear BK143
                    clear BK145
                    clear HB
                    have HO_146002 := n0_
                    have BK143 := n1_
                    have BK145 := n2_
                    have HB := n3_
                    clear n0_ n1_ n2_ n3_
                    refine start_ (n := 4) (S := fun w' => w'.cell? ⟨0, 0, none⟩ = some (.iface 133 (.pointer (some (Errs.ea 2))))) (ds := []) #[false, false, false, false] (by kernel_rfl) rfl rfl ((hgl2 _ HB)) (fun hHeld => ?_)
                    generalize wr.drew = w25 at HO_146002 BK143 BK145 HB hHeld ⊢
                    refine pure_ (i := 0) (N := some 33) (v := ?_) (a' := ?_) #[true, false, false, false] rfl rfl (by kernel_rfl) (fun _ _ _ h => h) (Or.inl ⟨by rfl, ?_⟩) ?_ ?_
                    rotate_left
                    · intro w'
                      go_simp
                      with_reducible rfl
                    rotate_left
                    · simp only [Act.put, List.setIfInBounds_toArray, List.set_cons_zero, List.set_cons_succ, i64_w, i32_w]
                      rfl
                    refine take_ (i := 1) (N := some 34) (v := ?_) (a' := ?_) #[true, true, false, false] rfl rfl (by kernel_rfl) (fun _ _ _ h => h) (Or.inl ⟨by rfl, ?_⟩) hHeld ?_ ?_
                    rotate_left
                    · intro w' s0
                      go_simp
                      with_reducible rfl
                    rotate_left
                    · simp only [Act.put, List.setIfInBounds_toArray, List.set_cons_zero, List.set_cons_succ, i64_w, i32_w]
                      rfl
                    refine one_ (i := 2) (N := none) #[true, true, true, false] rfl rfl (by kernel_rfl) (by decide) (fun K hK => ?_)
                    have hs26 : w25.cell? ⟨gb143, 0, none⟩ = some (.int .i64 x144000_2) := (blk_cell BK143.out 0).trans rfl
                    have hfs26 := blk_frozen BK143.out 0
                    have hns26_1 := NB145_143.out
                    have hms26_1 := NB143_145.out
                    have hs27 : w25.cell? ⟨gb143, 1, none⟩ = some (.int .i64 x144001_2) := (blk_cell BK143.out 1).trans rfl
                    have hfs27 := blk_frozen BK143.out 1
                    have hns27_1 := NB145_143.out
                    have hms27_1 := NB143_145.out
                    have hs28 : w25.cell? ⟨gb143, 2, none⟩ = some (.slice none 0 0) := (blk_cell BK143.out 2).trans rfl
                    have hfs28 := blk_frozen BK143.out 2
                    have hns28_1 := NB145_143.out
                    have hms28_1 := NB143_145.out
                    refine skip_ (w1 := ?_) (by rfl) rfl ?_ ?_
                    rotate_left
                    · go_simp
                      rfl
                    refine hK.out _ _ (((cell_far (p := ⟨gb143, _, none⟩) (by first | exact Nat.ne_of_lt (Nat.lt_of_lt_of_le (World.block_lt_of_cell? _ _ hglw2) GW143.out) | (rw [add_block]; exact Nat.ne_of_lt (Nat.lt_of_lt_of_le (World.block_lt_of_cell? _ _ hglw2) GW143.out)) | (show (Addr.add _ _).block ≠ _; rw [add_block]; exact Nat.ne_of_lt (Nat.lt_of_lt_of_le (World.block_lt_of_cell? _ _ hglw2) GW143.out)) | (dsimp only; exact Nat.ne_of_lt (Nat.lt_of_lt_of_le (World.block_lt_of_cell? _ _ hglw2) GW143.out))) _).trans (((cell_far (p := ⟨gb143, _, none⟩) (by first | exact Nat.ne_of_lt (Nat.lt_of_lt_of_le (World.block_lt_of_cell? _ _ hglw2) GW143.out) | (rw [add_block]; exact Nat.ne_of_lt (Nat.lt_of_lt_of_le (World.block_lt_of_cell? _ _ hglw2) GW143.out)) | (show (Addr.add _ _).block ≠ _; rw [add_block]; exact Nat.ne_of_lt (Nat.lt_of_lt_of_le (World.block_lt_of_cell? _ _ hglw2) GW143.out)) | (dsimp only; exact Nat.ne_of_lt (Nat.lt_of_lt_of_le (World.block_lt_of_cell? _ _ hglw2) GW143.out))) _).trans (((cell_far (p := ⟨gb143, _, none⟩) (by first | exact Nat.ne_of_lt (Nat.lt_of_lt_of_le (World.block_lt_of_cell? _ _ hglw2) GW143.out) | (rw [add_block]; exact Nat.ne_of_lt (Nat.lt_of_lt_of_le (World.block_lt_of_cell? _ _ hglw2) GW143.out)) | (show (Addr.add _ _).block ≠ _; rw [add_block]; exact Nat.ne_of_lt (Nat.lt_of_lt_of_le (World.block_lt_of_cell? _ _ hglw2) GW143.out)) | (dsimp only; exact Nat.ne_of_lt (Nat.lt_of_lt_of_le (World.block_lt_of_cell? _ _ hglw2) GW143.out))) _).trans (hHeld))))))) (fun hHeld => ?_)
                    clear hK K
                    refine pure_ (i := 3) (N := some 5) (v := ?_) (a' := ?_) #[true, true, true, true] rfl rfl (by kernel_rfl) (fun _ _ _ h => h) (Or.inl ⟨by rfl, ?_⟩) ?_ ?_
                    rotate_left
                    · intro w'
                      go_simp
                      with_reducible rfl
                    rotate_left
                    · simp only [Act.put, List.setIfInBounds_toArray, List.set_cons_zero, List.set_cons_succ, i64_w, i32_w]
                      rfl
                    refine done_ (by kernel_rfl) ?_
                    try go_wp2
                    refine bodyPost_ret (results_ct rfl _ _ gb143 43 #[.int .i64 0, .int .i64 0, .slice none 0 0] (0, 0) _ rfl (by (with_reducible repeat (first | refine blk_drewN ?_ _ | refine blk_drew ?_ | refine blk_alloc ?_ _)); refine blk_put (cs := #[.int .i64 0, .int .i64 0, .slice none 0 0]) ?_ 2 _ rfl; (with_reducible repeat (first | refine blk_drewN ?_ _ | refine blk_drew ?_ | refine blk_alloc ?_ _)); refine blk_put (cs := #[.int .i64 0, .int .i64 x144001_2, .slice none 0 0]) ?_ 1 _ rfl; (with_reducible repeat (first | refine blk_drewN ?_ _ | refine blk_drew ?_ | refine blk_alloc ?_ _)); refine blk_put (cs := #[.int .i64 x144000_2, .int .i64 x144001_2, .slice none 0 0]) ?_ 0 _ rfl; (with_reducible repeat (first | refine blk_drewN ?_ _ | refine blk_drew ?_ | refine blk_alloc ?_ _)); exact BK143.out) Tryd.underlying43 rfl (by kernel_rfl)) rfl ?_
                    exact ⟨_, by first | rfl | (simp [errW_none, errW_some] <;> rfl) | (simp [*, errW_none, errW_some] <;> rfl), by first | exact Kd.R_nil _ _ _ _ _ | exact Kd.N_nil _ _ _ _ _ | exact Kd.V_nil _ _ _ _ _ | exact Kd.Q_nil _ _ _ _ _ | exact Kd.S_nil _ _ _ _ _, by repeat (first | (with_reducible first | exact HB.out | apply below_alloc | apply pw_below_drewN | apply below_drew1 | refine below_set ?_ GE143.out | refine below_set ?_ GE145.out) | exact HB.out)⟩
                · rw [if_neg c17] at H
                  exact absurd H (by simp)
              · rw [if_neg c16] at H
                exact absurd H (by simp)
            · rw [if_neg c15] at H
              have c15b0 : decide (x25_2 < (l1.length : Int)) = false := decide_eq_false c15
              clear c15
              simp only [Option.some.injEq, Prod.mk.injEq] at H
              obtain ⟨rfl, rfl, rfl, rfl⟩ := H
              have hnb29 := NB145_143.out
              have hnc29 := NB143_145.out
              have hcz30_0 : wr.cell? ⟨gb145, 0, none⟩ = some (.int .i64 (l1.length : Int)) := (blk_cell BK145.out 0).trans rfl
              have hcz30_1 : wr.cell? ⟨gb145, 1, none⟩ = some (.int .i64 a0) := (blk_cell BK145.out 1).trans rfl
              have hcz30_2 : wr.cell? ⟨gb145, 2, none⟩ = some (u146002) := (blk_cell BK145.out 2).trans rfl
              have hfz30_0 := blk_frozen BK145.out 0
              have hfz30_1 := blk_frozen BK145.out 1
              have hfz30_2 := blk_frozen BK145.out 2
              have hcz31_0 : wr.cell? ⟨gb143, 0, none⟩ = some (.int .i64 x144000_2) := (blk_cell BK143.out 0).trans rfl
              have hcz31_1 : wr.cell? ⟨gb143, 1, none⟩ = some (.int .i64 x144001_2) := (blk_cell BK143.out 1).trans rfl
              have hcz31_2 : wr.cell? ⟨gb143, 2, none⟩ = some (.slice none 0 0) := (blk_cell BK143.out 2).trans rfl
              have hfz31_0 := blk_frozen BK143.out 0
              have hfz31_1 := blk_frozen BK143.out 1
              have hfz31_2 := blk_frozen BK143.out 2
              obtain ⟨Ao32, co32, eo32⟩ := Kd.R_slice HO_146002.out
              subst eo32
              go_wp2
              refine bodyPost_ret (results_ct rfl _ _ gb143 43 #[.int .i64 (l1.length : Int), .int .i64 a0, .slice Ao32 x146002_2.length co32] (0, 0) _ rfl (by (with_reducible repeat (first | refine blk_drewN ?_ _ | refine blk_drew ?_ | refine blk_alloc ?_ _)); refine blk_put (cs := #[.int .i64 (l1.length : Int), .int .i64 a0, .slice none 0 0]) ?_ 2 _ rfl; (with_reducible repeat (first | refine blk_drewN ?_ _ | refine blk_drew ?_ | refine blk_alloc ?_ _)); refine blk_put (cs := #[.int .i64 (l1.length : Int), .int .i64 x144001_2, .slice none 0 0]) ?_ 1 _ rfl; (with_reducible repeat (first | refine blk_drewN ?_ _ | refine blk_drew ?_ | refine blk_alloc ?_ _)); refine blk_put (cs := #[.int .i64 x144000_2, .int .i64 x144001_2, .slice none 0 0]) ?_ 0 _ rfl; (with_reducible repeat (first | refine blk_drewN ?_ _ | refine blk_drew ?_ | refine blk_alloc ?_ _)); exact BK143.out) Tryd.underlying43 rfl (by kernel_rfl)) rfl ?_
              exact ⟨_, by first | rfl | (simp [errW_none, errW_some] <;> rfl) | (simp [*, errW_none, errW_some] <;> rfl), by (with_reducible repeat (first | apply Kd.R_alloc | apply Kd.R_drewN | apply Kd.R_drew)); exact Kd.R_mono (Kd.R_far (p := ⟨gb143, 2, none⟩) (Kd.R_far (p := ⟨gb143, 1, none⟩) (Kd.R_far (p := ⟨gb143, 0, none⟩) (Kd.R_types HO_146002.out BK143.out (by decide)) (fun _ hk => hk.2) (.int .i64 (l1.length : Int))) (fun _ hk => hk.2) (.int .i64 a0)) (fun _ hk => hk.2) (.slice Ao32 x146002_2.length co32)) (fun _ hk => trivial), by repeat (first | (with_reducible first | exact HB.out | apply below_alloc | apply pw_below_drewN | apply below_drew1 | refine below_set ?_ GE143.out | refine below_set ?_ GE145.out) | exact HB.out)⟩

end Go.Proofs.YtndnedjclbigiaaDoor.F

namespace Go.Proofs.YtndnedjclbigiaaDoor
open Go.RowKit Go.Proofs.YtndnedjclbigiaaDoorW.PrintWords Go.Proofs.YtndnedjclbigiaaDoorW.PrintLast Go.Proofs.YtndnedjclbigiaaDoorW.PrintMore
open Go.Proofs.YtndnedjclbigiaaDoor.F
set_option linter.unusedVariables false
set_option linter.unusedSectionVars false
set_option linter.unusedSimpArgs false
variable [Errs]

set_option maxHeartbeats 800000 in
theorem gf_kernel.calls (k : Nat) (a b c r : Int) (g : Nat) (w : World) (hc : w.heap[g]? = some (.cells #[.int .u8 c] 5 (0, 0))) (h : gf_Mul.f k c b = some r) :
    Calls Tryd.prog 88 #[.int .u8 a, .int .u8 b, .pointer (some ⟨g, 0, none⟩)] w fun e w' => e = .returned (.int .u8 (Go.bits .xor .u8 a r)) ∧ Drawn0 w w' := by
  have hcell : w.cell? ⟨g, 0, none⟩ = some (.int .u8 c) := (blk_cell hc 0).trans rfl
  have A1 := Aside0.mk h
  clear h hc
  go_enter Tryd.func88, Tryd.ntmps88
  go_wp2_with (go_at_call 72; go_loud ((with_reducible refine (gf_Mul.calls k c b r _ A1.out).mono ?_); rintro e w1 ⟨rfl, ⟨nd, rfl⟩⟩))
  go_ret
  exact ⟨by first | rfl | (simp; done) | (simp [*]; done), by repeat (first | exact Drawn0.refl _ | apply Drawn0.step)⟩


theorem take_encs {α : Type} {enc : α → Value} (cur : List Value) (n : Nat) (xs : List α) (h : cur.take n = encs enc xs) (m : Nat) (hm : m ≤ n) : cur.take m = encs enc (xs.take m) := by
  have : (cur.take n).take m = (encs enc xs).take m := by rw [h]
  rw [List.take_take, Nat.min_eq_left hm] at this
  rw [this]; simp [encs, List.map_take]

/-- copy(out, xs): xs a slice of numbers that is read, no longer than out, a row of the call's own. -/
theorem copy_in {k : IntKind} {P : Program} {w0 W : World} {ops : Array Oper} {rest : List Oper} {o : Oper} {a : Act} {Q : Exit → Act → World → Prop} (hgd : o.guard = none) {N : Tmp} (_hd : o.dst = some N) (d s : Operand) (dT sT : TypeId)
    (ho : o.op = .call { callee := .builtin .copy, args := #[d, s], argTypes := #[dT, sT] }) (elem : TypeId) (hu : P.underlying dT = some (.slice elem)) (hsz : (P.info? elem).map (·.size) = some 1)
    (v : Value) (A : Option Addr) (n c : Nat) (xs zs : List Int) (hd : a.eval d = v) (hs : a.eval s = .slice A n c) (base : Nat) (ok : Nat → Prop)
    (hv : Kd.R (Kd.int k) elem W base ok v zs) (hr : Kd.C (Kd.int k) W A n xs) (hle : n ≤ zs.length) (hB : Below base w0 W)
    (h : ∀ w', Kd.R (Kd.int k) elem w' base ok v (xs ++ zs.drop n) → Below base w0 w' → wpList P ops Q rest (a.put o.dst (goInt n)) w') : wpList P ops Q (o :: rest) a W := by
  have hl : xs.length = n := hr.1
  rcases Nat.eq_zero_or_pos n with h0 | hp
  · obtain ⟨dp, cd, rfl⟩ := Kd.R_slice hv
    subst h0
    obtain rfl : xs = [] := List.eq_nil_of_length_eq_zero hl
    refine wpList_copy_nothing hgd d s dT sT ho elem hu hsz dp A _ _ 0 c hd hs (by simp) ?_
    exact h W (by simpa using hv) hB
  · obtain ⟨g, cap, rfl, hg, hgl, cells, hcells⟩ := Kd.R_form hv (by omega)
    have hown := Kd.own_of_R hv
    obtain ⟨hlen, hx⟩ := hown
    rcases hx with ⟨hx, _⟩ | ⟨g', cap', cur, hx, hb', hh, hnc, hcm, hcs, htk⟩
    · cases hx
    · injection hx with hx1 hx2 hx3
      injection hx1 with hx1
      injection hx1 with hx1
      subst hx1 hx3
      obtain ⟨ad, rfl, hcell⟩ := hr.2.2 hp
      rw [Nat.mul_one] at hcs htk
      refine wpList_copy_splice hgd d s dT sT ho elem hu hsz _ _ zs.length cap n c hd hs g 0 cur.toList elem (by simpa using hh) (encs (Value.int k) xs) (by rw [encs_length, hl]; exact (Nat.min_eq_left hle).symm) ?_ (by rw [encs_length, hl]; simp; omega) (by intro u hu; obtain ⟨x, _, rfl⟩ := List.mem_map.1 hu; rfl) base w0 hB hb' ?_
      · intro _
        refine ⟨rfl, ad, rfl, fun j u hj => ?_⟩
        have hjl : j < xs.length := by
          have := (List.getElem?_eq_some_iff.1 hj).1
          rwa [encs_length] at this
        obtain ⟨cc, hc1, hc2, hc3⟩ := hcell j _ (List.getElem?_eq_getElem hjl)
        have hu' : u = Value.int k xs[j] := by
          simp [encs, hjl] at hj
          exact hj.symm
        have hcc : cc = [Value.int k xs[j]] := hc2
        subst hcc
        have := hc3 0 (Value.int k xs[j]) rfl
        rw [hu']
        have e1 : j * (Kd.int k).sz + 0 = j := by show j * 1 + 0 = j; omega
        rw [e1] at this
        exact this
      · intro w' hH hB'
        have hH' := hH.out
        rw [encs_length, hl]
        refine h w' (Kd.R_of_own ?_ hv.1) hB'
        have hlen2 : (xs ++ zs.drop n).length = zs.length := by rw [List.length_append, List.length_drop]; omega
        have hwhole : cur.toList.take zs.length = encs (Value.int k) zs := htk
        refine ⟨by rw [encs_length, Nat.mul_one], .inr ⟨g, cap, (splice cur.toList 0 (encs (Value.int k) xs)).toArray, by rw [hlen2], hb', hH', by rw [hlen2]; exact hnc, hcm, ?_, ?_⟩⟩
        · simp [splice, encs_length, hl]; omega
        · rw [hlen2, Nat.mul_one]
          have e3 : (cur.toList.drop n).take (zs.length - n) = encs (Value.int k) (zs.drop n) := by
            rw [← List.drop_take, hwhole]; simp [encs, List.map_drop]
          simp only [splice, List.take_zero, List.nil_append, Nat.zero_add, encs_length, hl]
          rw [List.take_append, encs_length, hl, e3, List.take_of_length_le (by rw [encs_length]; omega), encs_append]

def gf_each.l0 : Nat → Int → List Int → List Int → Int → Option (List Int)
  | 0, _, _, _, _ => none
  | k + 1, c, b, out, i => if i < (b.length : Int) then (gf_Mul.f k c (rd b i)).bind fun t => gf_each.l0 k c b (out.set i.toNat (Go.bits .xor .u8 (rd out i) t)) (i + 1) else some out
def gf_each.f (k : Nat) (a : List Int) (c : Int) (b : List Int) : Option (List Int) := if a.length ≤ b.length then gf_each.l0 k c b (a ++ List.replicate (b.length - a.length) 0) 0 else none
theorem gf_each.mono_l : ∀ k, (∀ y0 y1 y2 y3, LeO (gf_each.l0 k y0 y1 y2 y3) (gf_each.l0 (k + 1) y0 y1 y2 y3))
  | 0 => fun _ _ _ _ r h => by simp [gf_each.l0] at h
  | k + 1 => by
    have ih := gf_each.mono_l k
    intro y0 y1 y2 y3
    unfold gf_each.l0
    exact LeO.ite (LeO.bind (gf_Mul.mono _ _ _) (fun _ => ih _ _ _ _)) (LeO.refl _)
theorem gf_each.mono (a : List Int) (c : Int) (b : List Int) (k : Nat) : LeO (gf_each.f k a c b) (gf_each.f (k + 1) a c b) := by unfold gf_each.f; exact LeO.ite (gf_each.mono_l k _ _ _ _) (LeO.refl _)

theorem info5e : (Tryd.prog.info? 5).map (fun i => (i.zero, i.size, i.bytes)) = some (some (.int .u8 0), 1, 1) := by kernel_rfl
theorem size5e : (Tryd.prog.info? 5).map (·.size) = some 1 := by kernel_rfl
theorem int_max (p q n : Nat) (h : max p q = n) : max (p : Int) (q : Int) = (n : Int) := by omega

theorem C_at_ {k : IntKind} {w : World} {A : Option Addr} {n : Nat} {xs : List Int} (h : Kd.C (Kd.int k) w A n xs) (i : Int) (h0 : 0 ≤ i) (h1 : i < n) :
    ∃ ad, A = some ad ∧ w.cell? (ad.add i.toNat) = some (.int k (rd xs i)) := by
  obtain ⟨ad, cc, rfl, hl, hk, hc⟩ := ReadsRow.get_ h 0 i h0 h1
  have hcc : cc = [Value.int k (xs.getD i.toNat 0)] := hk
  subst hcc
  have := hc 0 _ rfl
  have e1 : i.toNat * (Kd.int k).sz + 0 = i.toNat := by show i.toNat * 1 + 0 = i.toNat; omega
  rw [e1] at this
  exact ⟨ad, rfl, this⟩

def EachPost (w : World) (r : List Int) (e : Ending) (w' : World) : Prop := ∃ v0_ : Value, e = .returned v0_ ∧ Kd.R (Kd.int .u8) 5 w' w.heap.size (fun _ => True) v0_ r ∧ Below w.heap.size w w'

attribute [local go_sem] max2_int min2_int max_two min_two
set_option maxHeartbeats 1600000 in
set_option maxRecDepth 100000 in
theorem gf_each.calls (k : Nat) (A0 : Option Addr) (c0 : Nat) (l0 : List Int) (A1 : Option Addr) (c1 : Nat) (l1 : List Int) (c : Int) (g : Nat) (r : List Int) (w : World)
    (hr0 : Kd.C (Kd.int .u8) w A0 l0.length l0) (hr1 : Kd.C (Kd.int .u8) w A1 l1.length l1) (hg : w.heap[g]? = some (.cells #[.int .u8 c] 5 (0, 0))) (hm0 : l0.length ≤ 140737488355328) (hm1 : l1.length ≤ 140737488355328) (h : gf_each.f k l0 c l1 = some r) :
    Calls Tryd.prog 82 #[.slice A0 l0.length c0, .slice A1 l1.length c1, .func (.func 88) #[] #[.pointer (some ⟨g, 0, none⟩)]] w (EachPost w r) := by
  have hu39 := Tryd.underlying41
  unfold gf_each.f at h
  by_cases hle : l0.length ≤ l1.length
  rotate_left
  · rw [if_neg hle] at h; cases h
  rw [if_pos hle] at h
  have HR0 := Aside0.mk hr0
  have HR1 := Aside0.mk hr1
  have HG := Aside0.mk hg
  have HM0 := Aside0.mk hm0
  have HM1 := Aside0.mk hm1
  have HB := Aside0.mk (Below.refl w.heap.size w)
  have HA := Aside0.mk h
  have HL := Aside0.mk hle
  have hmx1 : (if l0.length < l1.length then (l1.length : Int) else (l0.length : Int)) = (l1.length : Int) := by split <;> omega
  have hmx2 : (if (l0.length : Int) < (l1.length : Int) then (l1.length : Int) else (l0.length : Int)) = (l1.length : Int) := by split <;> omega
  clear h hr0 hr1 hg hm0 hm1 hle
  go_enter Tryd.func82, Tryd.ntmps82
  go_wp2_with (first
    | ((with_reducible refine gate_dst (N := 15) rfl ?_); refine Kd.R_make (Kd.int .u8) _ 5 rfl (N := 15) rfl 41 _ _ rfl (l1.length : Int) rfl rfl Tryd.underlying41 (.int .u8 0) 1 info5e rfl (by decide) (by omega) 0 (ok := fun _ => True) (okp := fun _ => True) rfl (fun _ hk => hk) trivial (by omega) (by have := HM1.out; omega) (Below.refl _ _) (Nat.le_refl _) ?_; intro v1 w1 ho1 hb1 hg_ hnew_; clear hg_ hnew_; rw [Int.toNat_natCast] at ho1; have n1_ := Aside0.mk (Kd.R_lower ho1 (below_size HB.out)); have n2_ := Aside0.mk (below_step HB.out hb1); clear HB ho1 hb1; have HO := n1_; have HB := n2_; clear n1_ n2_)
    | ((with_reducible refine gate_dst (N := 18) rfl ?_); refine copy_in rfl (N := 18) rfl _ _ 41 41 rfl 5 Tryd.underlying41 size5e v1 A0 l0.length c0 l0 (List.replicate l1.length 0) rfl rfl w.heap.size (fun _ => True) HO.out (Kd.C_below HR0.out HB.out) (by have := HL.out; simpa using this) HB.out ?_; intro w2 ho2 hb2; rw [List.drop_replicate] at ho2; have HO2 := Aside0.mk ho2; have HB2 := Aside0.mk hb2; clear HO HB ho2 hb2; have HO := HO2; have HB := HB2; clear HO2 HB2))
  go_loopg [21] k (fun kq v21 w' => ∃ (i : Int) (out : List Int), v21 = .int .i64 i ∧ Aside0 (0 ≤ i) ∧ Aside0 (gf_each.l0 kq c l1 out i = some r) ∧ Aside0 (kq ≤ k) ∧ Aside0 (out.length = l1.length) ∧ Aside0 (Kd.R (Kd.int .u8) 5 w' w.heap.size (fun _ => True) v1 out) ∧ Aside0 (Below w.heap.size w w'))
  case atStart => exact ⟨0, _, rfl, ⟨by omega⟩, HA, ⟨Nat.le_refl _⟩, ⟨by have := HL.out; simp; omega⟩, HO, HB⟩
  case round =>
    clear HA HO HB
    obtain ⟨i, out, rfl, H0, HA, HK, HN, HO, HB⟩ := hrel
    cases gk with
    | zero => exact absurd HA.out (by simp [gf_each.l0])
    | succ k1 =>
      have H := HA.out
      clear HA
      rw [gf_each.l0] at H
      by_cases hlt : i < (l1.length : Int)
      · rw [if_pos hlt] at H
        obtain ⟨t, hA, H⟩ := Option.bind_eq_some_iff.mp H
        have A1 := Aside0.mk hA
        have H' := Aside0.mk H
        clear hA H
        have h0 := H0.out
        obtain ⟨ad, rfl, hx⟩ := C_at_ (Kd.C_below HR1.out HB.out) i h0 hlt
        obtain ⟨go, cap, rfl, hgo, hgl, cells, hcells⟩ := Kd.R_form HO.out (by have := HN.out; omega)
        have hol : (out.length : Int) = (l1.length : Int) := by have := HN.out; omega
        have hol' : i < (out.length : Int) := by omega
        obtain ⟨hy, hyf⟩ := Kd.R_celln 0 HO.out i h0 hol'
        have HGO := Aside0.mk hgo
        have HOL := Aside0.mk hol
        clear hol hgo hgl hcells
        have hw1 : wrap64 (i + 1) = i + 1 := by have := HM1.out; unfold wrap64; omega
        go_wp2_with (go_at_call 88; (with_reducible refine (gf_kernel.calls k1 (rdOf 0 out i) (rd l1 i) c t g _ (blk_below HG.out HB.out) A1.out).mono ?_); rintro e w' ⟨rfl, ⟨nd, rfl⟩⟩)
        go_roundg k1
        case measure => have := HK.out; omega
        case rel => exact ⟨i + 1, out.set i.toNat (Go.bits .xor .u8 (rd out i) t), by first | rfl | simp [hw1], ⟨by omega⟩, H', ⟨by have := HK.out; omega⟩, ⟨by rw [List.length_set]; exact HN.out⟩, ⟨Kd.R_putn (Kd.R_drewN HO.out nd) i _⟩, ⟨below_set (pw_below_drewN HB.out nd) HGO.out⟩⟩
      · rw [if_neg hlt] at H
        obtain rfl := Option.some.inj H
        clear H
        go_wp2
        go_ret
        exact ⟨_, rfl, HO.out, HB.out⟩

theorem gf_scaled.calls (c : Int) (w : World) :
    Calls Tryd.prog 83 #[.int .u8 c] w fun e w' => e = .returned (.func (.func 88) #[] #[.pointer (some ⟨w.heap.size, 0, none⟩)]) ∧ w.alloc (.cells #[.int .u8 c] 5) = w' := by
  have hmf : ∀ (fn : Fn) (first cap : Array Value) (w : World), (Instr.makeFunc fn first cap).run Tryd.prog w = .ok (.func fn first cap) w := fun _ _ _ _ => rfl
  go_enter Tryd.func83, Tryd.ntmps83
  go_wp2
  go_ret
  exact ⟨rfl, rfl⟩

def gf_AddScaled.f (k : Nat) (a : List Int) (c : Int) (b : List Int) : Option (List Int) := if a.length ≤ 140737488355328 then (if b.length ≤ 140737488355328 then gf_each.f k a c b else none) else none
theorem gf_AddScaled.mono (a : List Int) (c : Int) (b : List Int) (k : Nat) : LeO (gf_AddScaled.f k a c b) (gf_AddScaled.f (k + 1) a c b) := LeO.ite (LeO.ite (gf_each.mono _ _ _ _) (LeO.refl _)) (LeO.refl _)
def gf_Scale.f (k : Nat) (c : Int) (b : List Int) : Option (List Int) := gf_AddScaled.f k [] c b
theorem gf_Scale.mono (c : Int) (b : List Int) (k : Nat) : LeO (gf_Scale.f k c b) (gf_Scale.f (k + 1) c b) := gf_AddScaled.mono _ _ _ _
theorem gf_AddScaled.both {k : Nat} {a : List Int} {c : Int} {b r : List Int} (h : gf_AddScaled.f k a c b = some r) : a.length ≤ 140737488355328 ∧ b.length ≤ 140737488355328 ∧ gf_each.f k a c b = some r := by
  unfold gf_AddScaled.f at h
  by_cases h0 : a.length ≤ 140737488355328
  · by_cases h1 : b.length ≤ 140737488355328
    · rw [if_pos h0, if_pos h1] at h; exact ⟨h0, h1, h⟩
    · rw [if_pos h0, if_neg h1] at h; cases h
  · rw [if_neg h0] at h; cases h

set_option maxHeartbeats 800000 in
theorem gf_AddScaled.calls (k : Nat) (A0 : Option Addr) (c0 : Nat) (l0 : List Int) (a1 : Int) (A2 : Option Addr) (c2 : Nat) (l2 : List Int) (r : List Int) (w : World)
    (hr0 : Kd.C (Kd.int .u8) w A0 l0.length l0) (hc0 : l0.length ≤ c0) (hr2 : Kd.C (Kd.int .u8) w A2 l2.length l2) (hc2 : l2.length ≤ c2) (h : gf_AddScaled.f k l0 a1 l2 = some r) :
    Calls Tryd.prog 75 #[.slice A0 l0.length c0, .int .u8 a1, .slice A2 l2.length c2] w fun e w' => ∃ v0_ : Value, e = .returned v0_ ∧ Kd.R (Kd.int .u8) 5 w' w.heap.size (fun _ => True) v0_ r ∧ Below w.heap.size w w' := by
  obtain ⟨hm0, hm2, h⟩ := gf_AddScaled.both h
  have hz : w.heap.size ≤ (w.alloc (.cells #[.int .u8 a1] 5)).heap.size := by simp
  have P1 := Aside0.mk (fun w1 (hb : w.alloc (.cells #[.int .u8 a1] 5) = w1) => gf_each.calls k A0 c0 l0 A2 c2 l2 a1 w.heap.size r w1 (by rw [← hb]; exact Kd.C_alloc hr0 _) (by rw [← hb]; exact Kd.C_alloc hr2 _) (by rw [← hb]; exact heap_alloc_new w _) hm0 hm2 h)
  clear hr0 hr2 hc0 hc2 hm0 hm2 h
  go_enter Tryd.func75, Tryd.ntmps75
  go_wp2_with (first
    | (go_at_call 83; (with_reducible refine (gf_scaled.calls a1 _).mono ?_); rintro e w1 ⟨rfl, hb⟩; have HW := Aside0.mk hb; clear hb)
    | (go_at_call 82; (with_reducible refine (P1.out _ HW.out).mono ?_); rintro e w2 ⟨v, rfl, ho, hb⟩; have HO := Aside0.mk ho; have HB := Aside0.mk hb; clear ho hb))
  go_ret
  have hW := HW.out
  subst hW
  exact ⟨_, rfl, Kd.R_lower HO.out hz, below_step ((Below.refl _ _).alloc (Nat.le_refl _) _) HB.out⟩

set_option maxHeartbeats 800000 in
theorem gf_Scale.calls (k : Nat) (a0 : Int) (A1 : Option Addr) (c1 : Nat) (l1 : List Int) (r : List Int) (w : World)
    (hr1 : Kd.C (Kd.int .u8) w A1 l1.length l1) (hc1 : l1.length ≤ c1) (h : gf_Scale.f k a0 l1 = some r) :
    Calls Tryd.prog 74 #[.int .u8 a0, .slice A1 l1.length c1] w fun e w' => ∃ v0_ : Value, e = .returned v0_ ∧ Kd.R (Kd.int .u8) 5 w' w.heap.size (fun _ => True) v0_ r ∧ Below w.heap.size w w' := by
  obtain ⟨hm0, hm2, h⟩ := gf_AddScaled.both h
  have hz : w.heap.size ≤ (w.alloc (.cells #[.int .u8 a0] 5)).heap.size := by simp
  have P1 : Aside0 (∀ w1, w.alloc (.cells #[.int .u8 a0] 5) = w1 → Calls Tryd.prog 82 #[.slice none 0 0, .slice A1 l1.length c1, .func (.func 88) #[] #[.pointer (some ⟨w.heap.size, 0, none⟩)]] w1 (EachPost w1 r)) := Aside0.mk (fun w1 (hb : w.alloc (.cells #[.int .u8 a0] 5) = w1) => gf_each.calls k none 0 [] A1 c1 l1 a0 w.heap.size r w1 ⟨rfl, by simp, fun h => absurd h (Nat.lt_irrefl 0)⟩ (by rw [← hb]; exact Kd.C_alloc hr1 _) (by rw [← hb]; exact heap_alloc_new w _) hm0 hm2 h)
  clear hr1 hc1 hm0 hm2 h
  go_enter Tryd.func74, Tryd.ntmps74
  go_wp2_with (first
    | (go_at_call 83; (with_reducible refine (gf_scaled.calls a0 _).mono ?_); rintro e w1 ⟨rfl, hb⟩; have HW := Aside0.mk hb; clear hb)
    | (go_at_call 82; (with_reducible refine (P1.out _ HW.out).mono ?_); rintro e w2 ⟨v, rfl, ho, hb⟩; have HO := Aside0.mk ho; have HB := Aside0.mk hb; clear ho hb))
  go_ret
  have hW := HW.out
  subst hW
  exact ⟨_, rfl, Kd.R_lower HO.out hz, below_step ((Below.refl _ _).alloc (Nat.le_refl _) _) HB.out⟩

end Go.Proofs.YtndnedjclbigiaaDoor

namespace Go.Proofs.YtndnedjclbigiaaDoor
open Go.RowKit Go.Proofs.YtndnedjclbigiaaDoorW.PrintWords Go.Proofs.YtndnedjclbigiaaDoorW.PrintLast Go.Proofs.YtndnedjclbigiaaDoorW.PrintMore
open Go.Proofs.YtndnedjclbigiaaDoor.F
set_option linter.unusedVariables false
set_option linter.unusedSectionVars false
set_option linter.unusedSimpArgs false
variable [Errs]

/-- What a row of bytes leads to lies in a block of bytes. -/
def Typ (w : World) (A : Option Addr) (x : List Int) : Prop := ∀ ad, A = some ad → 0 < x.length → ∃ cells : Array Value, w.heap[ad.block]? = some (.cells cells 5 (0, 0))
/-- Rows of bytes, the list of them in block g. -/
def RowsN (w : World) (g n cap : Nat) (xs : List (List Int)) : Prop :=
  xs.length = n ∧ n ≤ cap ∧ cap ≤ maxLen ∧ ∃ cur : Array Value, w.heap[g]? = some (.cells cur 41 (0, 0)) ∧ cur.size = cap ∧
    ∀ (i : Nat) (x : List Int), xs[i]? = some x → ∃ (A : Option Addr) (c : Nat), cur[i]? = some (Value.slice A x.length c) ∧ x.length ≤ c ∧ Kd.C (Kd.int .u8) w A x.length x ∧ Typ w A x

abbrev rrd (xs : List (List Int)) (i : Int) : List Int := rd_L2 xs i
theorem rrd_at {xs : List (List Int)} {i : Int} (h0 : 0 ≤ i) (h1 : i < (xs.length : Int)) : xs[i.toNat]? = some (rrd xs i) := by
  have hl : i.toNat < xs.length := by omega
  simp [rd_L2, List.getD_eq_getElem?_getD, hl]

theorem Typ.ne {w : World} {A : Option Addr} {x : List Int} {g t : Nat} {cur : Array Value} (h : Typ w A x) (hc : w.heap[g]? = some (.cells cur t (0, 0))) (ht : t ≠ 5) : ∀ ad, A = some ad → 0 < x.length → ad.block ≠ g := by
  intro ad ha hl e
  obtain ⟨cells, hx⟩ := h ad ha hl
  rw [e, hc] at hx
  injection hx with hx
  injection hx with h1 h2
  exact ht h2
theorem Typ.below {w w1 : World} {A : Option Addr} {x : List Int} (h : Typ w A x) (hb : Below w.heap.size w w1) : Typ w1 A x := by
  intro ad ha hl
  obtain ⟨cells, hx⟩ := h ad ha hl
  exact ⟨cells, blk_below hx hb⟩
theorem RowsN.get {w : World} {g n cap : Nat} {xs : List (List Int)} (h : RowsN w g n cap xs) (i : Int) (h0 : 0 ≤ i) (h1 : i < (n : Int)) :
    ∃ (A : Option Addr) (c : Nat), w.cell? ⟨g, i.toNat, none⟩ = some (Value.slice A (rrd xs i).length c) ∧ w.frozen? ⟨g, i.toNat, none⟩ = false ∧ (rrd xs i).length ≤ c ∧ Kd.C (Kd.int .u8) w A (rrd xs i).length (rrd xs i) ∧ Typ w A (rrd xs i) := by
  obtain ⟨hl, _, _, cur, hc, _, hx⟩ := h
  obtain ⟨A, c, h2, h3, h4, h5⟩ := hx i.toNat _ (rrd_at h0 (by omega))
  exact ⟨A, c, (blk_cell hc _).trans h2, blk_frozen hc _, h3, h4, h5⟩
theorem RowsN.frz {w : World} {g n cap : Nat} {xs : List (List Int)} (h : RowsN w g n cap xs) (i : Int) : w.frozen? ⟨g, i.toNat, none⟩ = false := by
  obtain ⟨_, _, _, cur, hc, _⟩ := h
  exact blk_frozen hc _
theorem RowsN.len {w : World} {g n cap : Nat} {xs : List (List Int)} (h : RowsN w g n cap xs) : xs.length = n := h.1
theorem RowsN.lt {w : World} {g n cap : Nat} {xs : List (List Int)} (h : RowsN w g n cap xs) : g < w.heap.size := by
  obtain ⟨_, _, _, cur, hc, _⟩ := h
  exact blk_lt hc
theorem RowsN.blk {w : World} {g n cap : Nat} {xs : List (List Int)} (h : RowsN w g n cap xs) : ∃ cur : Array Value, w.heap[g]? = some (.cells cur 41 (0, 0)) := by
  obtain ⟨_, _, _, cur, hc, _⟩ := h
  exact ⟨cur, hc⟩
theorem RowsN.below {w w1 : World} {g n cap : Nat} {xs : List (List Int)} (h : RowsN w g n cap xs) (hb : Below w.heap.size w w1) : RowsN w1 g n cap xs := by
  obtain ⟨hl, hn, hm, cur, hc, hs, hx⟩ := h
  refine ⟨hl, hn, hm, cur, blk_below hc hb, hs, fun i x hi => ?_⟩
  obtain ⟨A, c, h2, h3, h4, h5⟩ := hx i x hi
  exact ⟨A, c, h2, h3, Kd.C_below h4 hb, h5.below hb⟩
theorem RowsN.drewN {w : World} {g n cap : Nat} {xs : List (List Int)} (h : RowsN w g n cap xs) (m : Nat) : RowsN (w.drewN m) g n cap xs := h.below (Drawn0.below (Drawn0.step (Drawn0.refl _) m))
/-- Some blocks that are none of bytes have turned (and others have come): rows of bytes are read as they were. -/
theorem Typ.keep {w w1 : World} {A : Option Addr} {x : List Int} (h : Typ w A x) (hk : ∀ (b : Nat) (cells : Array Value), w.heap[b]? = some (Obj.cells cells 5 (0, 0)) → w1.heap[b]? = w.heap[b]?) : Typ w1 A x := by
  intro ad ha hl
  obtain ⟨cells, hx⟩ := h ad ha hl
  exact ⟨cells, (hk _ _ hx).trans hx⟩
theorem C_typ {w w1 : World} {A : Option Addr} {x : List Int} (hr : Kd.C (Kd.int .u8) w A x.length x) (h : Typ w A x) (hk : ∀ (b : Nat) (cells : Array Value), w.heap[b]? = some (Obj.cells cells 5 (0, 0)) → w1.heap[b]? = w.heap[b]?) : Kd.C (Kd.int .u8) w1 A x.length x := by
  refine ⟨hr.1, hr.2.1, fun hn => ?_⟩
  obtain ⟨ad, ha, hx⟩ := hr.2.2 hn
  refine ⟨ad, ha, fun j p hj => ?_⟩
  obtain ⟨c, hc, hp, hcell⟩ := hx j p hj
  refine ⟨c, hc, hp, fun i u hu => ?_⟩
  obtain ⟨cells, hb⟩ := h ad ha hn
  have e := hk _ _ hb
  have h0 := hcell i u hu
  have hblk : ∀ m, (ad.add m).block = ad.block := fun m => by unfold Addr.add; split <;> rfl
  have : w1.cell? (ad.add (j * (Kd.int .u8).sz + i)) = w.cell? (ad.add (j * (Kd.int .u8).sz + i)) := by
    unfold World.cell?
    rw [hblk, e]
  exact this.trans h0
theorem keep_set {w : World} {g o t : Nat} {cur : Array Value} (v : Value) (hc : w.heap[g]? = some (.cells cur t (0, 0))) (ht : t ≠ 5) : ∀ (b : Nat) (cells : Array Value), w.heap[b]? = some (Obj.cells cells 5 (0, 0)) → (w.setCell ⟨g, o, none⟩ v).heap[b]? = w.heap[b]? := by
  intro b cells hb
  refine Below.heap_setCell w ⟨g, o, none⟩ v b ?_
  rintro rfl
  rw [hc] at hb
  injection hb with hb
  injection hb with h1 h2
  exact ht h2
theorem keep_grown {w w1 : World} {row : Option Nat} (hg : w.grownBy w1 row) (hr : ∀ b, row = some b → ∃ (cells : Array Value) (t : Nat), w.heap[b]? = some (Obj.cells cells t (0, 0)) ∧ t ≠ 5) : ∀ (b : Nat) (cells : Array Value), w.heap[b]? = some (Obj.cells cells 5 (0, 0)) → w1.heap[b]? = w.heap[b]? := by
  intro b cells hb
  refine hg.block b (blk_lt hb) ?_
  intro e
  obtain ⟨c2, t, h2, ht⟩ := hr b e.symm
  rw [hb] at h2
  injection h2 with h2
  injection h2 with h3 h4
  exact ht h4.symm
theorem RowsN.set {w : World} {g n cap : Nat} {xs : List (List Int)} (h : RowsN w g n cap xs) (i : Int) (h0 : 0 ≤ i) (h1 : i < (n : Int)) (A : Option Addr) (c : Nat) (x : List Int)
    (hc : x.length ≤ c) (hr : Kd.C (Kd.int .u8) w A x.length x) (hf : Typ w A x) : RowsN (w.setCell ⟨g, i.toNat, none⟩ (.slice A x.length c)) g n cap (xs.set i.toNat x) := by
  obtain ⟨hl, hn, hm, cur, hcur, hs, hx⟩ := h
  have K := keep_set (o := i.toNat) (.slice A x.length c) hcur (by decide)
  refine ⟨by rw [List.length_set]; exact hl, hn, hm, cur.setIfInBounds i.toNat (.slice A x.length c), by simpa using blk_set hcur i.toNat _, by simpa using hs, fun j y hj => ?_⟩
  by_cases e : j = i.toNat
  · subst e
    have hy : y = x := by
      rw [List.getElem?_set_self (by omega)] at hj
      exact (Option.some.inj hj).symm
    subst hy
    exact ⟨A, c, by rw [Array.getElem?_setIfInBounds_self_of_lt (by omega)], hc, C_typ hr hf K, hf.keep K⟩
  · rw [List.getElem?_set_ne (by omega)] at hj
    obtain ⟨A', c', h2, h3, h4, h5⟩ := hx j y hj
    exact ⟨A', c', by rw [Array.getElem?_setIfInBounds_ne (by omega)]; exact h2, h3, C_typ h4 h5 K, h5.keep K⟩
theorem RowsN.grown {w w1 : World} {g n cap : Nat} {xs : List (List Int)} {row : Option Nat} (h : RowsN w g n cap xs) (hg : w.grownBy w1 row) (hr : ∀ b, row = some b → ∃ (cells : Array Value) (t : Nat), w.heap[b]? = some (Obj.cells cells t (0, 0)) ∧ t ≠ 5 ∧ t ≠ 41) : RowsN w1 g n cap xs := by
  obtain ⟨hl, hn, hm, cur, hc, hs, hx⟩ := h
  have K := keep_grown hg (fun b e => by obtain ⟨c, t, h1, h2, _⟩ := hr b e; exact ⟨c, t, h1, h2⟩)
  refine ⟨hl, hn, hm, cur, blk_grown hc hg (fun e => ?_), hs, fun i x hi => ?_⟩
  · obtain ⟨c2, t, h1, _, h3⟩ := hr g e.symm
    rw [hc] at h1
    injection h1 with h1
    injection h1 with h4 h5
    exact h3 h5.symm
  · obtain ⟨A, c, h2, h3, h4, h5⟩ := hx i x hi
    exact ⟨A, c, h2, h3, C_typ h4 h5 K, h5.keep K⟩

theorem below_go {B : Nat} {w0 w w1 : World} (h : Below B w0 w) (hB : B ≤ w.heap.size) (k : Below w.heap.size w w1) : Below B w0 w1 := h.trans (k.mono hB)
theorem below_setB {B : Nat} {w0 w : World} {g : Nat} (o : Nat) (v : Value) (h : Below B w0 w) (hg : B ≤ g) : Below B w0 (w.setCell ⟨g, o, none⟩ v) := h.setCell (p := ⟨g, o, none⟩) hg v
/-- A slice of bytes of the call's own, as it is read. -/
theorem own_read {w : World} {base : Nat} {ok : Nat → Prop} {v : Value} {xs : List Int} (h : Kd.R (Kd.int .u8) 5 w base ok v xs) :
    ∃ A c, v = .slice A xs.length c ∧ xs.length ≤ c ∧ Kd.C (Kd.int .u8) w A xs.length xs ∧ Typ w A xs := by
  obtain ⟨A, c, rfl, hc, hr⟩ := Kd.R_reads h
  refine ⟨A, c, rfl, hc, hr, ?_⟩
  rintro ad rfl _
  obtain ⟨inner, ho⟩ := Kd.R_own h
  exact own_typed ho ad.block (by simp [Value.ownBlock])

def solve_clear.l0 : Nat → List (List Int) → Int → Int → Int → Option (List (List Int))
  | 0, _, _, _, _ => none
  | k + 1, rows, at_, col, i => if i < (rows.length : Int) then (if i = at_ then solve_clear.l0 k rows at_ col (i + 1) else if col < ((rrd rows i).length : Int) then (if rd (rrd rows i) col = 0 then solve_clear.l0 k rows at_ col (i + 1) else
      (gf_AddScaled.f k (rrd rows i) (rd (rrd rows i) col) (rrd rows at_)).bind fun s => solve_clear.l0 k (rows.set i.toNat s) at_ col (i + 1)) else none) else some rows
def solve_clear.f (k : Nat) (rows : List (List Int)) (at_ col : Int) : Option (List (List Int)) :=
  if 0 ≤ at_ then (if at_ < (rows.length : Int) then (if 0 ≤ col then (if col < ((rrd rows at_).length : Int) then
    (gf_Inv.f k (rd (rrd rows at_) col)).bind fun t => (gf_Scale.f k t.1 (rrd rows at_)).bind fun s => solve_clear.l0 k (rows.set at_.toNat s) at_ col 0 else none) else none) else none) else none

theorem solve_clear.mono_l : ∀ k, (∀ y0 y1 y2 y3, LeO (solve_clear.l0 k y0 y1 y2 y3) (solve_clear.l0 (k + 1) y0 y1 y2 y3))
  | 0 => fun _ _ _ _ r h => by simp [solve_clear.l0] at h
  | k + 1 => by
    have ih := solve_clear.mono_l k
    intro y0 y1 y2 y3
    unfold solve_clear.l0
    exact LeO.ite (LeO.ite (ih _ _ _ _) (LeO.ite (LeO.ite (ih _ _ _ _) (LeO.bind (gf_AddScaled.mono _ _ _ _) (fun _ => ih _ _ _ _))) (LeO.refl _))) (LeO.refl _)
theorem solve_clear.mono (rows : List (List Int)) (a c : Int) (k : Nat) : LeO (solve_clear.f k rows a c) (solve_clear.f (k + 1) rows a c) :=
  LeO.ite (LeO.ite (LeO.ite (LeO.ite (LeO.bind (gf_Inv.mono _ _) (fun _ => LeO.bind (gf_Scale.mono _ _ _) (fun _ => solve_clear.mono_l _ _ _ _ _))) (LeO.refl _)) (LeO.refl _)) (LeO.refl _)) (LeO.refl _)
def ClearPost (B : Nat) (w0 w : World) (g n cap : Nat) (r : List (List Int)) (e : Ending) (w' : World) : Prop := e = .returned (.tuple #[]) ∧ RowsN w' g n cap r ∧ Below B w0 w' ∧ KeepBut w w' g none

set_option maxHeartbeats 3200000 in
set_option maxRecDepth 100000 in
theorem solve_clear.calls (k g n cap : Nat) (rows : List (List Int)) (at_ col : Int) (r : List (List Int)) (B : Nat) (w0 w : World) (hR : RowsN w g n cap rows) (hB : Below B w0 w) (hBg : B ≤ g) (h : solve_clear.f k rows at_ col = some r) :
    Calls Tryd.prog 62 #[.slice (some ⟨g, 0, none⟩) n cap, .int .i64 at_, .int .i64 col] w (ClearPost B w0 w g n cap r) := by
  have hln := hR.len
  unfold solve_clear.f at h
  by_cases h0 : 0 ≤ at_
  rotate_left
  · rw [if_neg h0] at h; cases h
  by_cases h1 : at_ < (rows.length : Int)
  rotate_left
  · rw [if_pos h0, if_neg h1] at h; cases h
  by_cases h2 : 0 ≤ col
  rotate_left
  · rw [if_pos h0, if_pos h1, if_neg h2] at h; cases h
  by_cases h3 : col < ((rrd rows at_).length : Int)
  rotate_left
  · rw [if_pos h0, if_pos h1, if_pos h2, if_neg h3] at h; cases h
  rw [if_pos h0, if_pos h1, if_pos h2, if_pos h3] at h
  obtain ⟨⟨t1, t2⟩, hA, h⟩ := Option.bind_eq_some_iff.mp h
  obtain ⟨s, hs, h⟩ := Option.bind_eq_some_iff.mp h
  have A1 := Aside0.mk hA
  have A2 := Aside0.mk hs
  have A3 := Aside0.mk h
  have hn1 : at_ < (n : Int) := by omega
  obtain ⟨A, c, hcell, hfz, hcl, hcr, hoff⟩ := hR.get at_ h0 hn1
  have HR := Aside0.mk hR
  have HB := Aside0.mk hB
  have HBg := Aside0.mk hBg
  have HL := Aside0.mk hln
  have HC := Aside0.mk hcl
  have HCR := Aside0.mk hcr
  obtain ⟨ad, rfl, hx⟩ := C_at_ hcr col h2 h3
  clear hA hs h hB hBg hln hcl hcr hoff h1 hR
  go_enter Tryd.func62, Tryd.ntmps62
  go_wp2_with (first
    | (go_at_call 38; (with_reducible refine (gf_Inv.calls k (rd (rrd rows at_) col) t1 t2 _ A1.out).mono ?_); rintro e w' ⟨rfl, ⟨nd, rfl⟩⟩)
    | (go_at_call 74; (with_reducible refine (gf_Scale.calls k t1 (some ad) c (rrd rows at_) s _ (Kd.C_drewN HCR.out _) HC.out A2.out).mono ?_); rintro e w1 ⟨v, rfl, ho, hb⟩; have HR1 := Aside0.mk ((HR.out.drewN nd).below hb); have HB1 := Aside0.mk (below_step (pw_below_drewN (Below.refl _ _) nd) hb); obtain ⟨As, c2, rfl, hc2, hr2, hf2⟩ := own_read ho; have HC2 := Aside0.mk hc2; have HR2 := Aside0.mk hr2; have HF2 := Aside0.mk hf2; obtain ⟨_, _, hcell1, hfz1, _⟩ := HR1.out.get at_ h0 hn1; clear ho hb hc2 hr2 hf2))
  have hset := HR1.out.set at_ h0 hn1 As c2 s HC2.out HR2.out HF2.out
  have HS := Aside0.mk hset
  have HB2 := Aside0.mk (below_setB at_.toNat (.slice As s.length c2) (below_go HB.out (Nat.le_trans HBg.out (Nat.le_of_lt HR.out.lt)) HB1.out) HBg.out)
  have HK2 := Aside0.mk ((KeepBut.of_below HB1.out g none).set_ at_.toNat (.slice As s.length c2))
  clear hset
  go_loopg [31] k (fun kq v31 w' => ∃ (i : Int) (rs : List (List Int)), v31 = .int .i64 i ∧ Aside0 (0 ≤ i) ∧ Aside0 (solve_clear.l0 kq rs at_ col i = some r) ∧ Aside0 (kq ≤ k) ∧ Aside0 (RowsN w' g n cap rs) ∧ Aside0 (Below B w0 w') ∧ Aside0 (KeepBut w w' g none))
  case atStart => exact ⟨0, _, rfl, ⟨by omega⟩, A3, ⟨Nat.le_refl _⟩, HS, HB2, HK2⟩
  case round =>
    clear HR HB HR1 HB1 HC2 HR2 HF2 HS HB2 HK2 HC HCR hcell hfz hcell1 hfz1 hx A1 A2 A3 h3 h
    obtain ⟨i, rs, rfl, H0, HA, HK, HR, HB, HKP⟩ := hrel
    cases gk with
    | zero => exact absurd HA.out (by simp [solve_clear.l0])
    | succ k1 =>
      have H := HA.out
      clear HA
      rw [solve_clear.l0] at H
      have hln := HR.out.len
      have hi0 := H0.out
      by_cases hlt : i < (rs.length : Int)
      · rw [if_pos hlt] at H
        have hin : i < (n : Int) := by omega
        have hcm : n ≤ 9223372036854775807 := by obtain ⟨_, hq, hm, _⟩ := HR.out; unfold maxLen at hm; omega
        have hw1 : wrap64 (i + 1) = i + 1 := by unfold wrap64; omega
        by_cases he : i = at_
        · rw [if_pos he] at H
          have H' := Aside0.mk H
          clear H
          have c0 : (i == at_) = true := beq_iff_eq.mpr he
          have c1 : (i != at_) = false := bne_eq_false_iff_eq.mpr he
          clear hln hlt hcm he
          go_wp2
          go_roundg k1
          case measure => have := HK.out; omega
          case rel => exact ⟨i + 1, rs, by first | rfl | simp [hw1], ⟨by omega⟩, H', ⟨by have := HK.out; omega⟩, HR, HB, HKP⟩
        · rw [if_neg he] at H
          by_cases hc3 : col < ((rrd rs i).length : Int)
          rotate_left
          · rw [if_neg hc3] at H; cases H
          rw [if_pos hc3] at H
          have c0 : (i == at_) = false := beq_eq_false_iff_ne.mpr he
          have c1 : (i != at_) = true := bne_iff_ne.mpr he
          obtain ⟨Ai, ci, hcelli, hfzi, hcli, hcri, hoffi⟩ := HR.out.get i hi0 hin
          obtain ⟨adi, rfl, hxi⟩ := C_at_ hcri col h2 hc3
          have HCI := Aside0.mk hcli
          have HCRI := Aside0.mk hcri
          clear hcli hcri hoffi
          by_cases hz : rd (rrd rs i) col = 0
          · rw [if_pos hz] at H
            have H' := Aside0.mk H
            clear H
            have d0 : (rd (rrd rs i) col == 0) = true := beq_iff_eq.mpr hz
            have d1 : (rd (rrd rs i) col != 0) = false := bne_eq_false_iff_eq.mpr hz
            clear hln hlt hcm he hz
            go_wp2
            go_roundg k1
            case measure => have := HK.out; omega
            case rel => exact ⟨i + 1, rs, by first | rfl | simp [hw1], ⟨by omega⟩, H', ⟨by have := HK.out; omega⟩, HR, HB, HKP⟩
          · rw [if_neg hz] at H
            obtain ⟨s2, hs2, H⟩ := Option.bind_eq_some_iff.mp H
            have A4 := Aside0.mk hs2
            have H' := Aside0.mk H
            clear H hs2
            have d0 : (rd (rrd rs i) col == 0) = false := beq_eq_false_iff_ne.mpr hz
            have d1 : (rd (rrd rs i) col != 0) = true := bne_iff_ne.mpr hz
            obtain ⟨Aa, ca, hcella, hfza, hcla, hcra, _⟩ := HR.out.get at_ h0 hn1
            have HCA := Aside0.mk hcla
            have HCRA := Aside0.mk hcra
            have HLN := Aside0.mk hln
            clear hcla hcra hln hlt hcm he hz
            go_wp2
            refine start_ (n := 20) (S := fun w' => w'.cell? ⟨g, i.toNat, none⟩ = some (.slice (some adi) (rrd rs i).length ci) ∧ w'.cell? (adi.add col.toNat) = some (.int .u8 (rd (rrd rs i) col)) ∧ w'.cell? ⟨g, at_.toNat, none⟩ = some (.slice Aa (rrd rs at_).length ca)) (ds := [19]) #[false, false, false, false, false, false, false, false, false, false, false, false, false, false, false, false, false, false, false, false] (by kernel_rfl) rfl rfl ⟨hcelli, hxi, hcella⟩ (fun hHeld => ?_)
            refine pure_ (i := 0) (N := some 47) (v := ?_) (a' := ?_) #[true, false, false, false, false, false, false, false, false, false, false, false, false, false, false, false, false, false, false, false] rfl rfl (by kernel_rfl) (fun _ _ _ h => h) (Or.inl ⟨by rfl, ?_⟩) ?_ ?_
            rotate_left
            · intro w'
              go_simp
              with_reducible rfl
            rotate_left
            · simp only [Act.put, List.setIfInBounds_toArray, List.set_cons_zero, List.set_cons_succ, i64_w, i32_w]
              rfl
            refine pure_ (i := 1) (N := some 48) (v := ?_) (a' := ?_) #[true, true, false, false, false, false, false, false, false, false, false, false, false, false, false, false, false, false, false, false] rfl rfl (by kernel_rfl) (fun _ _ _ h => h) (Or.inl ⟨by rfl, ?_⟩) ?_ ?_
            rotate_left
            · intro w'
              go_simp
              with_reducible rfl
            rotate_left
            · simp only [Act.put, List.setIfInBounds_toArray, List.set_cons_zero, List.set_cons_succ, i64_w, i32_w]
              rfl
            refine pure_ (i := 2) (N := some 49) (v := ?_) (a' := ?_) #[true, true, true, false, false, false, false, false, false, false, false, false, false, false, false, false, false, false, false, false] rfl rfl (by kernel_rfl) (fun _ _ _ h => h) (Or.inl ⟨by rfl, ?_⟩) ?_ ?_
            rotate_left
            · intro w'
              go_simp
              with_reducible rfl
            rotate_left
            · simp only [Act.put, List.setIfInBounds_toArray, List.set_cons_zero, List.set_cons_succ, i64_w, i32_w]
              rfl
            refine pure_ (i := 3) (N := some 50) (v := ?_) (a' := ?_) #[true, true, true, true, false, false, false, false, false, false, false, false, false, false, false, false, false, false, false, false] rfl rfl (by kernel_rfl) (fun _ _ _ h => h) (Or.inl ⟨by rfl, ?_⟩) ?_ ?_
            rotate_left
            · intro w'
              go_simp
              with_reducible rfl
            rotate_left
            · simp only [Act.put, List.setIfInBounds_toArray, List.set_cons_zero, List.set_cons_succ, i64_w, i32_w]
              rfl
            refine pure_ (i := 4) (N := some 51) (v := ?_) (a' := ?_) #[true, true, true, true, true, false, false, false, false, false, false, false, false, false, false, false, false, false, false, false] rfl rfl (by kernel_rfl) (fun _ _ _ h => h) (Or.inl ⟨by rfl, ?_⟩) ?_ ?_
            rotate_left
            · intro w'
              go_simp
              with_reducible rfl
            rotate_left
            · simp only [Act.put, List.setIfInBounds_toArray, List.set_cons_zero, List.set_cons_succ, i64_w, i32_w]
              rfl
            refine take_ (i := 5) (N := some 52) (v := ?_) (a' := ?_) #[true, true, true, true, true, true, false, false, false, false, false, false, false, false, false, false, false, false, false, false] rfl rfl (by kernel_rfl) (fun _ _ _ h => h) (Or.inl ⟨by rfl, ?_⟩) hHeld ?_ ?_
            rotate_left
            · rintro w' ⟨s0, s1, s2⟩
              go_simp
              with_reducible rfl
            rotate_left
            · simp only [Act.put, List.setIfInBounds_toArray, List.set_cons_zero, List.set_cons_succ, i64_w, i32_w]
              rfl
            refine pure_ (i := 6) (N := some 53) (v := ?_) (a' := ?_) #[true, true, true, true, true, true, true, false, false, false, false, false, false, false, false, false, false, false, false, false] rfl rfl (by kernel_rfl) (fun _ _ _ h => h) (Or.inl ⟨by rfl, ?_⟩) ?_ ?_
            rotate_left
            · intro w'
              go_simp
              with_reducible rfl
            rotate_left
            · simp only [Act.put, List.setIfInBounds_toArray, List.set_cons_zero, List.set_cons_succ, i64_w, i32_w]
              rfl
            refine pure_ (i := 7) (N := some 54) (v := ?_) (a' := ?_) #[true, true, true, true, true, true, true, true, false, false, false, false, false, false, false, false, false, false, false, false] rfl rfl (by kernel_rfl) (fun _ _ _ h => h) (Or.inl ⟨by rfl, ?_⟩) ?_ ?_
            rotate_left
            · intro w'
              go_simp
              with_reducible rfl
            rotate_left
            · simp only [Act.put, List.setIfInBounds_toArray, List.set_cons_zero, List.set_cons_succ, i64_w, i32_w]
              rfl
            refine pure_ (i := 8) (N := some 55) (v := ?_) (a' := ?_) #[true, true, true, true, true, true, true, true, true, false, false, false, false, false, false, false, false, false, false, false] rfl rfl (by kernel_rfl) (fun _ _ _ h => h) (Or.inl ⟨by rfl, ?_⟩) ?_ ?_
            rotate_left
            · intro w'
              go_simp
              with_reducible rfl
            rotate_left
            · simp only [Act.put, List.setIfInBounds_toArray, List.set_cons_zero, List.set_cons_succ, i64_w, i32_w]
              rfl
            refine take_ (i := 9) (N := some 56) (v := ?_) (a' := ?_) #[true, true, true, true, true, true, true, true, true, true, false, false, false, false, false, false, false, false, false, false] rfl rfl (by kernel_rfl) (fun _ _ _ h => h) (Or.inl ⟨by rfl, ?_⟩) hHeld ?_ ?_
            rotate_left
            · rintro w' ⟨s0, s1, s2⟩
              go_simp
              with_reducible rfl
            rotate_left
            · simp only [Act.put, List.setIfInBounds_toArray, List.set_cons_zero, List.set_cons_succ, i64_w, i32_w]
              rfl
            refine pure_ (i := 10) (N := some 57) (v := ?_) (a' := ?_) #[true, true, true, true, true, true, true, true, true, true, true, false, false, false, false, false, false, false, false, false] rfl rfl (by kernel_rfl) (fun _ _ _ h => h) (Or.inl ⟨by rfl, ?_⟩) ?_ ?_
            rotate_left
            · intro w'
              go_simp
              with_reducible rfl
            rotate_left
            · simp only [Act.put, List.setIfInBounds_toArray, List.set_cons_zero, List.set_cons_succ, i64_w, i32_w]
              rfl
            refine pure_ (i := 11) (N := some 58) (v := ?_) (a' := ?_) #[true, true, true, true, true, true, true, true, true, true, true, true, false, false, false, false, false, false, false, false] rfl rfl (by kernel_rfl) (fun _ _ _ h => h) (Or.inl ⟨by rfl, ?_⟩) ?_ ?_
            rotate_left
            · intro w'
              go_simp
              with_reducible rfl
            rotate_left
            · simp only [Act.put, List.setIfInBounds_toArray, List.set_cons_zero, List.set_cons_succ, i64_w, i32_w]
              rfl
            refine take_ (i := 12) (N := some 59) (v := ?_) (a' := ?_) #[true, true, true, true, true, true, true, true, true, true, true, true, true, false, false, false, false, false, false, false] rfl rfl (by kernel_rfl) (fun _ _ _ h => h) (Or.inl ⟨by rfl, ?_⟩) hHeld ?_ ?_
            rotate_left
            · rintro w' ⟨s0, s1, s2⟩
              go_simp
              with_reducible rfl
            rotate_left
            · simp only [Act.put, List.setIfInBounds_toArray, List.set_cons_zero, List.set_cons_succ, i64_w, i32_w]
              rfl
            refine pure_ (i := 13) (N := some 60) (v := ?_) (a' := ?_) #[true, true, true, true, true, true, true, true, true, true, true, true, true, true, false, false, false, false, false, false] rfl rfl (by kernel_rfl) (fun _ _ _ h => h) (Or.inl ⟨by rfl, ?_⟩) ?_ ?_
            rotate_left
            · intro w'
              go_simp
              with_reducible rfl
            rotate_left
            · simp only [Act.put, List.setIfInBounds_toArray, List.set_cons_zero, List.set_cons_succ, i64_w, i32_w]
              rfl
            refine pure_ (i := 14) (N := some 61) (v := ?_) (a' := ?_) #[true, true, true, true, true, true, true, true, true, true, true, true, true, true, true, false, false, false, false, false] rfl rfl (by kernel_rfl) (fun _ _ _ h => h) (Or.inl ⟨by rfl, ?_⟩) ?_ ?_
            rotate_left
            · intro w'
              go_simp
              with_reducible rfl
            rotate_left
            · simp only [Act.put, List.setIfInBounds_toArray, List.set_cons_zero, List.set_cons_succ, i64_w, i32_w]
              rfl
            refine pure_ (i := 15) (N := some 62) (v := ?_) (a' := ?_) #[true, true, true, true, true, true, true, true, true, true, true, true, true, true, true, true, false, false, false, false] rfl rfl (by kernel_rfl) (fun _ _ _ h => h) (Or.inl ⟨by rfl, ?_⟩) ?_ ?_
            rotate_left
            · intro w'
              go_simp
              with_reducible rfl
            rotate_left
            · simp only [Act.put, List.setIfInBounds_toArray, List.set_cons_zero, List.set_cons_succ, i64_w, i32_w]
              rfl
            refine take_ (i := 16) (N := some 63) (v := ?_) (a' := ?_) #[true, true, true, true, true, true, true, true, true, true, true, true, true, true, true, true, true, false, false, false] rfl rfl (by kernel_rfl) (fun _ _ _ h => h) (Or.inl ⟨by rfl, ?_⟩) hHeld ?_ ?_
            rotate_left
            · rintro w' ⟨s0, s1, s2⟩
              go_simp
              with_reducible rfl
            rotate_left
            · simp only [Act.put, List.setIfInBounds_toArray, List.set_cons_zero, List.set_cons_succ, i64_w, i32_w]
              rfl
            refine one_ (i := 17) (N := some 64) #[true, true, true, true, true, true, true, true, true, true, true, true, true, true, true, true, true, true, false, false] rfl rfl (by kernel_rfl) (by decide) (fun K hK => ?_)
            refine goes_ Tryd.func75 (by kernel_rfl) rfl #[.slice (some adi) (rrd rs i).length ci, .int .u8 (rd (rrd rs i) col), .slice Aa (rrd rs at_).length ca] (by rfl) rfl rfl (by (try simp only [List.map_toArray, List.map_cons, List.map_nil]); first | done | rfl) ?_
            (with_reducible refine (gf_AddScaled.calls k1 (some adi) ci (rrd rs i) (rd (rrd rs i) col) Aa ca (rrd rs at_) s2 _ (Kd.C_drew HCRI.out) HCI.out (Kd.C_drew HCRA.out) HCA.out A4.out).mono ?_)
            rintro e w1 ⟨v, rfl, ho, hb⟩
            have HR1 := Aside0.mk (HR.out.below (w1 := w1) (below_step (below_drew (Below.refl _ _)) hb))
            have HB1 := Aside0.mk (below_step (below_drew (Below.refl _ _)) hb)
            obtain ⟨As, c2, rfl, hc2, hr2, hf2⟩ := own_read ho
            have HC2 := Aside0.mk hc2
            have HR2 := Aside0.mk hr2
            have HF2 := Aside0.mk hf2
            have hcell1 : w1.cell? ⟨g, i.toNat, none⟩ = some (.slice (some adi) (rrd rs i).length ci) := pw_cell_below hb hcelli
            have hcell2 : w1.cell? (adi.add col.toNat) = some (.int .u8 (rd (rrd rs i) col)) := pw_cell_below hb hxi
            have hcell3 : w1.cell? ⟨g, at_.toNat, none⟩ = some (.slice Aa (rrd rs at_).length ca) := pw_cell_below hb hcella
            have hfz1 := HR1.out.frz i
            clear ho hc2 hr2 hf2 hb
            refine ⟨_, rfl, ?_⟩
            refine hK.out _ _ ⟨hcell1, hcell2, hcell3⟩ (fun hHeld => ?_)
            clear hK K
            refine norm_ (a' := ?_) ?_ ?_
            rotate_left
            · show Act.put _ (some 64) _ = _
              simp only [Act.put, List.setIfInBounds_toArray, List.set_cons_zero, List.set_cons_succ, i64_w, i32_w]
              rfl
            refine pure_ (i := 18) (N := some 65) (v := ?_) (a' := ?_) #[true, true, true, true, true, true, true, true, true, true, true, true, true, true, true, true, true, true, true, false] rfl rfl (by kernel_rfl) (fun _ _ _ h => h) (Or.inl ⟨by rfl, ?_⟩) ?_ ?_
            rotate_left
            · intro w'
              go_simp
              with_reducible rfl
            rotate_left
            · simp only [Act.put, List.setIfInBounds_toArray, List.set_cons_zero, List.set_cons_succ, i64_w, i32_w]
              rfl
            refine last_ (i := 19) (N := none) #[true, true, true, true, true, true, true, true, true, true, true, true, true, true, true, true, true, true, true, true] rfl rfl (by kernel_rfl) (by decide) (fun K hK => ?_)
            refine skip_ (w1 := ?_) (by rfl) rfl ?_ ?_
            rotate_left
            · go_simp
              rfl
            refine hK.out _ _ ?_
            clear hK K
            refine done_ (by kernel_rfl) ?_
            have hset := HR1.out.set i hi0 hin As c2 s2 HC2.out HR2.out HF2.out
            have HS := Aside0.mk hset
            have HB2 := Aside0.mk (below_setB i.toNat (.slice As s2.length c2) (below_go HB.out (Nat.le_trans HBg.out (Nat.le_of_lt HR.out.lt)) HB1.out) HBg.out)
            have HK2 := Aside0.mk ((HKP.out.trans (KeepBut.of_below HB1.out g none) (.inl rfl)).set_ i.toNat (.slice As s2.length c2))
            clear hset
            go_wp2
            go_roundg k1
            case measure => have := HK.out; omega
            case rel => exact ⟨i + 1, rs.set i.toNat s2, by first | rfl | simp [hw1], ⟨by omega⟩, H', ⟨by have := HK.out; omega⟩, HS, HB2, HK2⟩
      · rw [if_neg hlt] at H
        obtain rfl := Option.some.inj H
        clear H
        have hlt' : ¬ i < (n : Int) := by omega
        clear hlt hln
        go_wp2
        go_end0
        exact ⟨rfl, HR.out, HB.out, HKP.out⟩

end Go.Proofs.YtndnedjclbigiaaDoor
