/- The package-level sentinel errors: as values, where they stand, that they stay, and how two are held against each other. -/
import Derived.Test.YtnnondbimdmcaaaDoorProg
import Derived.Test.YtnnondbimdmcaaaDoorWWords
import Derived.Test.YtnnondbimdmcaaaDoorWLast
import Derived.LaidEql
import Derived.Laws.Runes
namespace Go.Proofs.YtnnondbimdmcaaaDoor
open Go.RowKit Go.Proofs.YtnnondbimdmcaaaDoorW.PrintWords

/-- Where the sentinel errors' texts lie: the address that error number c (as the document numbers them) points to. -/
class Errs where
  ea : Int → Addr

def errW [Errs] : Option Int → Value
  | none => .nilIface
  | some c => .iface 111 (.pointer (some (Errs.ea c)))
theorem errW_none [Errs] : errW none = .nilIface := rfl
theorem errW_some [Errs] (c : Int) : errW (some c) = .iface 111 (.pointer (some (Errs.ea c))) := rfl

@[go_sem] theorem eqGuard_errW_iface [Errs] (op : BinOp) (ty : TypeId) (x y : Operand) (t : Option Int) (d : TypeId) (z : Value) : eqGuard op ty x y (errW t) (.iface d z) = pure () := by cases t <;> cases op <;> rfl
@[go_sem] theorem eqGuard_errW_nil [Errs] (op : BinOp) (ty : TypeId) (x : Operand) (c : Value) (t : Option Int) : eqGuard op ty x (.const c) (errW t) .nilIface = pure () := by cases t <;> cases op <;> cases x <;> rfl

/-- The variable in which error number c stands. -/
def gid : Int → Nat
  | 1 => 0
  | 2 => 3
  | 4 => 1
  | 12 => 2
  | _ => 0

def errIn (L : List Int) (c : Int) : Bool := decide (c ∈ L)
theorem errIn_mem {L : List Int} {c : Int} (h : errIn L c = true) : c ∈ L := of_decide_eq_true h

/-- The sentinels of the list stand in their variables, each at a place of its own. -/
structure Sent [Errs] (L : List Int) (w : World) : Prop where
  cell_ : ∀ c, c ∈ L → w.cell? ⟨gid c, 0, none⟩ = some (errW (some c))
  block_ : ∀ c, c ∈ L → ∃ cs t, w.heap[(Errs.ea c).block]? = some (.cells cs t (0, 0))
  inj_ : ∀ c d, c ∈ L → d ∈ L → Errs.ea c = Errs.ea d → c = d

theorem Sent.sub [Errs] {L M : List Int} {w : World} (hs : ∀ c, c ∈ M → c ∈ L) (h : Sent L w) : Sent M w :=
  ⟨fun c hc => h.cell_ c (hs c hc), fun c hc => h.block_ c (hs c hc), fun c d hc hd => h.inj_ c d (hs c hc) (hs d hd)⟩
theorem Sent.below [Errs] {L : List Int} {w W : World} (h : Sent L w) (hb : Below w.heap.size w W) : Sent L W :=
  ⟨fun c hc => pw_cell_below hb (h.cell_ c hc),
   fun c hc => by
    obtain ⟨cs, t, he⟩ := h.block_ c hc
    exact ⟨cs, t, (hb.block _ (Array.getElem?_eq_some_iff.1 he).1).trans he⟩, h.inj_⟩
theorem Sent.drewN [Errs] {L : List Int} {w : World} (h : Sent L w) (n : Nat) : Sent L (w.drewN n) := h.below (Drawn0.below (Drawn0.step (Drawn0.refl _) n))
theorem Sent.drew [Errs] {L : List Int} {w : World} (h : Sent L w) : Sent L w.drew := h.below (below_drew (Below.refl _ _))

theorem Sent.cell0 [Errs] {L : List Int} {w : World} (h : Sent L w) (c : Int) (g : Nat) (hg : gid c = g) (hc : c ∈ L) : w.cell? ⟨g, 0, none⟩ = some (errW (some c)) := by
  subst hg; exact h.cell_ c hc
theorem Sent.cell [Errs] {L : List Int} {w : World} (h : Sent L w) (c : Int) (g : Nat) (hg : gid c = g) (hc : c ∈ L) : ∀ W, Aside0 (Below w.heap.size w W) → W.cell? ⟨g, 0, none⟩ = some (errW (some c)) :=
  fun _ hb => (h.below hb.out).cell0 c g hg hc

theorem errComp : (Tryd.prog.info? 111).map (fun i => i.comparable) = some true := by kernel_rfl
theorem errSize : (Tryd.prog.info? 127).map (fun i => i.size) = some 1 := by kernel_rfl

theorem run_neq_iface_ptr_same {P : Program} (w : World) {ti tp te : TypeId} {ms : Array (String × TypeId)} {i j : TypeInfo} (a : Addr)
    (hi : P.underlying ti = some (.interface ms)) (hp : P.underlying tp = some (.pointer te)) (hinfo : P.info? tp = some i) (hcomp : i.comparable = true) (hte : P.info? te = some j) :
    (binOp .neq ti (.iface tp (.pointer (some a))) (.iface tp (.pointer (some a)))).run P w = .ok (.bool false) w := by
  simp only [binOp]
  simp [Op.equal, Op.maxDepth, run_equalIn_iface_ptr_same w 9998 a hi hp hinfo hcomp hte]
theorem run_neq_iface_ptr_other {P : Program} (w : World) {ti tp te : TypeId} {ms : Array (String × TypeId)} {i j : TypeInfo} {a b : Addr} {ca cb : Array Value} {ta tb : TypeId}
    (hi : P.underlying ti = some (.interface ms)) (hp : P.underlying tp = some (.pointer te)) (hinfo : P.info? tp = some i) (hcomp : i.comparable = true) (hte : P.info? te = some j) (hsz : j.size ≠ 0)
    (hne : a ≠ b) (ha : w.heap[a.block]? = some (.cells ca ta (0, 0))) (hb : w.heap[b.block]? = some (.cells cb tb (0, 0))) :
    (binOp .neq ti (.iface tp (.pointer (some a))) (.iface tp (.pointer (some b)))).run P w = .ok (.bool true) w := by
  simp only [binOp]
  simp [Op.equal, Op.maxDepth, run_equalIn_iface_ptr_other w 9998 hi hp hinfo hcomp hte hsz hne ha hb]

theorem Sent.nil_eql (v : Value) (W : World) : (binOp .eql 27 .nilIface (.iface 111 v)).run Tryd.prog W = .ok (.bool false) W := run_eql_iface_nil_left W _ v Tryd.underlying27
theorem Sent.nil_neq (v : Value) (W : World) : (binOp .neq 27 .nilIface (.iface 111 v)).run Tryd.prog W = .ok (.bool true) W := by
  have h : ∀ d : Nat, (Op.equalIn (d + 1) 27 .nilIface (.iface 111 v)).run Tryd.prog W = .ok false W := fun d => by simp [Op.equalIn, run_underlying Tryd.underlying27]
  simp only [binOp]
  simp [Op.equal, Op.maxDepth, h 9999]
theorem Sent.eql_nil (v : Value) (W : World) : (binOp .eql 27 (.iface 111 v) .nilIface).run Tryd.prog W = .ok (.bool false) W := by
  have h : ∀ d : Nat, (Op.equalIn (d + 1) 27 (.iface 111 v) .nilIface).run Tryd.prog W = .ok false W := fun d => by simp [Op.equalIn, run_underlying Tryd.underlying27]
  simp only [binOp]
  simp [Op.equal, Op.maxDepth, h 9999]
theorem Sent.neq_nil (v : Value) (W : World) : (binOp .neq 27 (.iface 111 v) .nilIface).run Tryd.prog W = .ok (.bool true) W := by
  have h : ∀ d : Nat, (Op.equalIn (d + 1) 27 (.iface 111 v) .nilIface).run Tryd.prog W = .ok false W := fun d => by simp [Op.equalIn, run_underlying Tryd.underlying27]
  simp only [binOp]
  simp [Op.equal, Op.maxDepth, h 9999]

/-! Errors as Bools: is it nil; is it this sentinel; is it nil or one of the list. -/
def isNil (t : Option Int) : Bool := t.isNone
def errEq (t : Option Int) (g : Int) : Bool := t == some g
def errOk (L : List Int) (t : Option Int) : Bool := match t with
  | none => true
  | some q => decide (q ∈ L)
theorem errW_eql_nil [Errs] (t : Option Int) (W : World) : (binOp .eql 27 (errW t) .nilIface).run Tryd.prog W = .ok (.bool (isNil t)) W := by
  cases t with
  | none =>
    have h : ∀ d : Nat, (Op.equalIn (d + 1) 27 .nilIface .nilIface).run Tryd.prog W = .ok true W := fun d => by simp [Op.equalIn, run_underlying Tryd.underlying27]
    simp only [errW_none, binOp]
    simp [Op.equal, Op.maxDepth, h 9999, isNil]
  | some q => exact Sent.eql_nil _ W
theorem errW_neq_nil [Errs] (t : Option Int) (W : World) : (binOp .neq 27 (errW t) .nilIface).run Tryd.prog W = .ok (.bool (!isNil t)) W := by
  cases t with
  | none =>
    have h : ∀ d : Nat, (Op.equalIn (d + 1) 27 .nilIface .nilIface).run Tryd.prog W = .ok true W := fun d => by simp [Op.equalIn, run_underlying Tryd.underlying27]
    simp only [errW_none, binOp]
    simp [Op.equal, Op.maxDepth, h 9999, isNil]
  | some q => exact Sent.neq_nil _ W

section
variable [Errs] {L : List Int} {w : World}
theorem Sent.eql_same (q g : Int) (e : q = g) (W : World) :
    (binOp .eql 27 (.iface 111 (.pointer (some (Errs.ea q)))) (.iface 111 (.pointer (some (Errs.ea g))))).run Tryd.prog W = .ok (.bool true) W := by
  obtain ⟨i, hi, hc⟩ := Option.map_eq_some_iff.1 errComp
  obtain ⟨j, hj, hz⟩ := Option.map_eq_some_iff.1 errSize
  subst e
  exact run_eql_iface_ptr_same W _ Tryd.underlying27 Tryd.underlying111 hi hc hj
theorem Sent.neq_same (q g : Int) (e : q = g) (W : World) :
    (binOp .neq 27 (.iface 111 (.pointer (some (Errs.ea q)))) (.iface 111 (.pointer (some (Errs.ea g))))).run Tryd.prog W = .ok (.bool false) W := by
  obtain ⟨i, hi, hc⟩ := Option.map_eq_some_iff.1 errComp
  obtain ⟨j, hj, hz⟩ := Option.map_eq_some_iff.1 errSize
  subst e
  exact run_neq_iface_ptr_same W _ Tryd.underlying27 Tryd.underlying111 hi hc hj
theorem Sent.eql_other (h : Sent L w) (q g : Int) (hq : q ∈ L) (hg : g ∈ L) (e : ¬ q = g) (W : World) (hb : Below w.heap.size w W) :
    (binOp .eql 27 (.iface 111 (.pointer (some (Errs.ea q)))) (.iface 111 (.pointer (some (Errs.ea g))))).run Tryd.prog W = .ok (.bool false) W := by
  obtain ⟨i, hi, hc⟩ := Option.map_eq_some_iff.1 errComp
  obtain ⟨j, hj, hz⟩ := Option.map_eq_some_iff.1 errSize
  obtain ⟨ca, ta, ha⟩ := (h.below hb).block_ q hq
  obtain ⟨cb, tb, hB⟩ := (h.below hb).block_ g hg
  exact run_eql_iface_ptr_other W Tryd.underlying27 Tryd.underlying111 hi hc hj (by omega) (fun x => e (h.inj_ q g hq hg x)) ha hB
theorem Sent.neq_other (h : Sent L w) (q g : Int) (hq : q ∈ L) (hg : g ∈ L) (e : ¬ q = g) (W : World) (hb : Below w.heap.size w W) :
    (binOp .neq 27 (.iface 111 (.pointer (some (Errs.ea q)))) (.iface 111 (.pointer (some (Errs.ea g))))).run Tryd.prog W = .ok (.bool true) W := by
  obtain ⟨i, hi, hc⟩ := Option.map_eq_some_iff.1 errComp
  obtain ⟨j, hj, hz⟩ := Option.map_eq_some_iff.1 errSize
  obtain ⟨ca, ta, ha⟩ := (h.below hb).block_ q hq
  obtain ⟨cb, tb, hB⟩ := (h.below hb).block_ g hg
  exact run_neq_iface_ptr_other W Tryd.underlying27 Tryd.underlying111 hi hc hj (by omega) (fun x => e (h.inj_ q g hq hg x)) ha hB
theorem Sent.eqlB (h : Sent L w) (t : Option Int) (g : Int) (ht : errOk L t = true) (hg : g ∈ L) (W : World) (hb : Below w.heap.size w W) :
    (binOp .eql 27 (errW t) (.iface 111 (.pointer (some (Errs.ea g))))).run Tryd.prog W = .ok (.bool (errEq t g)) W := by
  cases t with
  | none => exact Sent.nil_eql _ W
  | some q =>
    by_cases e : q = g
    · have e2 : errEq (some q) g = true := by subst e; simp [errEq]
      rw [e2]; exact Sent.eql_same q g e W
    · have e2 : errEq (some q) g = false := by simp [errEq, e]
      rw [e2]; exact h.eql_other q g (of_decide_eq_true ht) hg e W hb
theorem Sent.neqB (h : Sent L w) (t : Option Int) (g : Int) (ht : errOk L t = true) (hg : g ∈ L) (W : World) (hb : Below w.heap.size w W) :
    (binOp .neq 27 (errW t) (.iface 111 (.pointer (some (Errs.ea g))))).run Tryd.prog W = .ok (.bool (!errEq t g)) W := by
  cases t with
  | none => exact Sent.nil_neq _ W
  | some q =>
    by_cases e : q = g
    · have e2 : errEq (some q) g = true := by subst e; simp [errEq]
      rw [e2]; exact Sent.neq_same q g e W
    · have e2 : errEq (some q) g = false := by simp [errEq, e]
      rw [e2]; exact h.neq_other q g (of_decide_eq_true ht) hg e W hb
end
end Go.Proofs.YtnnondbimdmcaaaDoor
