/- What the package-level variables hold, as a premise that lasts while memory grows: the tables of strconv and strings, and the two maps of package show. -/
-- Words of the kit's print, walks printed by a program of this session (wip/prt) in shorter words, and texts of this session, merged (pack.py).
import Derived.Below
import Derived.Maps.Own
import Derived.Maps.OwnSet
import Derived.Maps.OwnOps
import Derived.Maps.StringElems
import Derived.Lib.LaidTab
import Derived.Lib.SmallJoins
import Derived.Lib.ItoaNum
import Derived.Lib.Space
import Derived.KernelRfl
import Derived.WalkKit
import Derived.Test.YtmlkllbaehegjaaDoorProg
namespace Go.Proofs.YtmlkllbaehegjaaDoor
open Go Go.Maps Go.RowKit
def tightD : DataW Unit := .map [(.int .i64 7, .lit (.int .i64 4)), (.int .i64 8, .lit (.int .i64 3)), (.int .i64 9, .lit (.int .i64 2)), (.int .i64 10, .lit (.int .i64 1))]
def signsD : DataW Unit := .map [(.int .i64 7, .lit (.string [32, 38, 32])), (.int .i64 8, .lit (.string [32, 124, 32])), (.int .i64 9, .lit (.string [32, 45, 62, 32])), (.int .i64 10, .lit (.string [32, 60, 45, 62, 32]))]
def tightV (x : Int) : Int := if x = 7 then 4 else if x = 8 then 3 else if x = 9 then 2 else if x = 10 then 1 else 0
def tightHas (x : Int) : Bool := x == 7 || x == 8 || x == 9 || x == 10
def signsV (x : Int) : ByteArray := if x = 7 then ⟨#[32, 38, 32]⟩ else if x = 8 then ⟨#[32, 124, 32]⟩ else if x = 9 then ⟨#[32, 45, 62, 32]⟩ else if x = 10 then ⟨#[32, 60, 45, 62, 32]⟩ else ⟨#[]⟩
def signsHas (x : Int) : Bool := x == 7 || x == 8 || x == 9 || x == 10
/-- The variable at block g is a map that reads as D. -/
def MapIs (w : World) (g : Nat) (e : TypeId) (D : DataW Unit) : Prop :=
  ∃ b n, w.cell? ⟨g, 0, none⟩ = some (.map (some b)) ∧ w.ownsMap Tryd.prog 3 (plainElem Tryd.prog e) b n D
structure Laid (w : World) : Prop where
  pow : Lib.TabIs Tryd.prog w "internal/strconv.uint64pow10" .u64 Lib.pow10Tab
  space : Lib.TabIs Tryd.prog w "strings.asciiSpace" .u8 Lib.asciiSpaceTab
  tight : MapIs w 0 3 tightD
  signs : MapIs w 1 9 signsD
theorem owns_below {w w' : World} {k : TypeId} {R : Value → Option (DataW Unit × List MemPlace)} {b n : Nat} {D : DataW Unit} (ho : w.ownsMap Tryd.prog k R b n D) (hb : Below w.heap.size w w') : w'.ownsMap Tryd.prog k R b n D :=
  ho.kept (row := none) ⟨hb.os, hb.tape, hb.output, hb.size, fun i hi _ => hb.block i hi⟩ (by simp)
theorem MapIs.below {w w' : World} {g : Nat} {e : TypeId} {D : DataW Unit} (h : MapIs w g e D) (hb : Below w.heap.size w w') : MapIs w' g e D := by
  obtain ⟨b, n, hc, ho⟩ := h
  have hg : g < w.heap.size := World.block_lt_of_cell? w _ hc
  exact ⟨b, n, (hb.cell (p := ⟨g, 0, none⟩) hg).trans hc, owns_below ho hb⟩
theorem gpow : Tryd.prog.globalNamed "internal/strconv.uint64pow10" = some 3 := by kernel_rfl
theorem gspace : Tryd.prog.globalNamed "strings.asciiSpace" = some 4 := by kernel_rfl
theorem Laid.below {w w' : World} (h : Laid w) (hb : Below w.heap.size w w') : Laid w' :=
  ⟨Joins.tab_stays gpow h.pow hb (Nat.le_refl _), Joins.tab_stays gspace h.space hb (Nat.le_refl _), h.tight.below hb, h.signs.below hb⟩
theorem law3 : Keyed Tryd.prog 3 := int_keyed Tryd.underlying3
theorem zero3 (w : World) : (zeroValue 3).run Tryd.prog w = .ok (.int .i64 0) w := by kernel_rfl
theorem zero9 (w : World) : (zeroValue 9).run Tryd.prog w = .ok (.string ⟨#[]⟩) w := by kernel_rfl
theorem wf_of {x : Int} (h0 : (-9223372036854775808) ≤ x) (h1 : x ≤ 9223372036854775807) : (Lit.int .i64 x).wf = true := WalkArith.wf_i64 (by omega)
theorem same_int (a x : Int) : (Lit.int .i64 a).sameKey (.int .i64 x) = (a == x) := by
  unfold Lit.sameKey
  by_cases h : a = x
  · subst h; simp
  · simp [h]
theorem tight_at (x : Int) : tightD.atKey (.int .i64 x) (.lit (.int .i64 0)) = .lit (.int .i64 (tightV x)) := by
  unfold tightD DataW.atKey tightV
  simp only [List.find?, same_int]
  by_cases h7 : x = 7
  · subst h7; rfl
  by_cases h8 : x = 8
  · subst h8; rfl
  by_cases h9 : x = 9
  · subst h9; rfl
  by_cases h10 : x = 10
  · subst h10; rfl
  have e7 : ((7 : Int) == x) = false := beq_eq_false_iff_ne.mpr (Ne.symm h7)
  have e8 : ((8 : Int) == x) = false := beq_eq_false_iff_ne.mpr (Ne.symm h8)
  have e9 : ((9 : Int) == x) = false := beq_eq_false_iff_ne.mpr (Ne.symm h9)
  have e10 : ((10 : Int) == x) = false := beq_eq_false_iff_ne.mpr (Ne.symm h10)
  simp [e7, e8, e9, e10, h7, h8, h9, h10]
theorem signs_at (x : Int) : signsD.atKey (.int .i64 x) (.lit (.string [])) = .lit (.string (signsV x).data.toList) := by
  unfold signsD DataW.atKey signsV
  simp only [List.find?, same_int]
  by_cases h7 : x = 7
  · subst h7; rfl
  by_cases h8 : x = 8
  · subst h8; rfl
  by_cases h9 : x = 9
  · subst h9; rfl
  by_cases h10 : x = 10
  · subst h10; rfl
  have e7 : ((7 : Int) == x) = false := beq_eq_false_iff_ne.mpr (Ne.symm h7)
  have e8 : ((8 : Int) == x) = false := beq_eq_false_iff_ne.mpr (Ne.symm h8)
  have e9 : ((9 : Int) == x) = false := beq_eq_false_iff_ne.mpr (Ne.symm h9)
  have e10 : ((10 : Int) == x) = false := beq_eq_false_iff_ne.mpr (Ne.symm h10)
  simp [e7, e8, e9, e10, h7, h8, h9, h10]
theorem beq_sym (a x : Int) : (a == x) = (x == a) := by
  by_cases h : a = x
  · subst h; rfl
  · rw [beq_eq_false_iff_ne.mpr h, beq_eq_false_iff_ne.mpr (Ne.symm h)]
theorem tight_has (x : Int) : Maps.has tightD (.int .i64 x) = tightHas x := by
  unfold tightD Maps.has tightHas
  simp only [List.any, same_int, beq_sym 7 x, beq_sym 8 x, beq_sym 9 x, beq_sym 10 x, Bool.or_false, Bool.or_assoc]
theorem signs_has (x : Int) : Maps.has signsD (.int .i64 x) = signsHas x := by
  unfold signsD Maps.has signsHas
  simp only [List.any, same_int, beq_sym 7 x, beq_sym 8 x, beq_sym 9 x, beq_sym 10 x, Bool.or_false, Bool.or_assoc]
theorem bytes_inj {s t : ByteArray} (h : s.data.toList = t.data.toList) : s = t := by
  cases s; cases t
  simp only [Array.toList_inj] at h
  rw [h]
theorem Laid.g0 {w : World} (h : Laid w) : ∃ b, ∀ W, Below w.heap.size w W → W.cell? ⟨0, 0, none⟩ = some (.map (some b)) ∧
    (∀ x : Int, (-9223372036854775808) ≤ x → x ≤ 9223372036854775807 → (Instr.lookup 87 (.map (some b)) (.int .i64 x) true).run Tryd.prog W = .ok (.tuple #[.int .i64 (tightV x), .bool (tightHas x)]) W) ∧
    (∀ x : Int, (-9223372036854775808) ≤ x → x ≤ 9223372036854775807 → (Instr.lookup 87 (.map (some b)) (.int .i64 x) false).run Tryd.prog W = .ok (.int .i64 (tightV x)) W) := by
  obtain ⟨b, n, hc, ho⟩ := h.tight
  have hg : 0 < w.heap.size := World.block_lt_of_cell? w _ hc
  refine ⟨b, fun W hb => ⟨(hb.cell (p := ⟨0, 0, none⟩) hg).trans hc, fun x h0 h1 => ?_, fun x h0 h1 => ?_⟩⟩
  · obtain ⟨v, ps, hrun, hv⟩ := (owns_below ho hb).look_ok law3 Tryd.underlying87 (zero3 W) (plainElem_int Tryd.underlying3 (by decide)) (keyOf_int_mk Tryd.underlying3 (wf_of h0 h1))
    obtain ⟨a, rfl, hz, _⟩ := plainElem_int_inv Tryd.underlying3 hv
    have := congrArg Prod.fst hz
    rw [tight_at] at this
    simp only [DataW.lit.injEq, Lit.int.injEq, true_and] at this
    rw [tight_has] at hrun
    rw [hrun, this]
  · obtain ⟨v, ps, hrun, hv⟩ := (owns_below ho hb).lookup law3 Tryd.underlying87 (zero3 W) (plainElem_int Tryd.underlying3 (by decide)) (keyOf_int_mk Tryd.underlying3 (wf_of h0 h1))
    obtain ⟨a, rfl, hz, _⟩ := plainElem_int_inv Tryd.underlying3 hv
    have := congrArg Prod.fst hz
    rw [tight_at] at this
    simp only [DataW.lit.injEq, Lit.int.injEq, true_and] at this
    rw [hrun, this]
theorem Laid.g1 {w : World} (h : Laid w) : ∃ b, ∀ W, Below w.heap.size w W → W.cell? ⟨1, 0, none⟩ = some (.map (some b)) ∧
    (∀ x : Int, (-9223372036854775808) ≤ x → x ≤ 9223372036854775807 → (Instr.lookup 89 (.map (some b)) (.int .i64 x) true).run Tryd.prog W = .ok (.tuple #[.string (signsV x), .bool (signsHas x)]) W) ∧
    (∀ x : Int, (-9223372036854775808) ≤ x → x ≤ 9223372036854775807 → (Instr.lookup 89 (.map (some b)) (.int .i64 x) false).run Tryd.prog W = .ok (.string (signsV x)) W) := by
  obtain ⟨b, n, hc, ho⟩ := h.signs
  have hg : 1 < w.heap.size := World.block_lt_of_cell? w _ hc
  refine ⟨b, fun W hb => ⟨(hb.cell (p := ⟨1, 0, none⟩) hg).trans hc, fun x h0 h1 => ?_, fun x h0 h1 => ?_⟩⟩
  · obtain ⟨v, ps, hrun, hv⟩ := (owns_below ho hb).look_ok law3 Tryd.underlying89 (zero9 W) (plainElem_string Tryd.underlying9 (by decide)) (keyOf_int_mk Tryd.underlying3 (wf_of h0 h1))
    obtain ⟨a, rfl, hz, _⟩ := plainElem_string_inv Tryd.underlying9 hv
    have := congrArg Prod.fst hz
    rw [show (⟨#[]⟩ : ByteArray).data.toList = [] from rfl, signs_at] at this
    simp only [DataW.lit.injEq, Lit.string.injEq] at this
    rw [signs_has] at hrun
    rw [hrun, bytes_inj this]
  · obtain ⟨v, ps, hrun, hv⟩ := (owns_below ho hb).lookup law3 Tryd.underlying89 (zero9 W) (plainElem_string Tryd.underlying9 (by decide)) (keyOf_int_mk Tryd.underlying3 (wf_of h0 h1))
    obtain ⟨a, rfl, hz, _⟩ := plainElem_string_inv Tryd.underlying9 hv
    have := congrArg Prod.fst hz
    rw [show (⟨#[]⟩ : ByteArray).data.toList = [] from rfl, signs_at] at this
    simp only [DataW.lit.injEq, Lit.string.injEq] at this
    rw [hrun, bytes_inj this]
end Go.Proofs.YtmlkllbaehegjaaDoor
