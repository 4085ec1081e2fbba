import Derived.Lib.Join
import Derived.Deep.RegionLaw
import Derived.Lib.Hide
import Derived.Test.YtmlkllbaehegjaaDoorShowSeqs2
import Derived.Test.YtmlkllbaehegjaaDoorShowSeqs8
import Derived.Test.YtmlkllbaehegjaaDoorShowSeqs9
import Derived.Test.YtmlkllbaehegjaaDoorShowSeqs6
import Derived.Test.YtmlkllbaehegjaaDoorShowSeqs0
section
namespace Go.Proofs.YtmlkllbaehegjaaDoor.PAll
open Go.RowKit Go.Proofs.YtmlkllbaehegjaaDoorW.PrintWords Go.Proofs.YtmlkllbaehegjaaDoorW.PrintLast Go.Proofs.YtmlkllbaehegjaaDoorW.PrintMore
attribute [local go_sem] max2_int min2_int max_two min_two max_three min_three max_four min_four
set_option linter.unusedVariables false
set_option linter.unusedSimpArgs false
set_option maxHeartbeats 8000000 in
set_option maxRecDepth 100000 in
theorem sequiturref14_side.step (k : Nat) (ih_sequiturref14_term : ∀ j_, j_ < k → ∀ (a0_0 : Int) (a0_1 : ByteArray) (a0_2 : Int) (A0_3 : Option Addr) (c0_3 : Nat) (l0_3 : List (S53)) (A1 : Option Addr) (c1 : Nat) (l1 : List ByteArray) (r : ByteArray) (w : World) (hr0_3 : Kd.C k53 w A0_3 l0_3.length l0_3) (hc0_3 : l0_3.length ≤ c0_3) (hr1 : Kd.C Kd.string w A1 l1.length l1) (hc1 : l1.length ≤ c1) (h : sequiturref14_term.f j_ a0_0 a0_1 a0_2 l0_3 l1 = some r),
    Calls Tryd.prog 68 #[.agg #[.int .i64 a0_0, .string a0_1, .int .i64 a0_2, .slice A0_3 l0_3.length c0_3], .slice A1 l1.length c1] w fun e w' => e = .returned (.string r) ∧ Below w.heap.size w w') (ih_sequiturref14_list : ∀ j_, j_ < k → ∀ (A0 : Option Addr) (c0 : Nat) (l0 : List (S53)) (A1 : Option Addr) (c1 : Nat) (l1 : List ByteArray) (r : ByteArray) (w : World) (hr0 : Kd.C k53 w A0 l0.length l0) (hc0 : l0.length ≤ c0) (hr1 : Kd.C Kd.string w A1 l1.length l1) (hc1 : l1.length ≤ c1) (h : sequiturref14_list.f j_ l0 l1 = some r),
    Calls Tryd.prog 80 #[.slice A0 l0.length c0, .slice A1 l1.length c1] w fun e w' => e = .returned (.string r) ∧ Below w.heap.size w w') (ih : ∀ j_, j_ < k → ∀ (a0_0 : Int) (a0_1 : ByteArray) (a0_2 : Int) (A0_3 : Option Addr) (c0_3 : Nat) (l0_3 : List (S53)) (A1 : Option Addr) (c1 : Nat) (l1 : List ByteArray) (a2 : Bool) (r : ByteArray) (w : World) (hr0_3 : Kd.C k53 w A0_3 l0_3.length l0_3) (hc0_3 : l0_3.length ≤ c0_3) (hr1 : Kd.C Kd.string w A1 l1.length l1) (hc1 : l1.length ≤ c1) (h : sequiturref14_side.f j_ a0_0 a0_1 a0_2 l0_3 l1 a2 = some r),
    Calls Tryd.prog 81 #[.agg #[.int .i64 a0_0, .string a0_1, .int .i64 a0_2, .slice A0_3 l0_3.length c0_3], .slice A1 l1.length c1, .bool a2] w fun e w' => e = .returned (.string r) ∧ Below w.heap.size w w') : ∀ (a0_0 : Int) (a0_1 : ByteArray) (a0_2 : Int) (A0_3 : Option Addr) (c0_3 : Nat) (l0_3 : List (S53)) (A1 : Option Addr) (c1 : Nat) (l1 : List ByteArray) (a2 : Bool) (r : ByteArray) (w : World) (hr0_3 : Kd.C k53 w A0_3 l0_3.length l0_3) (hc0_3 : l0_3.length ≤ c0_3) (hr1 : Kd.C Kd.string w A1 l1.length l1) (hc1 : l1.length ≤ c1) (h : sequiturref14_side.f k a0_0 a0_1 a0_2 l0_3 l1 a2 = some r),
    Calls Tryd.prog 81 #[.agg #[.int .i64 a0_0, .string a0_1, .int .i64 a0_2, .slice A0_3 l0_3.length c0_3], .slice A1 l1.length c1, .bool a2] w fun e w' => e = .returned (.string r) ∧ Below w.heap.size w w' := by
  intro a0_0 a0_1 a0_2 A0_3 c0_3 l0_3 A1 c1 l1 a2 r w hr0_3 hc0_3 hr1 hc1 h
  cases k with
  | zero => exact absurd h (by simp [sequiturref14_side.f])
  | succ k =>
  simp only [sequiturref14_side.f] at h; have hu53 := Tryd.underlying53; have HR0_3 := am hr0_3; have HC0_3 := am hc0_3; clear hr0_3 hc0_3; have HR1 := am hr1; have HC1 := am hc1; clear hr1 hc1; have HB := am (Below.refl w.heap.size w); have H := h; clear h; obtain ⟨t514, A4, H⟩ := bO H
  by_cases c5 : a2 = true
  ·subst c5
   rw [if_pos rfl] at H; obtain ⟨t516, A6, H⟩ := bO H; obtain rfl := Option.some.inj H
   go_enter Tryd.func81, Tryd.ntmps81
   go_wp2_with (first | ((with_reducible refine gate_dst (N := 3) rfl ?_); refine bE 3 #[.int .i64 a0_0, .string a0_1, .int .i64 a0_2, .slice A0_3 l0_3.length c0_3] 53 ?_; intro gb513 w7 BK513 hg hb; have GW513 := bZ hg; have GE513 := bZ hg; replace HB := bH hb; clear hb hg; obtain ⟨z8_0, z8_1, z8_2, z8_3, y8_0, y8_1, y8_2, y8_3⟩ := y4 BK513) | ((with_reducible refine gate_callee (f := 68) rfl ?_); refine gL 10 Tryd.func68 #[.agg #[.int .i64 a0_0, .string a0_1, .int .i64 a0_2, .slice A0_3 l0_3.length c0_3], .slice A1 l1.length c1] ?_; (with_reducible refine (ih_sequiturref14_term k (by omega) a0_0 a0_1 a0_2 _ _ l0_3 _ _ l1 t514 _ ?side1 HC0_3.out ?side3 HC1.out A4.out).mono ?_); (case side1 => exact cB HR0_3); (case side3 => exact cB HR1); rintro e w9 ⟨rfl, hb⟩; refine ⟨_, rfl, ?_⟩; replace BK513 := bK BK513 hb; replace HB := bH hb; clear hb) | ((with_reducible refine gate_callee (f := 69) rfl ?_); refine gL 17 Tryd.func69 #[.string t514] ?_; (with_reducible refine (sequiturref14_brackets.calls t514 t516 _ A6.out).mono ?_); rintro e w' ⟨rfl, ⟨nd, rfl⟩⟩; refine ⟨_, rfl, ?_⟩))
   go_ret; exact ⟨eW, bB⟩
  ·replace c5 := Bool.eq_false_iff.mpr c5
   subst c5; rw [if_neg (show ¬ (false = true) by decide)] at H; obtain ⟨t515, A10, H⟩ := bO H
   by_cases c11 : t515 = true
   ·subst c11
    rw [if_pos rfl] at H; obtain ⟨t517, A12, H⟩ := bO H; obtain rfl := Option.some.inj H
    go_enter Tryd.func81, Tryd.ntmps81
    go_wp2_with (first | ((with_reducible refine gate_dst (N := 3) rfl ?_); refine bE 3 #[.int .i64 a0_0, .string a0_1, .int .i64 a0_2, .slice A0_3 l0_3.length c0_3] 53 ?_; intro gb513 w13 BK513 hg hb; have GW513 := bZ hg; have GE513 := bZ hg; replace HB := bH hb; clear hb hg; obtain ⟨z14_0, z14_1, z14_2, z14_3, y14_0, y14_1, y14_2, y14_3⟩ := y4 BK513) | ((with_reducible refine gate_callee (f := 68) rfl ?_); refine gL 10 Tryd.func68 #[.agg #[.int .i64 a0_0, .string a0_1, .int .i64 a0_2, .slice A0_3 l0_3.length c0_3], .slice A1 l1.length c1] ?_; (with_reducible refine (ih_sequiturref14_term k (by omega) a0_0 a0_1 a0_2 _ _ l0_3 _ _ l1 t514 _ ?side1 ?side2 ?side3 HC1.out A4.out).mono ?_); (case side1 => exact cB HR0_3); (case side2 => exact HC0_3.out); (case side3 => exact cB HR1); rintro e w15 ⟨rfl, hb⟩; refine ⟨_, rfl, ?_⟩; replace BK513 := bK BK513 hb; replace HB := bH hb; clear hb; obtain ⟨z16_0, z16_1, z16_2, z16_3, y16_0, y16_1, y16_2, y16_3⟩ := y4 BK513) | (go_at_call 92; (with_reducible refine (sequiturref14_low.calls a0_0 a0_1 a0_2 _ _ l0_3 true _ ?side1 ?side2 A10.out).mono ?_); (case side1 => exact cB HR0_3); (case side2 => exact HC0_3.out); rintro e w17 ⟨rfl, hb⟩; replace BK513 := bK BK513 hb; replace HB := bH hb; clear hb) | ((with_reducible refine gate_callee (f := 69) rfl ?_); refine gL 17 Tryd.func69 #[.string t514] ?_; (with_reducible refine (sequiturref14_brackets.calls t514 t517 _ A12.out).mono ?_); rintro e w' ⟨rfl, ⟨nd, rfl⟩⟩; refine ⟨_, rfl, ?_⟩))
    go_ret; exact ⟨eW, bB⟩
   ·replace c11 := Bool.eq_false_iff.mpr c11
    subst c11; rw [if_neg (show ¬ (false = true) by decide)] at H; obtain rfl := Option.some.inj H
    go_enter Tryd.func81, Tryd.ntmps81
    go_wp2_with (first | ((with_reducible refine gate_dst (N := 3) rfl ?_); refine bE 3 #[.int .i64 a0_0, .string a0_1, .int .i64 a0_2, .slice A0_3 l0_3.length c0_3] 53 ?_; intro gb513 w18 BK513 hg hb; have GW513 := bZ hg; have GE513 := bZ hg; replace HB := bH hb; clear hb hg; obtain ⟨z19_0, z19_1, z19_2, z19_3, y19_0, y19_1, y19_2, y19_3⟩ := y4 BK513) | ((with_reducible refine gate_callee (f := 68) rfl ?_); refine gL 10 Tryd.func68 #[.agg #[.int .i64 a0_0, .string a0_1, .int .i64 a0_2, .slice A0_3 l0_3.length c0_3], .slice A1 l1.length c1] ?_; (with_reducible refine (ih_sequiturref14_term k (by omega) a0_0 a0_1 a0_2 _ _ l0_3 _ _ l1 t514 _ ?side1 ?side2 ?side3 HC1.out A4.out).mono ?_); (case side1 => exact cB HR0_3); (case side2 => exact HC0_3.out); (case side3 => exact cB HR1); rintro e w20 ⟨rfl, hb⟩; refine ⟨_, rfl, ?_⟩; replace BK513 := bK BK513 hb; replace HB := bH hb; clear hb; obtain ⟨z21_0, z21_1, z21_2, z21_3, y21_0, y21_1, y21_2, y21_3⟩ := y4 BK513) | (go_at_call 92; (with_reducible refine (sequiturref14_low.calls a0_0 a0_1 a0_2 _ _ l0_3 false _ ?side1 ?side2 A10.out).mono ?_); (case side1 => exact cB HR0_3); (case side2 => exact HC0_3.out); rintro e w22 ⟨rfl, hb⟩; replace BK513 := bK BK513 hb; replace HB := bH hb; clear hb))
    go_ret; exact ⟨eW, bB⟩
def sequiturref14_term.Spec (k : Nat) : Prop := ∀ (a0_0 : Int) (a0_1 : ByteArray) (a0_2 : Int) (A0_3 : Option Addr) (c0_3 : Nat) (l0_3 : List (S53)) (A1 : Option Addr) (c1 : Nat) (l1 : List ByteArray) (r : ByteArray) (w : World) (hr0_3 : Kd.C k53 w A0_3 l0_3.length l0_3) (hc0_3 : l0_3.length ≤ c0_3) (hr1 : Kd.C Kd.string w A1 l1.length l1) (hc1 : l1.length ≤ c1) (h : sequiturref14_term.f k a0_0 a0_1 a0_2 l0_3 l1 = some r),
    Calls Tryd.prog 68 #[.agg #[.int .i64 a0_0, .string a0_1, .int .i64 a0_2, .slice A0_3 l0_3.length c0_3], .slice A1 l1.length c1] w fun e w' => e = .returned (.string r) ∧ Below w.heap.size w w'
def sequiturref14_list.Spec (k : Nat) : Prop := ∀ (A0 : Option Addr) (c0 : Nat) (l0 : List (S53)) (A1 : Option Addr) (c1 : Nat) (l1 : List ByteArray) (r : ByteArray) (w : World) (hr0 : Kd.C k53 w A0 l0.length l0) (hc0 : l0.length ≤ c0) (hr1 : Kd.C Kd.string w A1 l1.length l1) (hc1 : l1.length ≤ c1) (h : sequiturref14_list.f k l0 l1 = some r),
    Calls Tryd.prog 80 #[.slice A0 l0.length c0, .slice A1 l1.length c1] w fun e w' => e = .returned (.string r) ∧ Below w.heap.size w w'
def sequiturref14_side.Spec (k : Nat) : Prop := ∀ (a0_0 : Int) (a0_1 : ByteArray) (a0_2 : Int) (A0_3 : Option Addr) (c0_3 : Nat) (l0_3 : List (S53)) (A1 : Option Addr) (c1 : Nat) (l1 : List ByteArray) (a2 : Bool) (r : ByteArray) (w : World) (hr0_3 : Kd.C k53 w A0_3 l0_3.length l0_3) (hc0_3 : l0_3.length ≤ c0_3) (hr1 : Kd.C Kd.string w A1 l1.length l1) (hc1 : l1.length ≤ c1) (h : sequiturref14_side.f k a0_0 a0_1 a0_2 l0_3 l1 a2 = some r),
    Calls Tryd.prog 81 #[.agg #[.int .i64 a0_0, .string a0_1, .int .i64 a0_2, .slice A0_3 l0_3.length c0_3], .slice A1 l1.length c1, .bool a2] w fun e w' => e = .returned (.string r) ∧ Below w.heap.size w w'
theorem sequiturref14_term.all (k : Nat) : sequiturref14_term.Spec k ∧ sequiturref14_list.Spec k ∧ sequiturref14_side.Spec k := by
  induction k using Nat.strongRecOn with
  | _ k ih => exact ⟨sequiturref14_term.step k (fun j_ hj_ => (ih j_ hj_).1) (fun j_ hj_ => (ih j_ hj_).2.1) (fun j_ hj_ => (ih j_ hj_).2.2), sequiturref14_list.step k (fun j_ hj_ => (ih j_ hj_).1) (fun j_ hj_ => (ih j_ hj_).2.1) (fun j_ hj_ => (ih j_ hj_).2.2), sequiturref14_side.step k (fun j_ hj_ => (ih j_ hj_).1) (fun j_ hj_ => (ih j_ hj_).2.1) (fun j_ hj_ => (ih j_ hj_).2.2)⟩
theorem sequiturref14_term.calls (k : Nat) : ∀ (a0_0 : Int) (a0_1 : ByteArray) (a0_2 : Int) (A0_3 : Option Addr) (c0_3 : Nat) (l0_3 : List (S53)) (A1 : Option Addr) (c1 : Nat) (l1 : List ByteArray) (r : ByteArray) (w : World) (hr0_3 : Kd.C k53 w A0_3 l0_3.length l0_3) (hc0_3 : l0_3.length ≤ c0_3) (hr1 : Kd.C Kd.string w A1 l1.length l1) (hc1 : l1.length ≤ c1) (h : sequiturref14_term.f k a0_0 a0_1 a0_2 l0_3 l1 = some r),
    Calls Tryd.prog 68 #[.agg #[.int .i64 a0_0, .string a0_1, .int .i64 a0_2, .slice A0_3 l0_3.length c0_3], .slice A1 l1.length c1] w fun e w' => e = .returned (.string r) ∧ Below w.heap.size w w' :=
  (sequiturref14_term.all k).1
end Go.Proofs.YtmlkllbaehegjaaDoor.PAll
end
section
/- Plain laws: show's text of a term is the document's. -/
namespace Go.Proofs.YtmlkllbaehegjaaDoor.PAll
open Go.RowKit
open Go.Proofs.YtmlkllbaehegjaaDoor
open Go.Proofs.YtmlkllbaehegjaaDoorW.PrintWords (rdOf)
def I64 (x : Int) : Prop := -9223372036854775808 ≤ x ∧ x ≤ 9223372036854775807
mutual
/-- All numbers are int64. -/
def OT : S53 → Prop
  | ⟨_, _, num, l⟩ => I64 num ∧ OTs l
def OTs : List S53 → Prop
  | [] => True
  | t :: r => OT t ∧ OTs r
end
theorem OT_to {t : S53} (h : OT t) : I64 t.f2 ∧ OTs t.f3 := by cases t; exact h
theorem RTs_at : ∀ {l : List S53} {i : Nat} (hi : i < l.length), RTs l → RT l[i]
  | t :: r, 0, _, h => h.1
  | t :: r, i + 1, hi, h => RTs_at (l := r) (i := i) (by simpa using hi) h.2
theorem NTs_at : ∀ {l : List S53} {i : Nat} (hi : i < l.length), NTs l → NT l[i]
  | t :: r, 0, _, h => h.1
  | t :: r, i + 1, hi, h => NTs_at (l := r) (i := i) (by simpa using hi) h.2
theorem OTs_at : ∀ {l : List S53} {i : Nat} (hi : i < l.length), OTs l → OT l[i]
  | t :: r, 0, _, h => h.1
  | t :: r, i + 1, hi, h => OTs_at (l := r) (i := i) (by simpa using hi) h.2
theorem num_ev (x : Int) (hx : I64 x) : ∃ s, digit_Text.f x = some s ∧ Ev (fun k => sequiturbase_Digits.f k x) s ∧ s.size ≤ 22 := by
  obtain ⟨h0, h1⟩ := hx
  by_cases hn : x < 0
  · obtain ⟨n, hn2, hn3⟩ : ∃ n : Nat, x = -(n : Int) ∧ 1 ≤ n := ⟨x.natAbs, by omega, by omega⟩
    have hl := Lib.itoa_length_le x h0 h1
    rw [hn2, Lib.itoa_neg n hn3] at hl
    refine ⟨(⟨#[45]⟩ : ByteArray) ++ numB n, ?_, ?_, ?_⟩
    · unfold digit_Text.f
      rw [if_pos ⟨h0, h1⟩, hn2, Lib.itoa_neg n hn3]
      congr 1
    · simp only [sequiturbase_Digits.f]
      refine Ev.pos hn ?_
      have e1 : wrap64 (x + 1) = x + 1 := IntWalk.wrap64_in _ (by omega)
      have e2 : wrap64 (-(x + 1)) = -(x + 1) := IntWalk.wrap64_in _ (by omega)
      rw [e1, e2, wrapU_in (x := -(x + 1)) (by omega) (by omega), wrapU_in (x := -(x + 1) + 1) (by omega) (by omega), show -(x + 1) + 1 = (n : Int) by omega]
      refine Ev.bind (digits_ev n (by omega)) (Ev.pos ?_ (Ev.const _))
      have : (numB n).size = (Lib.decDigits n).length := by simp [numB, ByteArray.size]
      simp at hl
      omega
    · have e : (numB n).size = (Lib.decDigits n).length := by simp [numB, ByteArray.size]
      have e1 : (⟨#[45]⟩ : ByteArray).size = 1 := rfl
      simp at hl
      rw [ByteArray.size_append]
      omega
  · obtain ⟨n, rfl⟩ : ∃ n : Nat, x = (n : Int) := ⟨x.toNat, by omega⟩
    exact ⟨numB n, text_eq n (by omega), Digits_ev n (by omega), by have := numB_size n (by omega); omega⟩
def par (s : ByteArray) : ByteArray := ((⟨#[40]⟩ : ByteArray) ++ s) ++ (⟨#[41]⟩ : ByteArray)
theorem par_size (s : ByteArray) : (par s).size = s.size + 2 := by
  have e1 : (⟨#[40]⟩ : ByteArray).size = 1 := rfl
  have e2 : (⟨#[41]⟩ : ByteArray).size = 1 := rfl
  simp only [par, ByteArray.size_append]
  omega
theorem brackets_eq (s : ByteArray) (h : s.size ≤ 1000000000) : sequiturref14_brackets.f s = some (par s) := by
  have e1 : (⟨#[40]⟩ : ByteArray).size = 1 := rfl
  unfold sequiturref14_brackets.f
  rw [if_pos (by omega), if_pos (by rw [ByteArray.size_append]; omega)]
  rfl
theorem side_j0 (s : ByteArray) (h : s.size ≤ 1000000000) (b : Bool) : Ev (fun k => show_side.j0 k s b) (if b = true then par s else s) := by
  have e1 : (⟨#[40]⟩ : ByteArray).size = 1 := rfl
  refine Ev.step ?_
  simp only [show_side.j0]
  cases b with
  | true => exact Ev.pos rfl (Ev.pos (by omega) (Ev.pos (by rw [ByteArray.size_append]; omega) (Ev.const _)))
  | false => exact Ev.neg (by simp) (Ev.const _)
/-- A side, out of the text. -/
def sideOf (t : S53) (s : ByteArray) (b : Bool) : ByteArray := if b = true ∨ (t.f0 = 4 ∧ t.f2 < 0) then par s else s
theorem sideOf_size (t : S53) (s : ByteArray) (b : Bool) : (sideOf t s b).size ≤ s.size + 2 := by
  unfold sideOf
  split
  · rw [par_size]; omega
  · omega
theorem side_show (t : S53) (names : List ByteArray) (s : ByteArray) (b : Bool) (h : Ev (fun k => show_text.f k t.f0 t.f1 t.f2 t.f3 names) s) (hs : s.size ≤ 1000000000) : Ev (fun k => show_side.f k t.f0 t.f1 t.f2 t.f3 names b) (sideOf t s b) := by
  refine Ev.step ?_
  simp only [show_side.f]
  refine Ev.bind h ?_
  unfold sideOf
  by_cases hb : b = true
  · refine Ev.pos hb ((side_j0 s hs true).eq ?_)
    rw [if_pos rfl, if_pos (.inl hb)]
  · refine Ev.neg hb ?_
    by_cases h4 : t.f0 = 4
    · refine Ev.pos h4 ((side_j0 s hs _).eq ?_)
      by_cases h0 : t.f2 < 0
      · rw [if_pos (decide_eq_true h0), if_pos (.inr ⟨h4, h0⟩)]
      · rw [if_neg (by simp [h0]), if_neg (by rintro (e | e); exact hb e; exact h0 e.2)]
    · refine Ev.neg h4 ((side_j0 s hs false).eq ?_)
      rw [if_neg (by simp), if_neg (by rintro (e | e); exact hb e; exact h4 e.1)]
theorem side_ref (t : S53) (names : List ByteArray) (s : ByteArray) (b : Bool) (h : Ev (fun k => sequiturref14_term.f k t.f0 t.f1 t.f2 t.f3 names) s) (hs : s.size ≤ 1000000000) : Ev (fun k => sequiturref14_side.f k t.f0 t.f1 t.f2 t.f3 names b) (sideOf t s b) := by
  refine Ev.step ?_
  simp only [sequiturref14_side.f]
  refine Ev.bind h ?_
  unfold sideOf
  by_cases hb : b = true
  · refine Ev.pos hb (Ev.bind (Ev.of_eq (brackets_eq s hs)) ((Ev.const _).eq ?_))
    rw [if_pos (.inl hb)]
  · refine Ev.neg hb ?_
    by_cases h4 : t.f0 = 4
    · have el : sequiturref14_low.f t.f0 t.f1 t.f2 t.f3 = some (decide (t.f2 < 0)) := by unfold sequiturref14_low.f; rw [if_pos h4]
      refine Ev.bind (Ev.of_eq el) ?_
      by_cases h0 : t.f2 < 0
      · refine Ev.pos (decide_eq_true h0) (Ev.bind (Ev.of_eq (brackets_eq s hs)) ((Ev.const _).eq ?_))
        rw [if_pos (.inr ⟨h4, h0⟩)]
      · refine Ev.neg (by simp [h0]) ((Ev.const _).eq ?_)
        rw [if_neg (by rintro (e | e); exact hb e; exact h0 e.2)]
    · have el : sequiturref14_low.f t.f0 t.f1 t.f2 t.f3 = some false := by unfold sequiturref14_low.f; rw [if_neg h4]
      refine Ev.bind (Ev.of_eq el) (Ev.neg (by simp) ((Ev.const _).eq ?_))
      rw [if_neg (by rintro (e | e); exact hb e; exact h4 e.1)]
theorem joinL_snoc (xs : List (List UInt8)) (x sep : List UInt8) : Lib.join (xs ++ [x]) sep = if xs = [] then x else Lib.join xs sep ++ sep ++ x := by
  cases xs with
  | nil => simp [Lib.join_one]
  | cons y r => simp [Lib.join_cons, Lib.joinTail]
def joinT (l : List ByteArray) : ByteArray := ⟨(Lib.join (l.map (·.data.toList)) [44, 32]).toArray⟩
theorem joinT_snoc (l : List ByteArray) (s : ByteArray) : joinT (l ++ [s]) = if l = [] then s else (joinT l ++ ⟨#[44, 32]⟩) ++ s := by
  apply bytes_inj
  unfold joinT
  rw [List.map_append, List.map_cons, List.map_nil, joinL_snoc]
  by_cases h : l = []
  · simp [h]
  · simp [h, ByteArray.data_append]
theorem wTs_take {l : List S53} {i : Nat} (hi : i < l.length) : wTs (l.take (i + 1)) = wTs (l.take i) + wT l[i] := by
  rw [List.take_succ_eq_append_getElem hi]
  have : ∀ (a b : List S53), wTs (a ++ b) = wTs a + wTs b := by
    intro a b
    induction a with
    | nil => simp [wTs]
    | cons x r ih => simp only [List.cons_append, wTs, ih]; omega
  rw [this]
  simp [wTs]
theorem wTs_take_le : ∀ (l : List S53) (i : Nat), wTs (l.take i) ≤ wTs l
  | [], i => by simp [wTs]
  | t :: r, 0 => by simp [wTs]
  | t :: r, i + 1 => by
    have := wTs_take_le r i
    simp only [List.take_succ_cons, wTs]
    omega
/-- The first i texts. -/
def pre (S : Nat → ByteArray) (i : Nat) : List ByteArray := (List.range i).map S
theorem pre_succ (S : Nat → ByteArray) (i : Nat) : pre S (i + 1) = pre S i ++ [S i] := by simp [pre, List.range_succ]
theorem pre_len (S : Nat → ByteArray) (i : Nat) : (pre S i).length = i := by simp [pre]
theorem join_pre (S : Nat → ByteArray) (i : Nat) : joinT (pre S (i + 1)) = if i = 0 then S i else (joinT (pre S i) ++ ⟨#[44, 32]⟩) ++ S i := by
  rw [pre_succ, joinT_snoc]
  by_cases h : i = 0
  · rw [if_pos h, if_pos (by subst h; rfl)]
  · rw [if_neg h, if_neg (by intro e; have := congrArg List.length e; rw [pre_len] at this; exact h this)]
theorem join_pre_size (S : Nat → ByteArray) (l : List S53) (hS : ∀ i (hi : i < l.length), (S i).size + 100 ≤ 300 * wT l[i]) : ∀ i, i ≤ l.length → (joinT (pre S i)).size ≤ 300 * wTs (l.take i)
  | 0, _ => Nat.zero_le _
  | i + 1, h => by
    have hi : i < l.length := by omega
    have h1 := join_pre_size S l hS i (by omega)
    have h2 := hS i hi
    rw [join_pre, wTs_take hi]
    have e1 : (⟨#[44, 32]⟩ : ByteArray).size = 2 := rfl
    split
    · omega
    · simp only [ByteArray.size_append]
      omega
theorem joinT_eq (l : List ByteArray) (hn : l.length ≤ 1000000000) (hs : (joinT l).size ≤ 1000000000) : strings_Join.f l (⟨#[44, 32]⟩ : ByteArray) = some (joinT l) := by
  unfold strings_Join.f
  have e : (Lib.join (l.map (·.data.toList)) (⟨#[44, 32]⟩ : ByteArray).data.toList).length = (joinT l).size := by
    show _ = (Lib.join (l.map (·.data.toList)) [44, 32]).toArray.size
    rw [List.size_toArray]
  rw [if_pos (by rw [e]; omega)]
  rfl
/-- A name with terms in brackets. -/
def appOf (name : ByteArray) (S : Nat → ByteArray) (n : Nat) : ByteArray := if n = 0 then name else name ++ par (joinT (pre S n))
theorem app_show (name : ByteArray) (l : List S53) (names : List ByteArray) (S : Nat → ByteArray) (hl : l.length ≤ 100000) (hname : name.size ≤ 1000) (hJ : (joinT (pre S l.length)).size ≤ 100000000)
    (hS : ∀ i (hi : i < l.length), Ev (fun k => show_text.f k l[i].f0 l[i].f1 l[i].f2 l[i].f3 names) (S i)) : Ev (fun k => show_apply.f k name l names) (appOf name S l.length) := by
  have loop : ∀ (j i : Nat), i + j = l.length → 0 < l.length → Ev (fun k => show_apply.l0 k name names (pre S i) l (l.length : Int) (i : Int)) (appOf name S l.length) := by
    intro j
    induction j with
    | zero =>
      intro i hi h0
      obtain rfl : i = l.length := by omega
      refine Ev.step ?_
      simp only [show_apply.l0]
      have e1 : (⟨#[40]⟩ : ByteArray).size = 1 := rfl
      refine Ev.neg (by omega) (Ev.pos (by omega) (Ev.bind (Ev.of_eq (joinT_eq _ (by rw [pre_len]; omega) (by omega))) ?_))
      refine Ev.pos (by simp only [ByteArray.size_append]; omega) (Ev.pos (by simp only [ByteArray.size_append]; omega) ((Ev.const _).eq ?_))
      unfold appOf par
      rw [if_neg (by omega)]
      apply bytes_inj
      simp [ByteArray.data_append]
    | succ j ih =>
      intro i hi h0
      have hlt : i < l.length := by omega
      refine Ev.step ?_
      simp only [show_apply.l0]
      refine Ev.pos (by omega) (Ev.pos (by omega) (Ev.pos (by omega) ?_))
      rw [rdT hlt, wrapN (x := (i : Int) + 1) (n := i + 1) (by omega) (by omega)]
      refine Ev.bind (hS i hlt) (Ev.pos (by rw [pre_len]; omega) ?_)
      have := ih (i + 1) (by omega) h0
      rw [pre_succ] at this
      exact this
  refine Ev.step ?_
  simp only [show_apply.f]
  by_cases h0 : l.length = 0
  · refine Ev.pos (by omega) ((Ev.const _).eq ?_)
    unfold appOf
    rw [if_pos h0]
  · refine Ev.neg (by omega) ?_
    exact loop l.length 0 (by omega) (by omega)
theorem list_ref (l : List S53) (names : List ByteArray) (S : Nat → ByteArray) (hl : l.length ≤ 100000) (hJ : ∀ i, i ≤ l.length → (joinT (pre S i)).size ≤ 100000000) (hs : ∀ i, i < l.length → (S i).size ≤ 100000000)
    (hS : ∀ i (hi : i < l.length), Ev (fun k => sequiturref14_term.f k l[i].f0 l[i].f1 l[i].f2 l[i].f3 names) (S i)) : Ev (fun k => sequiturref14_list.f k l names) (joinT (pre S l.length)) := by
  have loop : ∀ (j i : Nat), i + j = l.length → Ev (fun k => sequiturref14_list.l0 k l names (joinT (pre S i)) (i : Int)) (joinT (pre S l.length)) := by
    intro j
    induction j with
    | zero =>
      intro i hi
      obtain rfl : i = l.length := by omega
      refine Ev.step ?_
      simp only [sequiturref14_list.l0]
      exact Ev.neg (by omega) (Ev.const _)
    | succ j ih =>
      intro i hi
      have hlt : i < l.length := by omega
      have h1 := ih (i + 1) (by omega)
      have h2 := hJ i (by omega)
      have h3 := hs i hlt
      have e1 : (⟨#[44, 32]⟩ : ByteArray).size = 2 := rfl
      rw [join_pre] at h1
      refine Ev.step ?_
      simp only [sequiturref14_list.l0]
      refine Ev.pos (by omega) ?_
      rw [rdT hlt, wrapN (x := (i : Int) + 1) (n := i + 1) (by omega) (by omega)]
      by_cases h0 : i = 0
      · refine Ev.neg (by omega) (Ev.pos (by omega) (Ev.bind (hS i hlt) (Ev.pos (by omega) ?_)))
        rw [if_pos h0] at h1
        subst h0
        have e0 : joinT (pre S 0) ++ S 0 = S 0 := by
          apply bytes_inj
          simp [joinT, pre, Lib.join_nil, ByteArray.data_append]
        rw [e0]
        exact h1
      · refine Ev.pos (by omega) (Ev.pos (by omega) (Ev.pos (by omega) (Ev.bind (hS i hlt) (Ev.pos (by simp only [ByteArray.size_append]; omega) ?_))))
        rw [if_neg h0] at h1
        exact h1
  refine Ev.step ?_
  simp only [sequiturref14_list.f]
  exact loop l.length 0 (by omega)
theorem arg_at (a0 : Int) (a1 : ByteArray) (a2 : Int) (l : List S53) {i : Nat} (hi : i < l.length) : show_arg.f a0 a1 a2 l (i : Int) = some (l[i].f0, l[i].f1, l[i].f2, l[i].f3) := by
  unfold show_arg.f
  rw [if_pos (by omega), if_pos (by omega), rdT hi]
theorem arg_any (a0 : Int) (a1 : ByteArray) (a2 : Int) (l : List S53) : ∃ b, show_arg.f a0 a1 a2 l 0 = some b := by
  unfold show_arg.f
  by_cases h : (0 : Int) < (l.length : Int)
  · rw [if_pos h, if_pos (by omega)]
    exact ⟨_, rfl⟩
  · rw [if_neg h]
    exact ⟨_, rfl⟩
def sumB (t : S53) : Bool := decide (t.f0 = 5 ∨ t.f0 = 6)
theorem sum_show (t : S53) : show_sum.f t.f0 t.f1 t.f2 t.f3 = some (sumB t) := by
  unfold show_sum.f sumB
  by_cases h : t.f0 = 5
  · rw [if_pos h]; simp [h]
  · rw [if_neg h]
    by_cases h6 : t.f0 = 6
    · simp [h6]
    · simp [h, h6]
theorem sum_ref (t : S53) : sequiturref14_sum.f t.f0 t.f1 t.f2 t.f3 = some (sumB t) := by
  unfold sequiturref14_sum.f sumB
  by_cases h : t.f0 = 5
  · rw [if_pos h]; simp [h]
  · rw [if_neg h]
    by_cases h6 : t.f0 = 6
    · simp [h6]
    · simp [h, h6]
theorem rd0 {l : List S53} (h : 0 < l.length) : rd_T53 l 0 = l[0] := rdT (i := 0) h
theorem rd1 {l : List S53} (h : 1 < l.length) : rd_T53 l 1 = l[1] := rdT (i := 1) h
theorem ref_f (t : S53) (names : List ByteArray) (s : ByteArray) (h : Ev (fun k => sequiturref14_term.j0 k names t.f0 (decide (t.f0 = 1 ∨ t.f0 = 3)) t.f0 t.f1 t.f2 t.f3) s) : Ev (fun k => sequiturref14_term.f k t.f0 t.f1 t.f2 t.f3 names) s := by
  refine Ev.step ?_
  simp only [sequiturref14_term.f]
  by_cases h1 : t.f0 = 1
  · refine Ev.pos h1 ?_
    rw [show (t.f0 == 1) = decide (t.f0 = 1 ∨ t.f0 = 3) by simp [h1]]
    exact h
  · refine Ev.neg h1 ?_
    rw [show (t.f0 == 3) = decide (t.f0 = 1 ∨ t.f0 = 3) by
      by_cases h3 : t.f0 = 3
      · simp [h3]
      · rw [beq_eq_false_iff_ne.mpr h3]
        exact (decide_eq_false (by omega)).symm]
    exact h
theorem text_both : ∀ (N : Nat) (t : S53), wT t ≤ N → N ≤ 10000 → RT t → NT t → OT t → ∀ names : List ByteArray, (∀ s ∈ names, s.size ≤ 100) → names.length ≤ 10000 →
    ∃ s, Ev (fun k => show_text.f k t.f0 t.f1 t.f2 t.f3 names) s ∧ Ev (fun k => sequiturref14_term.f k t.f0 t.f1 t.f2 t.f3 names) s ∧ s.size + 100 ≤ 300 * wT t
  | 0, t, h, _, _, _, _, _, _, _ => by
    have := wT_pos t
    omega
  | N + 1, t, h, hN, hR, hNm, hO, names, hnames, hlen => by
    have hw := wT_eq t
    obtain ⟨r1, r2, r3, r4, r5, r6, r7, r8⟩ := RT_to hR
    obtain ⟨n1, n2⟩ := NT_to hNm
    obtain ⟨o1, o2⟩ := OT_to hO
    have hl3 := wTs_len t.f3
    obtain ⟨bt, harg⟩ := arg_any t.f0 t.f1 t.f2 t.f3
    have each : ∀ i (hi : i < t.f3.length) (nm : List ByteArray), (∀ s ∈ nm, s.size ≤ 100) → nm.length ≤ 10000 → ∃ s, Ev (fun k => show_text.f k t.f3[i].f0 t.f3[i].f1 t.f3[i].f2 t.f3[i].f3 nm) s ∧ Ev (fun k => sequiturref14_term.f k t.f3[i].f0 t.f3[i].f1 t.f3[i].f2 t.f3[i].f3 nm) s ∧ s.size + 100 ≤ 300 * wT t.f3[i] := fun i hi nm h1 h2 => by
      have := wT_mem hi
      exact text_both N t.f3[i] (by omega) (by omega) (RTs_at hi r8) (NTs_at hi n2) (OTs_at hi o2) nm h1 h2
    have s1 : (⟨#[45]⟩ : ByteArray).size = 1 := rfl
    have s39 : (⟨#[39]⟩ : ByteArray).size = 1 := rfl
    have sp : (⟨#[32, 43, 32]⟩ : ByteArray).size = 3 := rfl
    have sm : (⟨#[32, 45, 32]⟩ : ByteArray).size = 3 := rfl
    have st : (⟨#[32, 42, 32]⟩ : ByteArray).size = 3 := rfl
    rcases (show t.f0 = 4 ∨ t.f0 = 2 ∨ t.f0 = 5 ∨ t.f0 = 6 ∨ t.f0 = 7 ∨ t.f0 = 8 ∨ (t.f0 = 1 ∨ t.f0 = 3) by omega) with h4 | h2 | h5 | h6 | h7 | h8 | h13
    · -- a number
      obtain ⟨s, e1, e2, e3⟩ := num_ev t.f2 o1
      refine ⟨s, ?_, ref_f t names s ?_, by omega⟩
      · refine Ev.step ?_
        simp only [show_text.f]
        exact Ev.bind (Ev.of_eq harg) (Ev.pos h4 (Ev.bind (Ev.of_eq e1) (Ev.const _)))
      · rw [decide_eq_false (show ¬ (t.f0 = 1 ∨ t.f0 = 3) by omega)]
        refine Ev.step ?_
        simp only [sequiturref14_term.j0]
        exact Ev.neg (by simp) (Ev.neg (by omega) (Ev.pos h4 (Ev.bind e2 (Ev.const _))))
    · -- a binder
      have h0 := r3 h2
      obtain ⟨u1, u2⟩ := o1
      have el : wrap64 ((names.length : Int) - 1) = (names.length : Int) - 1 := IntWalk.wrap64_in _ (by omega)
      by_cases hin : t.f2 < (names.length : Int)
      · obtain ⟨q, hq⟩ : ∃ q : Nat, (names.length : Int) - 1 - t.f2 = (q : Int) := ⟨((names.length : Int) - 1 - t.f2).toNat, by omega⟩
        have ei : wrap64 ((names.length : Int) - 1 - t.f2) = (q : Int) := by rw [IntWalk.wrap64_in _ (by omega)]; exact hq
        have hq2 : q < names.length := by omega
        have hs := hnames _ (List.getElem_mem hq2)
        refine ⟨names[q], ?_, ref_f t names _ ?_, by omega⟩
        · refine Ev.step ?_
          simp only [show_text.f]
          refine Ev.bind (Ev.of_eq harg) (Ev.neg (by omega) (Ev.pos h2 (Ev.pos (by omega) (Ev.step ?_))))
          simp only [show_text.j0]
          rw [el, ei, rdOf_nat _ _ _ hq2]
          exact Ev.pos (by simp [hin]) (Ev.pos (by omega) (Ev.pos (by omega) (Ev.const _)))
        · rw [decide_eq_false (show ¬ (t.f0 = 1 ∨ t.f0 = 3) by omega)]
          refine Ev.step ?_
          simp only [sequiturref14_term.j0]
          rw [el, ei, rdOf_nat _ _ _ hq2]
          exact Ev.neg (by simp) (Ev.pos h2 (Ev.pos hin (Ev.pos (by omega) (Ev.pos (by omega) (Ev.const _)))))
      · have ew : wrap64 (t.f2 - (names.length : Int)) = t.f2 - (names.length : Int) := IntWalk.wrap64_in _ (by omega)
        obtain ⟨s, e1, e2, e3⟩ := num_ev (t.f2 - (names.length : Int)) ⟨by omega, by omega⟩
        refine ⟨(⟨#[39]⟩ : ByteArray) ++ s, ?_, ref_f t names _ ?_, by rw [ByteArray.size_append]; omega⟩
        · refine Ev.step ?_
          simp only [show_text.f]
          refine Ev.bind (Ev.of_eq harg) (Ev.neg (by omega) (Ev.pos h2 (Ev.pos (by omega) (Ev.step ?_))))
          simp only [show_text.j0]
          rw [ew]
          exact Ev.neg (by simp; omega) (Ev.bind (Ev.of_eq e1) (Ev.pos (by omega) (Ev.const _)))
        · rw [decide_eq_false (show ¬ (t.f0 = 1 ∨ t.f0 = 3) by omega)]
          refine Ev.step ?_
          simp only [sequiturref14_term.j0]
          rw [ew]
          exact Ev.neg (by simp) (Ev.pos h2 (Ev.neg hin (Ev.bind e2 (Ev.pos (by omega) (Ev.const _)))))
    · -- a sum
      have hl := r4 h5
      have g0 : 0 < t.f3.length := by omega
      have g1 : 1 < t.f3.length := by omega
      have w0 := wT_mem g0
      have w1 := wT_mem g1
      have ww : wT t.f3[0] + wT t.f3[1] ≤ wTs t.f3 := by
        have d0 : wTs t.f3 = wT t.f3[0] + wTs (t.f3.drop 1) := by
          have := wTs_drop (l := t.f3) (i := 0) g0
          rwa [List.drop_zero] at this
        have d1 : wTs (t.f3.drop 1) = wT t.f3[1] + wTs (t.f3.drop 2) := wTs_drop (l := t.f3) (i := 1) g1
        omega
      obtain ⟨sa, a1, a2, a3⟩ := each 0 g0 names hnames hlen
      obtain ⟨sb, b1, b2, b3⟩ := each 1 g1 names hnames hlen
      have za := sideOf_size t.f3[0] sa false
      have zb := sideOf_size t.f3[1] sb (sumB t.f3[1])
      refine ⟨(sideOf t.f3[0] sa false ++ (⟨#[32, 43, 32]⟩ : ByteArray)) ++ sideOf t.f3[1] sb (sumB t.f3[1]), ?_, ref_f t names _ ?_, by simp only [ByteArray.size_append]; omega⟩
      · refine Ev.step ?_
        simp only [show_text.f]
        refine Ev.bind (Ev.of_eq (arg_at _ _ _ _ g0)) (Ev.neg (by omega) (Ev.neg (by omega) (Ev.pos h5 ?_)))
        refine Ev.bind (side_show t.f3[0] names sa false a1 (by omega)) (Ev.pos (by omega) ?_)
        refine Ev.bind (Ev.of_eq (arg_at _ _ _ _ g1)) (Ev.bind (Ev.of_eq (arg_at _ _ _ _ g1)) (Ev.bind (Ev.of_eq (sum_show t.f3[1])) ?_))
        exact Ev.bind (side_show t.f3[1] names sb _ b1 (by omega)) (Ev.pos (by simp only [ByteArray.size_append]; omega) (Ev.const _))
      · rw [decide_eq_false (show ¬ (t.f0 = 1 ∨ t.f0 = 3) by omega)]
        refine Ev.step ?_
        simp only [sequiturref14_term.j0]
        rw [rd0 g0, rd1 g1]
        refine Ev.neg (by simp) (Ev.neg (by omega) (Ev.neg (by omega) (Ev.pos h5 (Ev.pos (by omega) ?_))))
        refine Ev.bind (side_ref t.f3[0] names sa false a2 (by omega)) (Ev.pos (by omega) (Ev.pos (by omega) (Ev.bind (Ev.of_eq (sum_ref t.f3[1])) ?_)))
        exact Ev.bind (side_ref t.f3[1] names sb _ b2 (by omega)) (Ev.pos (by simp only [ByteArray.size_append]; omega) (Ev.const _))
    · -- a difference
      have hl := r5 h6
      have g0 : 0 < t.f3.length := by omega
      have g1 : 1 < t.f3.length := by omega
      have w0 := wT_mem g0
      have w1 := wT_mem g1
      have ww : wT t.f3[0] + wT t.f3[1] ≤ wTs t.f3 := by
        have d0 : wTs t.f3 = wT t.f3[0] + wTs (t.f3.drop 1) := by
          have := wTs_drop (l := t.f3) (i := 0) g0
          rwa [List.drop_zero] at this
        have d1 : wTs (t.f3.drop 1) = wT t.f3[1] + wTs (t.f3.drop 2) := wTs_drop (l := t.f3) (i := 1) g1
        omega
      obtain ⟨sa, a1, a2, a3⟩ := each 0 g0 names hnames hlen
      obtain ⟨sb, b1, b2, b3⟩ := each 1 g1 names hnames hlen
      have za := sideOf_size t.f3[0] sa false
      have zb := sideOf_size t.f3[1] sb (sumB t.f3[1])
      refine ⟨(sideOf t.f3[0] sa false ++ (⟨#[32, 45, 32]⟩ : ByteArray)) ++ sideOf t.f3[1] sb (sumB t.f3[1]), ?_, ref_f t names _ ?_, by simp only [ByteArray.size_append]; omega⟩
      · refine Ev.step ?_
        simp only [show_text.f]
        refine Ev.bind (Ev.of_eq (arg_at _ _ _ _ g0)) (Ev.neg (by omega) (Ev.neg (by omega) (Ev.neg (by omega) (Ev.pos h6 ?_))))
        refine Ev.bind (side_show t.f3[0] names sa false a1 (by omega)) (Ev.pos (by omega) ?_)
        refine Ev.bind (Ev.of_eq (arg_at _ _ _ _ g1)) (Ev.bind (Ev.of_eq (arg_at _ _ _ _ g1)) (Ev.bind (Ev.of_eq (sum_show t.f3[1])) ?_))
        exact Ev.bind (side_show t.f3[1] names sb _ b1 (by omega)) (Ev.pos (by simp only [ByteArray.size_append]; omega) (Ev.const _))
      · rw [decide_eq_false (show ¬ (t.f0 = 1 ∨ t.f0 = 3) by omega)]
        refine Ev.step ?_
        simp only [sequiturref14_term.j0]
        rw [rd0 g0, rd1 g1]
        refine Ev.neg (by simp) (Ev.neg (by omega) (Ev.neg (by omega) (Ev.neg (by omega) (Ev.pos h6 (Ev.pos (by omega) ?_)))))
        refine Ev.bind (side_ref t.f3[0] names sa false a2 (by omega)) (Ev.pos (by omega) (Ev.pos (by omega) (Ev.bind (Ev.of_eq (sum_ref t.f3[1])) ?_)))
        exact Ev.bind (side_ref t.f3[1] names sb _ b2 (by omega)) (Ev.pos (by simp only [ByteArray.size_append]; omega) (Ev.const _))
    · -- a negation
      have hl := r6 h7
      have g0 : 0 < t.f3.length := by omega
      have w0 := wT_mem g0
      obtain ⟨sa, a1, a2, a3⟩ := each 0 g0 names hnames hlen
      obtain ⟨b, hb⟩ : ∃ b : Bool, b = decide (t.f3[0].f0 = 4 ∨ t.f3[0].f0 = 5 ∨ t.f3[0].f0 = 6 ∨ t.f3[0].f0 = 8) := ⟨_, rfl⟩
      have za := sideOf_size t.f3[0] sa b
      have hsum : sumB t.f3[0] = true ↔ (t.f3[0].f0 = 5 ∨ t.f3[0].f0 = 6) := by unfold sumB; simp
      have e1 := side_show t.f3[0] names sa b a1 (by omega)
      have e2 := side_ref t.f3[0] names sa b a2 (by omega)
      refine ⟨(⟨#[45]⟩ : ByteArray) ++ sideOf t.f3[0] sa b, ?_, ref_f t names _ ?_, by simp only [ByteArray.size_append]; omega⟩
      · refine Ev.step ?_
        simp only [show_text.f]
        refine Ev.bind (Ev.of_eq (arg_at _ _ _ _ g0)) (Ev.neg (by omega) (Ev.neg (by omega) (Ev.neg (by omega) (Ev.neg (by omega) (Ev.pos h7 ?_)))))
        by_cases q4 : t.f3[0].f0 = 4
        · have : b = true := by rw [hb]; exact decide_eq_true (.inl q4)
          rw [this] at e1 za ⊢
          exact Ev.pos q4 (Ev.bind e1 (Ev.pos (by omega) (Ev.const _)))
        · refine Ev.neg q4 (Ev.bind (Ev.of_eq (sum_show t.f3[0])) ?_)
          by_cases qs : sumB t.f3[0] = true
          · have : b = true := by rw [hb]; exact decide_eq_true (by have := hsum.1 qs; omega)
            rw [this] at e1 za ⊢
            exact Ev.pos qs (Ev.bind e1 (Ev.pos (by omega) (Ev.const _)))
          · have hq : ¬ (t.f3[0].f0 = 5 ∨ t.f3[0].f0 = 6) := fun e => qs (hsum.2 e)
            have e8 : (t.f3[0].f0 == 8) = b := by
              rw [hb]
              by_cases q8 : t.f3[0].f0 = 8
              · simp [q8]
              · rw [beq_eq_false_iff_ne.mpr q8]
                exact (decide_eq_false (by omega)).symm
            refine Ev.neg qs ?_
            show Ev (fun k => (show_side.f k t.f3[0].f0 t.f3[0].f1 t.f3[0].f2 t.f3[0].f3 names (t.f3[0].f0 == 8)).bind _) _
            rw [e8]
            refine Ev.bind e1 ?_
            exact Ev.pos (by omega) (Ev.const _)
      · rw [decide_eq_false (show ¬ (t.f0 = 1 ∨ t.f0 = 3) by omega)]
        refine Ev.step ?_
        simp only [sequiturref14_term.j0]
        rw [rd0 g0]
        refine Ev.neg (by simp) (Ev.neg (by omega) (Ev.neg (by omega) (Ev.neg (by omega) (Ev.neg (by omega) (Ev.pos h7 (Ev.pos (by omega) (Ev.bind (Ev.of_eq (sum_ref t.f3[0])) ?_)))))))
        by_cases qs : sumB t.f3[0] = true
        · have : b = true := by rw [hb]; exact decide_eq_true (by have := hsum.1 qs; omega)
          rw [this] at e2 za ⊢
          exact Ev.pos qs (Ev.bind e2 (Ev.pos (by omega) (Ev.const _)))
        · have hq : ¬ (t.f3[0].f0 = 5 ∨ t.f3[0].f0 = 6) := fun e => qs (hsum.2 e)
          refine Ev.neg qs ?_
          by_cases q8 : t.f3[0].f0 = 8
          · have : b = true := by rw [hb]; exact decide_eq_true (by omega)
            rw [this] at e2 za ⊢
            exact Ev.pos q8 (Ev.bind e2 (Ev.pos (by omega) (Ev.const _)))
          · have e4 : (t.f3[0].f0 == 4) = b := by
              rw [hb]
              by_cases q4 : t.f3[0].f0 = 4
              · simp [q4]
              · rw [beq_eq_false_iff_ne.mpr q4]
                exact (decide_eq_false (by omega)).symm
            refine Ev.neg q8 ?_
            rw [e4]
            refine Ev.bind e2 ?_
            exact Ev.pos (by omega) (Ev.const _)
    · -- a product
      have hl := r7 h8
      have g0 : 0 < t.f3.length := by omega
      have w0 := wT_mem g0
      obtain ⟨sa, a1, a2, a3⟩ := each 0 g0 names hnames hlen
      obtain ⟨b, hb⟩ : ∃ b : Bool, b = decide (t.f3[0].f0 = 5 ∨ t.f3[0].f0 = 6 ∨ t.f3[0].f0 = 8) := ⟨_, rfl⟩
      have za := sideOf_size t.f3[0] sa b
      have hsum : sumB t.f3[0] = true ↔ (t.f3[0].f0 = 5 ∨ t.f3[0].f0 = 6) := by unfold sumB; simp
      have e1 := side_show t.f3[0] names sa b a1 (by omega)
      have e2 := side_ref t.f3[0] names sa b a2 (by omega)
      obtain ⟨sn, d1, d2, d3⟩ := num_ev t.f2 o1
      obtain ⟨tn, htn⟩ : ∃ tn : S53, tn = ⟨4, ⟨#[]⟩, t.f2, []⟩ := ⟨_, rfl⟩
      have hn0 : tn.f0 = 4 := by rw [htn]
      have hn2 : tn.f2 = t.f2 := by rw [htn]
      have en : Ev (fun k => show_text.f k tn.f0 tn.f1 tn.f2 tn.f3 ([] : List ByteArray)) sn := by
        obtain ⟨bn, hbn⟩ := arg_any tn.f0 tn.f1 tn.f2 tn.f3
        refine Ev.step ?_
        simp only [show_text.f]
        refine Ev.bind (Ev.of_eq hbn) (Ev.pos hn0 (Ev.bind (Ev.of_eq (r := sn) (by rw [hn2]; exact d1)) (Ev.const _)))
      have en2 := side_show tn [] sn false en (by omega)
      have zn := sideOf_size tn sn false
      have hside : sideOf tn sn false = if t.f2 < 0 then par sn else sn := by
        unfold sideOf
        rw [hn0, hn2]
        simp
      rw [htn] at en2
      refine ⟨(sideOf tn sn false ++ (⟨#[32, 42, 32]⟩ : ByteArray)) ++ sideOf t.f3[0] sa b, ?_, ref_f t names _ ?_, by simp only [ByteArray.size_append]; omega⟩
      · refine Ev.step ?_
        simp only [show_text.f]
        refine Ev.bind (Ev.of_eq (arg_at _ _ _ _ g0)) (Ev.neg (by omega) (Ev.neg (by omega) (Ev.neg (by omega) (Ev.neg (by omega) (Ev.neg (by omega) (Ev.pos h8 ?_))))))
        rw [← htn] at en2
        refine Ev.bind (a := sideOf tn sn false) (by rw [htn] at en2; rw [htn]; exact en2) (Ev.pos (by omega) (Ev.bind (Ev.of_eq (sum_show t.f3[0])) ?_))
        by_cases qs : sumB t.f3[0] = true
        · have : b = true := by rw [hb]; exact decide_eq_true (by have := hsum.1 qs; omega)
          rw [this] at e1 za ⊢
          exact Ev.pos qs (Ev.bind e1 (Ev.pos (by simp only [ByteArray.size_append]; omega) (Ev.const _)))
        · have hq : ¬ (t.f3[0].f0 = 5 ∨ t.f3[0].f0 = 6) := fun e => qs (hsum.2 e)
          have e8 : (t.f3[0].f0 == 8) = b := by
            rw [hb]
            by_cases q8 : t.f3[0].f0 = 8
            · simp [q8]
            · rw [beq_eq_false_iff_ne.mpr q8]
              exact (decide_eq_false (by omega)).symm
          refine Ev.neg qs ?_
          show Ev (fun k => (show_side.f k t.f3[0].f0 t.f3[0].f1 t.f3[0].f2 t.f3[0].f3 names (t.f3[0].f0 == 8)).bind _) _
          rw [e8]
          refine Ev.bind e1 ?_
          exact Ev.pos (by simp only [ByteArray.size_append]; omega) (Ev.const _)
      · rw [decide_eq_false (show ¬ (t.f0 = 1 ∨ t.f0 = 3) by omega)]
        have j1 : Ev (fun k => sequiturref14_term.j1 k names (sideOf tn sn false) t.f0 t.f1 t.f2 t.f3) ((sideOf tn sn false ++ (⟨#[32, 42, 32]⟩ : ByteArray)) ++ sideOf t.f3[0] sa b) := by
          refine Ev.step ?_
          simp only [sequiturref14_term.j1]
          rw [rd0 g0]
          refine Ev.pos (by omega) (Ev.pos (by omega) (Ev.bind (Ev.of_eq (sum_ref t.f3[0])) ?_))
          by_cases qs : sumB t.f3[0] = true
          · have : b = true := by rw [hb]; exact decide_eq_true (by have := hsum.1 qs; omega)
            rw [this] at e2 za ⊢
            exact Ev.pos qs (Ev.bind e2 (Ev.pos (by simp only [ByteArray.size_append]; omega) (Ev.const _)))
          · have hq : ¬ (t.f3[0].f0 = 5 ∨ t.f3[0].f0 = 6) := fun e => qs (hsum.2 e)
            have e8 : (t.f3[0].f0 == 8) = b := by
              rw [hb]
              by_cases q8 : t.f3[0].f0 = 8
              · simp [q8]
              · rw [beq_eq_false_iff_ne.mpr q8]
                exact (decide_eq_false (by omega)).symm
            refine Ev.neg qs ?_
            rw [e8]
            refine Ev.bind e2 ?_
            exact Ev.pos (by simp only [ByteArray.size_append]; omega) (Ev.const _)
        refine Ev.step ?_
        simp only [sequiturref14_term.j0]
        refine Ev.neg (by simp) (Ev.neg (by omega) (Ev.neg (by omega) (Ev.neg (by omega) (Ev.neg (by omega) (Ev.neg (by omega) (Ev.bind d2 ?_))))))
        rw [hside] at j1 ⊢
        by_cases q0 : t.f2 < 0
        · rw [if_pos q0] at j1 ⊢
          exact Ev.pos q0 (Ev.bind (Ev.of_eq (brackets_eq sn (by omega))) j1)
        · rw [if_neg q0] at j1 ⊢
          exact Ev.neg q0 j1
    · -- a name
      obtain ⟨S, hS⟩ : ∃ S : Nat → ByteArray, ∀ i (hi : i < t.f3.length), Ev (fun k => show_text.f k t.f3[i].f0 t.f3[i].f1 t.f3[i].f2 t.f3[i].f3 names) (S i) ∧ Ev (fun k => sequiturref14_term.f k t.f3[i].f0 t.f3[i].f1 t.f3[i].f2 t.f3[i].f3 names) (S i) ∧ (S i).size + 100 ≤ 300 * wT t.f3[i] := by
        have : ∀ i, ∃ s : ByteArray, ∀ (hi : i < t.f3.length), Ev (fun k => show_text.f k t.f3[i].f0 t.f3[i].f1 t.f3[i].f2 t.f3[i].f3 names) s ∧ Ev (fun k => sequiturref14_term.f k t.f3[i].f0 t.f3[i].f1 t.f3[i].f2 t.f3[i].f3 names) s ∧ s.size + 100 ≤ 300 * wT t.f3[i] := by
          intro i
          by_cases hi : i < t.f3.length
          · obtain ⟨s, q⟩ := each i hi names hnames hlen
            exact ⟨s, fun _ => q⟩
          · exact ⟨⟨#[]⟩, fun h => absurd h hi⟩
        exact ⟨fun i => Classical.choose (this i), fun i hi => Classical.choose_spec (this i) hi⟩
      have hJ : ∀ i, i ≤ t.f3.length → (joinT (pre S i)).size ≤ 300 * wTs t.f3 := fun i hi => by
        have h1 := join_pre_size S t.f3 (fun i hi => (hS i hi).2.2) i hi
        have h2 := wTs_take_le t.f3 i
        omega
      have hJl := hJ t.f3.length (Nat.le_refl _)
      have hz : (appOf t.f1 S t.f3.length).size + 100 ≤ 300 * wT t := by
        unfold appOf
        split
        · omega
        · rw [ByteArray.size_append, par_size]
          omega
      refine ⟨appOf t.f1 S t.f3.length, ?_, ref_f t names _ ?_, hz⟩
      · refine Ev.step ?_
        simp only [show_text.f]
        refine Ev.bind (Ev.of_eq harg) (Ev.neg (by omega) (Ev.neg (by omega) (Ev.neg (by omega) (Ev.neg (by omega) (Ev.neg (by omega) (Ev.neg (by omega) ?_))))))
        exact Ev.bind (app_show t.f1 t.f3 names S (by omega) (by omega) (by omega) (fun i hi => (hS i hi).1)) (Ev.const _)
      · rw [decide_eq_true h13]
        refine Ev.step ?_
        simp only [sequiturref14_term.j0]
        refine Ev.pos (by simp) ?_
        unfold appOf at hz ⊢
        by_cases hl0 : t.f3.length = 0
        · rw [if_pos hl0]
          exact Ev.pos (by omega) (Ev.const _)
        · rw [if_neg hl0] at hz ⊢
          refine Ev.neg (by omega) (Ev.bind (list_ref t.f3 names S (by omega) (fun i hi => by have := hJ i hi; omega) (fun i hi => by have := (hS i hi).2.2; have := wT_mem hi; omega) (fun i hi => (hS i hi).2.1)) ?_)
          rw [ByteArray.size_append] at hz
          exact Ev.bind (Ev.of_eq (brackets_eq _ (by omega))) (Ev.pos (by omega) (Ev.const _))
end Go.Proofs.YtmlkllbaehegjaaDoor.PAll
end
section
namespace Go.Proofs.YtmlkllbaehegjaaDoor.PAll
open Go.RowKit Go.Proofs.YtmlkllbaehegjaaDoorW.PrintWords Go.Proofs.YtmlkllbaehegjaaDoorW.PrintLast Go.Proofs.YtmlkllbaehegjaaDoorW.PrintMore
attribute [local go_sem] max2_int min2_int max_two min_two max_three min_three max_four min_four
set_option linter.unusedVariables false
set_option linter.unusedSimpArgs false
/-- A state of type 62 at block g of W; what its slices lead to came in by w0. -/
def IsS62 (w0 W : World) (g : Nat) (f0 : List ByteArray) : Prop := ∃ A0 c0, W.heap[g]? = some (.cells #[.slice A0 f0.length c0] 62 (0, 0)) ∧ True ∧ Kd.C Kd.string w0 A0 f0.length f0
theorem IsS62.grown {w0 W : World} {g : Nat} {f0 : List ByteArray} {W1 : World} {row : Option Nat} (h : IsS62 w0 W g f0) (hw : W.grownBy W1 row) (hne : some g ≠ row) : IsS62 w0 W1 g f0 := by
  obtain ⟨A0, c0, hb, hg, hr0⟩ := h; exact ⟨A0, c0, blk_grown hb hw hne, hg, hr0⟩
theorem IsS62.fresh {w0 W : World} {g : Nat} {f0 : List ByteArray} (h : IsS62 w0 W g f0) : ∀ k, W.heap.size ≤ k → k ≠ g := by
  obtain ⟨A0, c0, hb, hg, hr0⟩ := h; exact Kd.freshB hb
theorem IsS62.kept {w0 W : World} {g : Nat} {f0 : List ByteArray} {W1 : World} {S : Nat → Prop} (h : IsS62 w0 W g f0) (hk : Kept W W1 S) (hne : ¬ S g) : IsS62 w0 W1 g f0 := by
  obtain ⟨A0, c0, hb, hg, hr0⟩ := h; exact ⟨A0, c0, blk_kept hb hk hne, hg, hr0⟩
theorem IsS62.below {w0 W : World} {g : Nat} {f0 : List ByteArray} {W1 : World} (h : IsS62 w0 W g f0) (hw : Below W.heap.size W W1) : IsS62 w0 W1 g f0 := h.grown (grown_of_below hw none) (by simp)
theorem IsS62.alloc {w0 W : World} {g : Nat} {f0 : List ByteArray} (h : IsS62 w0 W g f0) (o : Obj) : IsS62 w0 (W.alloc o) g f0 := h.below (below_alloc (Below.refl _ _) o)
theorem IsS62.drewN {w0 W : World} {g : Nat} {f0 : List ByteArray} (h : IsS62 w0 W g f0) (m : Nat) : IsS62 w0 (W.drewN m) g f0 := h
theorem IsS62.drew {w0 W : World} {g : Nat} {f0 : List ByteArray} (h : IsS62 w0 W g f0) : IsS62 w0 W.drew g f0 := h
theorem IsS62.at_ {w0 W : World} {g : Nat} {f0 : List ByteArray} {w' : World} {m : Nat} (hq : W.drewN m = w') (h : IsS62 w0 W g f0) : IsS62 w0 w' g f0 := by subst hq; exact IsS62.drewN h m
theorem IsS62.apart {w0 W : World} {g : Nat} {f0 : List ByteArray} {α : Type} {d : Kd α} {e : Nat} {base : Nat} {ok : Nat → Prop} {v : Value} {xs : List α} (h : IsS62 w0 W g f0) (ho : d.R e W base ok v xs) (ht : ∀ q, q ∈ e :: d.E → q ≠ 62) : d.R e W base (fun k => ok k ∧ k ≠ g) v xs := by
  obtain ⟨A0, c0, hb, hg, hr0⟩ := h; exact Kd.R_types ho hb ht
theorem IsS62.own_ne {w0 W : World} {g : Nat} {f0 : List ByteArray} {α : Type} {d : Kd α} {e : Nat} {base : Nat} {ok : Nat → Prop} {v : Value} {xs : List α} (h : IsS62 w0 W g f0) (ho : d.R e W base ok v xs) (ht : e ≠ 62) : some g ≠ v.ownBlock := by
  obtain ⟨A0, c0, hb, hg, hr0⟩ := h; exact Kd.R_ne ho hb ht
theorem IsS62.lt {w0 W : World} {g : Nat} {f0 : List ByteArray} (h : IsS62 w0 W g f0) : g < W.heap.size := by
  obtain ⟨A0, c0, hb, hg, hr0⟩ := h; exact blk_lt hb
theorem IsS62.far {w0 W : World} {g : Nat} {f0 : List ByteArray} {p : Addr} (h : IsS62 w0 W g f0) (hne : g ≠ p.block) (u : Value) : IsS62 w0 (W.setCell p u) g f0 := by
  obtain ⟨A0, c0, hb, hg, hr0⟩ := h; exact ⟨A0, c0, blk_far hb hne u, hg, hr0⟩
end Go.Proofs.YtmlkllbaehegjaaDoor.PAll
end
section
/- (*shower).term, (*shower).claim: they append to the state's slice. -/
namespace Go.Proofs.YtmlkllbaehegjaaDoor.PAll
open Go.RowKit Go.Proofs.YtmlkllbaehegjaaDoorW.PrintWords Go.Proofs.YtmlkllbaehegjaaDoorW.PrintLast Go.Proofs.YtmlkllbaehegjaaDoorW.PrintMore
open Go.Proofs.YtmlkllbaehegjaaDoor
set_option linter.unusedVariables false
set_option linter.unusedSimpArgs false
/-- The state of type 62 at block g; its slice is its own, made behind w0. -/
def OwnS62 (w0 W : World) (g : Nat) (f0 : List ByteArray) : Prop := ∃ A0 c0, W.heap[g]? = some (.cells #[.slice A0 f0.length c0] 62 (0, 0)) ∧ w0.heap.size ≤ g ∧ Kd.R Kd.string 9 W w0.heap.size (fun k => k ≠ g) (.slice A0 f0.length c0) f0
/-- What is neither a state nor a row of strings is as it was. -/
def KeepT (w W : World) : Prop := ∀ (i : Nat) (cs : Array Value) (t : TypeId), w.heap[i]? = some (.cells cs t (0, 0)) → t ≠ 62 → t ≠ 9 → W.heap[i]? = some (.cells cs t (0, 0))
theorem KeepT.refl (w : World) : KeepT w w := fun _ _ _ h _ _ => h
theorem KeepT.trans {w W W2 : World} (h : KeepT w W) (h2 : KeepT W W2) : KeepT w W2 := fun i cs t hb h62 h9 => h2 i cs t (h i cs t hb h62 h9) h62 h9
theorem KeepT.alloc {w W : World} (h : KeepT w W) (o : Obj) : KeepT w (W.alloc o) := fun i cs t hb h62 h9 => blk_alloc (h i cs t hb h62 h9) o
theorem KeepT.drew {w W : World} (h : KeepT w W) : KeepT w W.drew := h
theorem KeepT.below {w W W2 : World} (h : KeepT w W) (hb : Below W.heap.size W W2) : KeepT w W2 := fun i cs t hi h62 h9 => blk_below (h i cs t hi h62 h9) hb
theorem OwnS62.alloc {w0 W : World} {g : Nat} {f0 : List ByteArray} (h : OwnS62 w0 W g f0) (o : Obj) : OwnS62 w0 (W.alloc o) g f0 := by
  obtain ⟨A0, c0, hb, hg, hr⟩ := h
  exact ⟨A0, c0, blk_alloc hb o, hg, Kd.R_alloc hr o⟩
theorem OwnS62.drew {w0 W : World} {g : Nat} {f0 : List ByteArray} (h : OwnS62 w0 W g f0) : OwnS62 w0 W.drew g f0 := by
  obtain ⟨A0, c0, hb, hg, hr⟩ := h
  exact ⟨A0, c0, hb, hg, Kd.R_drew hr⟩
theorem OwnS62.below {w0 W W2 : World} {g : Nat} {f0 : List ByteArray} (h : OwnS62 w0 W g f0) (hb2 : Below W.heap.size W W2) : OwnS62 w0 W2 g f0 := by
  obtain ⟨A0, c0, hb, hg, hr⟩ := h
  exact ⟨A0, c0, blk_below hb hb2, hg, Kd.R_below hr hb2⟩
/-- A store of the new slice into the state. -/
theorem OwnS62.put {w0 W W1 : World} {g : Nat} {f0 f1 : List ByteArray} {A0 : Option Addr} {c0 : Nat} {v1 : Value} (hb : W.heap[g]? = some (.cells #[.slice A0 f0.length c0] 62 (0, 0))) (hg : w0.heap.size ≤ g)
    (hgr : W.grownBy W1 (.slice A0 f0.length c0 : Value).ownBlock) (hne : some g ≠ (.slice A0 f0.length c0 : Value).ownBlock) (hr : Kd.R Kd.string 9 W1 w0.heap.size (fun k => k ≠ g) v1 f1) : OwnS62 w0 (W1.setCell ⟨g, 0, none⟩ v1) g f1 := by
  obtain ⟨A1, c1, rfl⟩ := Kd.R_slice hr
  have hb1 := blk_grown hb hgr hne
  refine ⟨A1, c1, ?_, hg, Kd.R_far hr (p := ⟨g, 0, none⟩) (fun k hk => hk) _⟩
  exact blk_put hb1 0 _ rfl
theorem KeepT.put {w W W1 : World} {g : Nat} {f0 : List ByteArray} {A0 : Option Addr} {c0 : Nat} {base : Nat} {ok : Nat → Prop} {v1 : Value} (h : KeepT w W) (hb : W.heap[g]? = some (.cells #[.slice A0 f0.length c0] 62 (0, 0)))
    (hr : Kd.R Kd.string 9 W base ok (.slice A0 f0.length c0) f0) (hgr : W.grownBy W1 (.slice A0 f0.length c0 : Value).ownBlock) : KeepT w (W1.setCell ⟨g, 0, none⟩ v1) := by
  intro i cs t hi h62 h9
  have h1 := h i cs t hi h62 h9
  have h2 := blk_grown h1 hgr (Kd.R_ne hr h1 (fun e => h9 e.symm))
  refine blk_far h2 ?_ _
  rintro rfl
  rw [hb] at h1
  injection h1 with h1
  injection h1 with _ ht _
  exact h62 ht.symm
theorem ne_types {w : World} {g1 g2 : Nat} {c1 c2 : Array Value} {t1 t2 : TypeId} (h1 : w.heap[g1]? = some (.cells c1 t1 (0, 0))) (h2 : w.heap[g2]? = some (.cells c2 t2 (0, 0))) (ht : t1 ≠ t2) : g1 ≠ g2 := by
  rintro rfl
  rw [h1] at h2
  injection h2 with h2
  injection h2 with _ h3 _
  exact ht h3
theorem fresh_ne {w : World} {g k : Nat} {o : Obj} (h : w.heap[g]? = some o) (hk : w.heap.size ≤ k) (e : k = g) : False := by
  have := blk_lt h
  omega
theorem lim16 {n : Nat} (h : n < 8796093022208) : (n + 1) * 16 ≤ 140737488355328 := by omega
mutual
def shower_term.l0 : Nat → List ByteArray → List S53 → Int → Option (List ByteArray)
  | 0, _, _, _ => none
  | k + 1, s, l, i => if i < (l.length : Int) then (if 0 ≤ i then ((shower_term.f k s ((rd_T53 l i).f0) ((rd_T53 l i).f1) ((rd_T53 l i).f2) ((rd_T53 l i).f3)).bind fun t => shower_term.l0 k t l (wrap64 (i + 1))) else none) else some s
def shower_term.f : Nat → List ByteArray → Int → ByteArray → Int → List S53 → Option (List ByteArray)
  | 0, _, _, _, _, _ => none
  | k + 1, s, a0, a1, _, l => if a0 = 1 ∨ a0 = 3 then (if s.length < 8796093022208 then shower_term.l0 k (s ++ [a1]) l 0 else none) else shower_term.l0 k s l 0
end
set_option maxHeartbeats 2000000 in
set_option maxRecDepth 100000 in
theorem shower_term.calls (k : Nat) : ∀ (g : Nat) (s : List ByteArray) (a0_0 : Int) (a0_1 : ByteArray) (a0_2 : Int) (A0_3 : Option Addr) (c0_3 : Nat) (l0_3 : List S53) (r : List ByteArray) (w0 w : World) (hI : OwnS62 w0 w g s) (hB : Below w0.heap.size w0 w) (hr0_3 : Kd.C k53 w0 A0_3 l0_3.length l0_3) (hc0_3 : l0_3.length ≤ c0_3) (h : shower_term.f k s a0_0 a0_1 a0_2 l0_3 = some r),
    Calls Tryd.prog 48 #[.pointer (some ⟨g, 0, none⟩), .agg #[.int .i64 a0_0, .string a0_1, .int .i64 a0_2, .slice A0_3 l0_3.length c0_3]] w fun e w' => e = .returned (.tuple #[]) ∧ OwnS62 w0 w' g r ∧ Below w0.heap.size w0 w' ∧ KeepT w w' := by
  induction k using Nat.strongRecOn with
  | _ k ih =>
  intro g s a0_0 a0_1 a0_2 A0_3 c0_3 l0_3 r w0 w hI hB hr0_3 hc0_3 h
  cases k with
  | zero => exact absurd h (by simp [shower_term.f])
  | succ k =>
  simp only [shower_term.f] at h
  have hu53 := Tryd.underlying53
  have HR0_3 := Aside0.mk hr0_3
  have HC0_3 := Aside0.mk hc0_3
  have HB := Aside0.mk hB
  have HI := Aside0.mk hI
  have HK := Aside0.mk (KeepT.refl w)
  have H := Aside0.mk h
  have HS := Aside0.mk hB.size
  clear hr0_3 hc0_3 hB hI h
  go_enter Tryd.func48, Tryd.ntmps48
  go_upto_region 1 with (first | ((with_reducible refine gate_dst (N := 3) rfl ?_); refine box_event ?hg (N := 3) ?hd (cs := #[.int .i64 a0_0, .string a0_1, .int .i64 a0_2, .slice A0_3 l0_3.length c0_3]) (t := 53) ?hr ?_; (case hd => rfl); (case hg => rfl); (case hr => first | (go_simp; done) | (go_simp; rfl)); intro gb hg w3 hbox hb; have n0_ := Aside0.mk (below_then HB.out HS.out hb); have n1_ := Aside0.mk hbox; have n2_ := Aside0.mk (HI.out.below hb); have n3_ := Aside0.mk (HK.out.below hb); have n4_ := Aside0.mk (Nat.le_trans HS.out hb.size); clear HB HI HK HS; have HB := n0_; have BK := n1_; have HI := n2_; have HK := n3_; have HS := n4_; clear n0_ n1_ n2_ n3_ n4_ hb hbox hg))
  have hcz0 : w3.cell? ⟨gb, 0, none⟩ = some (.int .i64 a0_0) := (blk_cell BK.out 0).trans rfl
  have hcz1 : w3.cell? ⟨gb, 1, none⟩ = some (.string a0_1) := (blk_cell BK.out 1).trans rfl
  have hcz3 : w3.cell? ⟨gb, 3, none⟩ = some (.slice A0_3 l0_3.length c0_3) := (blk_cell BK.out 3).trans rfl
  (try simp only [Act.put, List.setIfInBounds_toArray, List.set_cons_zero, List.set_cons_succ])
  go_cut [13] (fun v13 wc => ∃ b : Bool, v13 = .bool b ∧ Aside0 (b = decide (a0_0 = 1 ∨ a0_0 = 3)) ∧ wc = w3)
  case first =>
    by_cases c1 : a0_0 = 1
    · subst c1
      go_wp2
      go_meet
      case rel => exact ⟨true, rfl, ⟨by simp⟩, rfl⟩
    · have c1b : (a0_0 == 1) = false := beq_eq_false_iff_ne.mpr c1
      go_wp2
      go_meet
      case rel => exact ⟨a0_0 == 3, (by first | rfl | simp), ⟨by simp [c1]; by_cases c3 : a0_0 = 3 <;> simp [c3]⟩, rfl⟩
  case rest =>
  obtain ⟨b, rfl, Hb, hw⟩ := hcut
  rw [hw]
  clear hw
  go_upto_if 13 with (fail)
  go_cut [] (fun wc => ∃ (kq : Nat) (xs : List ByteArray), Aside0 (shower_term.l0 kq xs l0_3 0 = some r) ∧ Aside0 (kq ≤ k) ∧ Aside0 (OwnS62 w0 wc g xs) ∧ Aside0 (wc.heap[gb]? = some (.cells #[.int .i64 a0_0, .string a0_1, .int .i64 a0_2, (.slice A0_3 l0_3.length c0_3)] 53 (0, 0))) ∧ Aside0 (Below w0.heap.size w0 wc) ∧ Aside0 (KeepT w wc))
  case first =>
    cases b with
    | true =>
      have hc := of_decide_eq_true Hb.out.symm
      have h1 := H.out
      rw [if_pos hc] at h1
      by_cases hl : s.length < 8796093022208
      · rw [if_pos hl] at h1
        obtain ⟨y, hy⟩ : ∃ y : List ByteArray, y = s ++ [a0_1] := ⟨_, rfl⟩
        rw [← hy] at h1
        have HY := Aside0.mk hy
        have H1 := Aside0.mk h1
        have HL := Aside0.mk hl
        clear h1 H hl hc hy
        obtain ⟨A0, c0, hb0, hg0, hr0⟩ := HI.out
        have hcg : w3.cell? ⟨g, 0, none⟩ = some (.slice A0 s.length c0) := (blk_cell hb0 0).trans rfl
        have HB0 := Aside0.mk hb0
        have HG0 := Aside0.mk hg0
        have HR0 := Aside0.mk hr0
        clear hb0 hg0 hr0
        go_upto_region 2 with (fail)
        have BK4 : Aside0 (w3.drew.heap[gb]? = _) := BK
        have HB4 : Aside0 (Below w0.heap.size w0 w3.drew) := ⟨below_drew1 HB.out⟩
        have HK4 : Aside0 (KeepT w w3.drew) := ⟨HK.out.drew⟩
        have HS4 : Aside0 (w0.heap.size ≤ w3.drew.heap.size) := HS
        have HO4 : Aside0 (Kd.R Kd.string 9 w3.drew w0.heap.size (fun k => k ≠ g) (.slice A0 s.length c0) s) := ⟨Kd.R_drew HR0.out⟩
        have HC4 : Aside0 (w3.drew.heap[g]? = some (.cells #[.slice A0 s.length c0] 62 (0, 0))) := HB0
        clear BK HB HK HS HR0 HB0 HI hcz0 hcz3
        have hca : ∀ o, (w3.alloc o).cell? ⟨g, 0, none⟩ = some (.slice A0 s.length c0) := fun o => (blk_cell (blk_alloc HC4.out o) 0).trans rfl
        have hcb : ∀ o, (w3.alloc o).cell? ⟨gb, 1, none⟩ = some (.string a0_1) := fun o => (blk_cell (blk_alloc BK4.out o) 1).trans rfl
        go_region_law ((refine Kd.R_append_step Kd.string (w0 := w0) w0.heap.size (by rfl) (.tmp 18) (.tmp 21) 22 9 (.string ⟨#[]⟩) 16 rfl Tryd.underlying22 info9 rfl (by decide) (by omega) (.slice A0 s.length c0) s a0_1 [.string a0_1] (fun k => k ≠ g) (fun _ => False) (by rfl) (by rfl) rfl (fun _ hk => hk.elim) (fun k hk e => fresh_ne HC4.out hk e) HO4.out HB4.out HS4.out (lim16 HL.out) ?_; intro v5 w5 ho hb hg hat; rw [← HY.out] at ho; obtain ⟨A5, c5, e5⟩ := Kd.R_slice ho; subst e5; have hcg5 : w5.cell? ⟨g, 0, none⟩ = some (.slice A0 s.length c0) := (blk_cell (blk_grown HC4.out hg (Kd.R_ne HO4.out HC4.out (by decide))) 0).trans rfl; have hfg5 := blk_frozen (blk_grown HC4.out hg (Kd.R_ne HO4.out HC4.out (by decide))) 0; have HG5 := Aside0.mk hg; have HO5 := Aside0.mk ho; have HB5 := Aside0.mk hb; clear ho hb hg hat))
        all_goals (go_wp2; go_meet; case rel => exact ⟨k, y, H1, ⟨Nat.le_refl _⟩, ⟨OwnS62.put HC4.out HG0.out HG5.out (Kd.R_ne HO4.out HC4.out (by decide)) HO5.out⟩, ⟨blk_far (blk_grown BK4.out HG5.out (Kd.R_ne HO4.out BK4.out (by decide))) (ne_types BK4.out HC4.out (by decide)) _⟩, ⟨below_set HB5.out HG0.out⟩, ⟨KeepT.put HK4.out HC4.out HO4.out HG5.out⟩⟩)
      · rw [if_neg hl] at h1
        cases h1
    | false =>
      have hc := of_decide_eq_false Hb.out.symm
      have h1 := H.out
      rw [if_neg hc] at h1
      have H1 := Aside0.mk h1
      clear h1 H hc
      go_wp2
      go_meet
      case rel => exact ⟨k, s, H1, ⟨Nat.le_refl _⟩, HI, BK, HB, HK⟩
  case rest =>
    clear HI BK HB HK
    obtain ⟨kq, xs, HA, HJ, HI, BK, HB, HK⟩ := hcut
    have hcy3 : wc.cell? ⟨gb, 3, none⟩ = some (.slice A0_3 l0_3.length c0_3) := (blk_cell BK.out 3).trans rfl
    clear hcz0 hcz1 hcz3 HS H Hb
    go_wp2
    go_loopg [28] kq (fun kr v28 w' => ∃ (x : List ByteArray) (i : Int), v28 = .int .i64 i ∧ Aside0 (shower_term.l0 kr x l0_3 i = some r) ∧ Aside0 (kr ≤ kq) ∧ Aside0 (OwnS62 w0 w' g x) ∧ Aside0 (w'.heap[gb]? = some (.cells #[.int .i64 a0_0, .string a0_1, .int .i64 a0_2, (.slice A0_3 l0_3.length c0_3)] 53 (0, 0))) ∧ Aside0 (Below w0.heap.size w0 w') ∧ Aside0 (KeepT w w'))
    case atStart => exact ⟨xs, 0, rfl, HA, ⟨Nat.le_refl _⟩, HI, BK, HB, HK⟩
    case round =>
      clear HA HI BK HB HK hcy3
      obtain ⟨x, i, rfl, HA, HK1, HI, BK, HB, HK⟩ := hrel
      cases gk with
      | zero => exact absurd HA.out (by simp [shower_term.l0])
      | succ k3 =>
        have H := HA.out
        clear HA
        simp only [shower_term.l0] at H
        by_cases c1 : i < (l0_3.length : Int)
        · rw [if_pos c1] at H
          have c1b : decide (i < (l0_3.length : Int)) = true := decide_eq_true c1
          by_cases c2 : 0 ≤ i
          · rw [if_pos c2] at H
            have c2b : decide (0 ≤ i) = true := decide_eq_true c2
            obtain ⟨t, A1, H⟩ := Option.bind_eq_some_iff.mp H
            have A1 := Aside0.mk A1
            have H := Aside0.mk H
            have HS : Aside0 (w0.heap.size ≤ _) := ⟨HB.out.size⟩
            obtain ⟨ad, A3, c3, e3, hx0, hx1, hx2, hx3, hl3, hi3⟩ := at_T53 HR0_3.out i c2 c1
            cases e3
            replace hx0 := (HB.out.cell (World.block_lt_of_cell? w0 _ hx0)).trans hx0
            replace hx1 := (HB.out.cell (World.block_lt_of_cell? w0 _ hx1)).trans hx1
            replace hx2 := (HB.out.cell (World.block_lt_of_cell? w0 _ hx2)).trans hx2
            replace hx3 := (HB.out.cell (World.block_lt_of_cell? w0 _ hx3)).trans hx3
            have HR3 := Aside0.mk hi3
            have HC3 := Aside0.mk hl3
            clear hi3 hl3
            replace c1 := eq_true c1
            replace c2 := eq_true c2
            go_wp2_with (fail)
            refine (ih k3 (by have := HJ.out; have := HK1.out; omega) g x _ _ _ _ _ _ t w0 _ (HI.out.alloc _) (below_alloc HB.out _) HR3.out HC3.out A1.out).mono ?_
            rintro e w5 ⟨rfl, hI5, hB5, hK5⟩
            have BK5 := Aside0.mk (hK5 gb _ _ (blk_alloc BK.out _) (by decide) (by decide))
            have HI5 := Aside0.mk hI5
            have HB5 := Aside0.mk hB5
            have HK5 := Aside0.mk ((HK.out.alloc _).trans hK5)
            clear hI5 hB5 hK5 HI BK HB HK
            go_wp2_with (fail)
            go_roundg k3
            case measure => have := HK1.out; omega
            case rel => exact ⟨t, wrap64 (i + 1), (by first | rfl | simp), H, ⟨by have := HK1.out; omega⟩, HI5, BK5, HB5, HK5⟩
          · rw [if_neg c2] at H
            cases H
        · rw [if_neg c1] at H
          have c1b : decide (i < (l0_3.length : Int)) = false := decide_eq_false c1
          clear c1
          obtain rfl := Option.some.inj H
          go_wp2
          (first | go_end0 | ((try simp only [Exit.inBlock, Exit.then]); refine bodyPost_ret (results_none rfl _ _ _) rfl ?_))
          exact ⟨rfl, HI.out, HB.out, HK.out⟩
mutual
def shower_claim.l1 : Nat → List ByteArray → List S30 → Int → Option (List ByteArray)
  | 0, _, _, _ => none
  | k + 1, s, l, i => if i < (l.length : Int) then (if 0 ≤ i then ((shower_claim.f k s ((rd_T30 l i).f0) ((rd_T30 l i).f1) ((rd_T30 l i).f2) ((rd_T30 l i).f3) ((rd_T30 l i).f4)).bind fun t => shower_claim.l1 k t l (wrap64 (i + 1))) else none) else some s
def shower_claim.f : Nat → List ByteArray → Int → ByteArray → ByteArray → List S53 → List S30 → Option (List ByteArray)
  | 0, _, _, _, _, _, _ => none
  | k + 1, s, a0, a1, _, l3, l4 => (if a0 = 3 then (if s.length < 8796093022208 then some (s ++ [a1]) else none) else some s).bind fun x => (shower_term.l0 k x l3 0).bind fun y => shower_claim.l1 k y l4 0
end
set_option maxHeartbeats 2000000 in
set_option maxRecDepth 100000 in
theorem shower_claim.calls (k : Nat) : ∀ (g : Nat) (s : List ByteArray) (a0_0 : Int) (a0_1 a0_2 : ByteArray) (A0_3 : Option Addr) (c0_3 : Nat) (l0_3 : List S53) (A0_4 : Option Addr) (c0_4 : Nat) (l0_4 : List S30) (r : List ByteArray) (w0 w : World) (hI : OwnS62 w0 w g s) (hB : Below w0.heap.size w0 w) (hr0_3 : Kd.C k53 w0 A0_3 l0_3.length l0_3) (hc0_3 : l0_3.length ≤ c0_3) (hr0_4 : Kd.C k30 w0 A0_4 l0_4.length l0_4) (hc0_4 : l0_4.length ≤ c0_4) (h : shower_claim.f k s a0_0 a0_1 a0_2 l0_3 l0_4 = some r),
    Calls Tryd.prog 32 #[.pointer (some ⟨g, 0, none⟩), .agg #[.int .i64 a0_0, .string a0_1, .string a0_2, .slice A0_3 l0_3.length c0_3, .slice A0_4 l0_4.length c0_4]] w fun e w' => e = .returned (.tuple #[]) ∧ OwnS62 w0 w' g r ∧ Below w0.heap.size w0 w' ∧ KeepT w w' := by
  induction k using Nat.strongRecOn with
  | _ k ih =>
  intro g s a0_0 a0_1 a0_2 A0_3 c0_3 l0_3 A0_4 c0_4 l0_4 r w0 w hI hB hr0_3 hc0_3 hr0_4 hc0_4 h
  cases k with
  | zero => exact absurd h (by simp [shower_claim.f])
  | succ k =>
  simp only [shower_claim.f] at h
  obtain ⟨x1, h1, h⟩ := Option.bind_eq_some_iff.mp h
  obtain ⟨x2, h2, h3⟩ := Option.bind_eq_some_iff.mp h
  clear h
  have hu30 := Tryd.underlying30
  have hu53 := Tryd.underlying53
  have HR0_3 := Aside0.mk hr0_3
  have HC0_3 := Aside0.mk hc0_3
  have HR0_4 := Aside0.mk hr0_4
  have HC0_4 := Aside0.mk hc0_4
  have HB := Aside0.mk hB
  have HI := Aside0.mk hI
  have HK := Aside0.mk (KeepT.refl w)
  have H := Aside0.mk h1
  have H2 := Aside0.mk h2
  have H3 := Aside0.mk h3
  have HS := Aside0.mk hB.size
  clear hr0_3 hc0_3 hr0_4 hc0_4 hB hI h1 h2 h3
  go_enter Tryd.func32, Tryd.ntmps32
  go_upto_region 1 with (first | ((with_reducible refine gate_dst (N := 3) rfl ?_); refine box_event ?hg (N := 3) ?hd (cs := #[.int .i64 a0_0, .string a0_1, .string a0_2, .slice A0_3 l0_3.length c0_3, .slice A0_4 l0_4.length c0_4]) (t := 30) ?hr ?_; (case hd => rfl); (case hg => rfl); (case hr => first | (go_simp; done) | (go_simp; rfl)); intro gb hg w3 hbox hb; have n0_ := Aside0.mk (below_then HB.out HS.out hb); have n1_ := Aside0.mk hbox; have n2_ := Aside0.mk (HI.out.below hb); have n3_ := Aside0.mk (HK.out.below hb); have n4_ := Aside0.mk (Nat.le_trans HS.out hb.size); clear HB HI HK HS; have HB := n0_; have BK := n1_; have HI := n2_; have HK := n3_; have HS := n4_; clear n0_ n1_ n2_ n3_ n4_ hb hbox hg))
  have hcz0 : w3.cell? ⟨gb, 0, none⟩ = some (.int .i64 a0_0) := (blk_cell BK.out 0).trans rfl
  have hcz1 : w3.cell? ⟨gb, 1, none⟩ = some (.string a0_1) := (blk_cell BK.out 1).trans rfl
  (try simp only [Act.put, List.setIfInBounds_toArray, List.set_cons_zero, List.set_cons_succ])
  go_upto_if 10 with (fail)
  go_cut [] (fun wc => Aside0 (OwnS62 w0 wc g x1) ∧ Aside0 (wc.heap[gb]? = some (.cells #[.int .i64 a0_0, .string a0_1, .string a0_2, (.slice A0_3 l0_3.length c0_3), (.slice A0_4 l0_4.length c0_4)] 30 (0, 0))) ∧ Aside0 (Below w0.heap.size w0 wc) ∧ Aside0 (KeepT w wc))
  case first =>
    by_cases hc : a0_0 = 3
    · have h1 := H.out
      rw [if_pos hc] at h1
      subst hc
      by_cases hl : s.length < 8796093022208
      · rw [if_pos hl] at h1
        have hy := (Option.some.inj h1).symm
        have HY := Aside0.mk hy
        have HL := Aside0.mk hl
        clear h1 H hl hy
        obtain ⟨A0, c0, hb0, hg0, hr0⟩ := HI.out
        have hcg : w3.cell? ⟨g, 0, none⟩ = some (.slice A0 s.length c0) := (blk_cell hb0 0).trans rfl
        have HB0 := Aside0.mk hb0
        have HG0 := Aside0.mk hg0
        have HR0 := Aside0.mk hr0
        clear hb0 hg0 hr0
        go_upto_region 2 with (fail)
        have BK4 : Aside0 (w3.drew.heap[gb]? = _) := BK
        have HB4 : Aside0 (Below w0.heap.size w0 w3.drew) := ⟨below_drew1 HB.out⟩
        have HK4 : Aside0 (KeepT w w3.drew) := ⟨HK.out.drew⟩
        have HS4 : Aside0 (w0.heap.size ≤ w3.drew.heap.size) := HS
        have HO4 : Aside0 (Kd.R Kd.string 9 w3.drew w0.heap.size (fun k => k ≠ g) (.slice A0 s.length c0) s) := ⟨Kd.R_drew HR0.out⟩
        have HC4 : Aside0 (w3.drew.heap[g]? = some (.cells #[.slice A0 s.length c0] 62 (0, 0))) := HB0
        clear BK HB HK HS HR0 HB0 HI hcz0
        have hca : ∀ o, (w3.alloc o).cell? ⟨g, 0, none⟩ = some (.slice A0 s.length c0) := fun o => (blk_cell (blk_alloc HC4.out o) 0).trans rfl
        have hcb : ∀ o, (w3.alloc o).cell? ⟨gb, 1, none⟩ = some (.string a0_1) := fun o => (blk_cell (blk_alloc BK4.out o) 1).trans rfl
        go_region_law ((refine Kd.R_append_step Kd.string (w0 := w0) w0.heap.size (by rfl) (.tmp 15) (.tmp 18) 22 9 (.string ⟨#[]⟩) 16 rfl Tryd.underlying22 info9 rfl (by decide) (by omega) (.slice A0 s.length c0) s a0_1 [.string a0_1] (fun k => k ≠ g) (fun _ => False) (by rfl) (by rfl) rfl (fun _ hk => hk.elim) (fun k hk e => fresh_ne HC4.out hk e) HO4.out HB4.out HS4.out (lim16 HL.out) ?_; intro v5 w5 ho hb hg hat; rw [← HY.out] at ho; obtain ⟨A5, c5, e5⟩ := Kd.R_slice ho; subst e5; have hcg5 : w5.cell? ⟨g, 0, none⟩ = some (.slice A0 s.length c0) := (blk_cell (blk_grown HC4.out hg (Kd.R_ne HO4.out HC4.out (by decide))) 0).trans rfl; have hfg5 := blk_frozen (blk_grown HC4.out hg (Kd.R_ne HO4.out HC4.out (by decide))) 0; have HG5 := Aside0.mk hg; have HO5 := Aside0.mk ho; have HB5 := Aside0.mk hb; clear ho hb hg hat))
        all_goals (go_wp2; go_meet; case rel => exact ⟨⟨OwnS62.put HC4.out HG0.out HG5.out (Kd.R_ne HO4.out HC4.out (by decide)) HO5.out⟩, ⟨blk_far (blk_grown BK4.out HG5.out (Kd.R_ne HO4.out BK4.out (by decide))) (ne_types BK4.out HC4.out (by decide)) _⟩, ⟨below_set HB5.out HG0.out⟩, ⟨KeepT.put HK4.out HC4.out HO4.out HG5.out⟩⟩)
      · rw [if_neg hl] at h1
        cases h1
    · have h1 := H.out
      rw [if_neg hc] at h1
      obtain rfl := Option.some.inj h1
      have hcb0 : (a0_0 == 3) = false := beq_eq_false_iff_ne.mpr hc
      clear h1 H hc
      go_wp2
      go_meet
      case rel => exact ⟨HI, BK, HB, HK⟩
  case rest =>
    clear HI BK HB HK
    obtain ⟨HI, BK, HB, HK⟩ := hcut
    have hcy3 : wc.cell? ⟨gb, 3, none⟩ = some (.slice A0_3 l0_3.length c0_3) := (blk_cell BK.out 3).trans rfl
    clear hcz0 hcz1 HS H
    go_wp2
    go_loopg [25] k (fun kr v25 w' => ∃ (x : List ByteArray) (i : Int), v25 = .int .i64 i ∧ Aside0 (shower_term.l0 kr x l0_3 i = some x2) ∧ Aside0 (OwnS62 w0 w' g x) ∧ Aside0 (w'.heap[gb]? = some (.cells #[.int .i64 a0_0, .string a0_1, .string a0_2, (.slice A0_3 l0_3.length c0_3), (.slice A0_4 l0_4.length c0_4)] 30 (0, 0))) ∧ Aside0 (Below w0.heap.size w0 w') ∧ Aside0 (KeepT w w'))
    case atStart => exact ⟨x1, 0, rfl, H2, HI, BK, HB, HK⟩
    case round =>
      clear H2 HI BK HB HK hcy3
      obtain ⟨x, i, rfl, HA, HI, BK, HB, HK⟩ := hrel
      cases gk with
      | zero => exact absurd HA.out (by simp [shower_term.l0])
      | succ k3 =>
        have H := HA.out
        clear HA
        simp only [shower_term.l0] at H
        by_cases c1 : i < (l0_3.length : Int)
        · rw [if_pos c1] at H
          have c1b : decide (i < (l0_3.length : Int)) = true := decide_eq_true c1
          by_cases c2 : 0 ≤ i
          · rw [if_pos c2] at H
            have c2b : decide (0 ≤ i) = true := decide_eq_true c2
            obtain ⟨t, A1, H⟩ := Option.bind_eq_some_iff.mp H
            have A1 := Aside0.mk A1
            have H := Aside0.mk H
            obtain ⟨ad, A3, c3, e3, hx0, hx1, hx2, hx3, hl3, hi3⟩ := at_T53 HR0_3.out i c2 c1
            cases e3
            replace hx0 := (HB.out.cell (World.block_lt_of_cell? w0 _ hx0)).trans hx0
            replace hx1 := (HB.out.cell (World.block_lt_of_cell? w0 _ hx1)).trans hx1
            replace hx2 := (HB.out.cell (World.block_lt_of_cell? w0 _ hx2)).trans hx2
            replace hx3 := (HB.out.cell (World.block_lt_of_cell? w0 _ hx3)).trans hx3
            have HR3 := Aside0.mk hi3
            have HC3 := Aside0.mk hl3
            clear hi3 hl3
            replace c1 := eq_true c1
            replace c2 := eq_true c2
            go_wp2_with (fail)
            refine (shower_term.calls k3 g x _ _ _ _ _ _ t w0 _ (HI.out.alloc _) (below_alloc HB.out _) HR3.out HC3.out A1.out).mono ?_
            rintro e w5 ⟨rfl, hI5, hB5, hK5⟩
            have BK5 := Aside0.mk (hK5 gb _ _ (blk_alloc BK.out _) (by decide) (by decide))
            have HI5 := Aside0.mk hI5
            have HB5 := Aside0.mk hB5
            have HK5 := Aside0.mk ((HK.out.alloc _).trans hK5)
            clear hI5 hB5 hK5 HI BK HB HK
            go_wp2_with (fail)
            go_roundg k3
            case measure => omega
            case rel => exact ⟨t, wrap64 (i + 1), (by first | rfl | simp), H, HI5, BK5, HB5, HK5⟩
          · rw [if_neg c2] at H
            cases H
        · rw [if_neg c1] at H
          have c1b : decide (i < (l0_3.length : Int)) = false := decide_eq_false c1
          clear c1
          obtain rfl := Option.some.inj H
          have hcy4 : wr.cell? ⟨gb, 4, none⟩ = some (.slice A0_4 l0_4.length c0_4) := (blk_cell BK.out 4).trans rfl
          clear H
          go_wp2
          go_loopg [36] k (fun kr v36 w' => ∃ (x : List ByteArray) (i : Int), v36 = .int .i64 i ∧ Aside0 (shower_claim.l1 kr x l0_4 i = some r) ∧ Aside0 (kr ≤ k) ∧ Aside0 (OwnS62 w0 w' g x) ∧ Aside0 (w'.heap[gb]? = some (.cells #[.int .i64 a0_0, .string a0_1, .string a0_2, (.slice A0_3 l0_3.length c0_3), (.slice A0_4 l0_4.length c0_4)] 30 (0, 0))) ∧ Aside0 (Below w0.heap.size w0 w') ∧ Aside0 (KeepT w w'))
          case atStart => exact ⟨x, 0, rfl, H3, ⟨Nat.le_refl _⟩, HI, BK, HB, HK⟩
          case round =>
            clear H3 HI BK HB HK hcy4
            obtain ⟨x, j, rfl, HA, HK1, HI, BK, HB, HK⟩ := hrel
            cases gk with
            | zero => exact absurd HA.out (by simp [shower_claim.l1])
            | succ k4 =>
              have H := HA.out
              clear HA
              simp only [shower_claim.l1] at H
              by_cases c1 : j < (l0_4.length : Int)
              · rw [if_pos c1] at H
                have c1b : decide (j < (l0_4.length : Int)) = true := decide_eq_true c1
                by_cases c2 : 0 ≤ j
                · rw [if_pos c2] at H
                  have c2b : decide (0 ≤ j) = true := decide_eq_true c2
                  obtain ⟨t, A1, H⟩ := Option.bind_eq_some_iff.mp H
                  have A1 := Aside0.mk A1
                  have H := Aside0.mk H
                  obtain ⟨ad, A3, c3, A4, c4, e3, hx0, hx1, hx2, hx3, hx4, hl3, hi3, hl4, hi4⟩ := at_T30 HR0_4.out j c2 c1
                  cases e3
                  replace hx0 := (HB.out.cell (World.block_lt_of_cell? w0 _ hx0)).trans hx0
                  replace hx1 := (HB.out.cell (World.block_lt_of_cell? w0 _ hx1)).trans hx1
                  replace hx2 := (HB.out.cell (World.block_lt_of_cell? w0 _ hx2)).trans hx2
                  replace hx3 := (HB.out.cell (World.block_lt_of_cell? w0 _ hx3)).trans hx3
                  replace hx4 := (HB.out.cell (World.block_lt_of_cell? w0 _ hx4)).trans hx4
                  have HR3 := Aside0.mk hi3
                  have HC3 := Aside0.mk hl3
                  have HR4 := Aside0.mk hi4
                  have HC4 := Aside0.mk hl4
                  clear hi3 hl3 hi4 hl4
                  replace c1 := eq_true c1
                  replace c2 := eq_true c2
                  go_wp2_with (fail)
                  refine (ih k4 (by have := HK1.out; omega) g x _ _ _ _ _ _ _ _ _ t w0 _ (HI.out.alloc _) (below_alloc HB.out _) HR3.out HC3.out HR4.out HC4.out A1.out).mono ?_
                  rintro e w5 ⟨rfl, hI5, hB5, hK5⟩
                  have BK5 := Aside0.mk (hK5 gb _ _ (blk_alloc BK.out _) (by decide) (by decide))
                  have HI5 := Aside0.mk hI5
                  have HB5 := Aside0.mk hB5
                  have HK5 := Aside0.mk ((HK.out.alloc _).trans hK5)
                  clear hI5 hB5 hK5 HI BK HB HK
                  go_wp2_with (fail)
                  go_roundg k4
                  case measure => have := HK1.out; omega
                  case rel => exact ⟨t, wrap64 (j + 1), (by first | rfl | simp), H, ⟨by have := HK1.out; omega⟩, HI5, BK5, HB5, HK5⟩
                · rw [if_neg c2] at H
                  cases H
              · rw [if_neg c1] at H
                have c1b : decide (j < (l0_4.length : Int)) = false := decide_eq_false c1
                clear c1
                obtain rfl := Option.some.inj H
                go_wp2
                (first | go_end0 | ((try simp only [Exit.inBlock, Exit.then]); refine bodyPost_ret (results_none rfl _ _ _) rfl ?_))
                exact ⟨rfl, HI.out, HB.out, HK.out⟩
end Go.Proofs.YtmlkllbaehegjaaDoor.PAll
end
