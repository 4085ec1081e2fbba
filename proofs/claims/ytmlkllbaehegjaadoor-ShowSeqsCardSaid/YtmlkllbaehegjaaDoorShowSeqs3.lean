import Derived.IntWalk
import Derived.Lib.ItoaLen
import Derived.Test.YtmlkllbaehegjaaDoorShowSeqs2
section
namespace Go.Proofs.YtmlkllbaehegjaaDoor.PAll
open Go.RowKit Go.Proofs.YtmlkllbaehegjaaDoorW.PrintWords Go.Proofs.YtmlkllbaehegjaaDoorW.PrintLast Go.Proofs.YtmlkllbaehegjaaDoorW.PrintMore
attribute [local go_sem] max2_int min2_int max_two min_two max_three min_three max_four min_four
set_option linter.unusedVariables false
set_option linter.unusedSimpArgs false
/-! ### digit_Index: function 22 -/
def digit_Index.f (a0 : ByteArray) (a1 : Int) : Option (ByteArray) := if a1 ≤ 0 then (some a0) else ((digit_Text.f a1).bind fun t229 => (if a0.size + t229.size ≤ 9223372036854775807 then (some (a0 ++ t229)) else (none)))
set_option maxHeartbeats 8000000 in
set_option maxRecDepth 100000 in
theorem digit_Index.calls (a0 : ByteArray) (a1 : Int) (r : ByteArray) (w : World) (hG : Laid w) (h : digit_Index.f a0 a1 = some r) :
    Calls Tryd.prog 22 #[.string a0, .int .i64 a1] w fun e w' => e = .returned (.string r) ∧ Below w.heap.size w w' := by
  have HG := am hG; clear hG; have HB := am (Below.refl w.heap.size w); have H := h; unfold digit_Index.f at H; clear h
  by_cases c3 : a1 ≤ 0
  ·rw [if_pos c3] at H
   have c3b0 : decide (a1 ≤ 0) = true := decide_eq_true c3; clear c3; obtain rfl := Option.some.inj H
   go_enter Tryd.func22, Tryd.ntmps22
   go_wp2; go_ret; exact ⟨eW, bB⟩
  ·rw [if_neg c3] at H
   have c3b0 : decide (a1 ≤ 0) = false := decide_eq_false c3; clear c3; obtain ⟨t229, A4, H⟩ := bO H
   by_cases c5 : a0.size + t229.size ≤ 9223372036854775807
   ·rw [if_pos c5] at H
    have c5b0 := eq_true c5; have c5b1 := decide_eq_true c5
    try have c5b2 := eq_false (Nat.not_lt.2 c5)
    obtain rfl := Option.some.inj H
    go_enter Tryd.func22, Tryd.ntmps22
    go_wp2_with (first | ((with_reducible refine gate_callee (f := 39) rfl ?_); refine gL 10 Tryd.func39 #[.int .i64 a1] ?_; (with_reducible refine (digit_Text.calls a1 t229 _ ?side1 A4.out).mono ?_); (case side1 => exact Laid.below HG.out bB); rintro e w6 ⟨rfl, hb⟩; refine ⟨_, rfl, ?_⟩; replace HB := bH hb; clear hb))
    go_ret; exact ⟨eW, bB⟩
   ·rw [if_neg c5] at H
    exact absurd H (by simp)
/-! ### slices_Index_string_string: function 40 -/
def slices_Index_string_string.l0 : Nat → List ByteArray → ByteArray → Int → Int → Option (Int)
  | 0, _, _, _, _ => none
  | k + 1, x0, x1, x7, x8 => if x8 < x7 then (if 0 ≤ x8 then (if x8 < (x0.length : Int) then (if x1.toList = (rdOf ByteArray.empty x0 x8).toList then (some x8) else (slices_Index_string_string.l0 k x0 x1 x7 (wrap64 (x8 + 1)))) else (none)) else (none)) else (some (-1))
def slices_Index_string_string.f (k : Nat) (l0 : List ByteArray) (a1 : ByteArray) : Option (Int) := slices_Index_string_string.l0 k l0 a1 (l0.length : Int) 0
set_option maxHeartbeats 8000000 in
set_option maxRecDepth 100000 in
theorem slices_Index_string_string.calls (k : Nat) (A0 : Option Addr) (c0 : Nat) (l0 : List ByteArray) (a1 : ByteArray) (r : Int) (w : World) (hr0 : Kd.C Kd.string w A0 l0.length l0) (hc0 : l0.length ≤ c0) (h : slices_Index_string_string.f k l0 a1 = some r) :
    Calls Tryd.prog 40 #[.slice A0 l0.length c0, .string a1] w fun e w' => e = .returned (.int .i64 r) ∧ Drawn0 w w' := by
  have HR0 := am hr0; have HC0 := am hc0; clear hr0 hc0; have H := h; unfold slices_Index_string_string.f at H; clear h; have H' := am H; clear H
  go_enter Tryd.func40, Tryd.ntmps40
  go_wp2
  go_loopg [8] k (fun kq v8 w' => ∃ (x8_1 : Int), v8 = .int .i64 x8_1 ∧ Aside0 (slices_Index_string_string.l0 kq l0 a1 (l0.length : Int) x8_1 = some r) ∧ Aside0 (kq ≤ k) ∧ Drawn0 w w')
  case atStart => exact ⟨(0), eS, H', ⟨Nat.le_refl _⟩, by repeat (first | exact Drawn0.refl _ | apply Drawn0.step)⟩
  case round =>
   clear H'; (try clear p2); obtain ⟨x8_1, rfl, HA, HK1, ⟨m1, rfl⟩⟩ := hrel
   cases gk with
   | zero => exact absurd HA.out (by simp [slices_Index_string_string.l0])
   | succ k1 =>
    have H := HA.out; clear HA; simp only [slices_Index_string_string.l0] at H
    by_cases c3 : x8_1 < (l0.length : Int)
    ·rw [if_pos c3] at H
     have c3b0 : decide (x8_1 < (l0.length : Int)) = true := decide_eq_true c3; clear c3
     by_cases c4 : 0 ≤ x8_1
     ·rw [if_pos c4] at H
      have c4b0 : decide (0 ≤ x8_1) = true := decide_eq_true c4; clear c4
      by_cases c5 : x8_1 < (l0.length : Int)
      ·rw [if_pos c5] at H
       have c5b0 : decide (x8_1 < (l0.length : Int)) = true := decide_eq_true c5; clear c5
       by_cases c6 : a1.toList = (rdOf ByteArray.empty l0 x8_1).toList
       ·rw [if_pos c6] at H
        have c6b0 := beq_iff_eq.mpr c6; have c6b1 := bne_eq_false_iff_eq.mpr c6; clear c6; obtain rfl := Option.some.inj H; have p230 : 0 ≤ (x8_1 : Int) := of_decide_eq_true eA; have q230 : x8_1 < (l0.length : Int) := of_decide_eq_true eA; obtain ⟨ad230, e230, hx230_0⟩ := Kd.at_string HR0.out x8_1 p230 q230
        cases e230
        replace p230 := eq_true p230; replace q230 := eq_true q230; go_wp2; go_ret; exact ⟨by first | rfl | (simp; done) | (simp [*]; done) | (simp [*, nel]; done), by repeat (first | exact Drawn0.refl _ | apply Drawn0.step)⟩
       ·rw [if_neg c6] at H
        have c6b0 := beq_eq_false_iff_ne.mpr c6; have c6b1 := bne_iff_ne.mpr c6; have H' := am H; clear H; have p230 : 0 ≤ (x8_1 : Int) := of_decide_eq_true eA; have q230 : x8_1 < (l0.length : Int) := of_decide_eq_true eA; obtain ⟨ad230, e230, hx230_0⟩ := Kd.at_string HR0.out x8_1 p230 q230
        cases e230
        replace p230 := eq_true p230; replace q230 := eq_true q230; go_wp2
        go_roundg k1
        case measure => have := HK1.out; omega
        case rel => exact ⟨(wrap64 (x8_1 + 1)), eS, H', ⟨by have := HK1.out; omega⟩, by repeat (first | exact Drawn0.refl _ | apply Drawn0.step)⟩
      ·rw [if_neg c5] at H
       exact absurd H (by simp)
     ·rw [if_neg c4] at H
      exact absurd H (by simp)
    ·rw [if_neg c3] at H
     have c3b0 : decide (x8_1 < (l0.length : Int)) = false := decide_eq_false c3; clear c3; obtain rfl := Option.some.inj H; go_wp2; go_ret; exact ⟨by first | rfl | (simp; done) | (simp [*]; done) | (simp [*, nel]; done), by repeat (first | exact Drawn0.refl _ | apply Drawn0.step)⟩
/-! ### slices_Contains_string_string: function 23 -/
def slices_Contains_string_string.f (k : Nat) (l0 : List ByteArray) (a1 : ByteArray) : Option (Bool) := (slices_Index_string_string.f k l0 a1).bind fun t231 => (some (decide (t231 ≥ 0)))
set_option maxHeartbeats 8000000 in
set_option maxRecDepth 100000 in
theorem slices_Contains_string_string.calls (k : Nat) (A0 : Option Addr) (c0 : Nat) (l0 : List ByteArray) (a1 : ByteArray) (r : Bool) (w : World) (hr0 : Kd.C Kd.string w A0 l0.length l0) (hc0 : l0.length ≤ c0) (h : slices_Contains_string_string.f k l0 a1 = some r) :
    Calls Tryd.prog 23 #[.slice A0 l0.length c0, .string a1] w fun e w' => e = .returned (.bool r) ∧ Drawn0 w w' := by
  have HR0 := am hr0; have HC0 := am hc0; clear hr0 hc0; have H := h; unfold slices_Contains_string_string.f at H; clear h; obtain ⟨t231, A3, H⟩ := bO H; obtain rfl := Option.some.inj H
  go_enter Tryd.func23, Tryd.ntmps23
  go_wp2_with (first | ((with_reducible refine gate_callee (f := 40) rfl ?_); refine gL 7 Tryd.func40 #[.slice A0 l0.length c0, .string a1] ?_; (with_reducible refine (slices_Index_string_string.calls k _ _ l0 a1 t231 _ ?side1 HC0.out A3.out).mono ?_); (case side1 => repeat (first | exact HR0.out | (with_reducible refine Kd.C_alloc ?_ _) | (with_reducible refine Kd.C_drewN ?_ _) | (with_reducible refine Kd.C_drew ?_))); rintro e w' ⟨rfl, ⟨nd, rfl⟩⟩; refine ⟨_, rfl, ?_⟩))
  go_ret; exact ⟨by first | rfl | (simp; done) | (simp [*]; done) | (simp [*, nel]; done), by repeat (first | exact Drawn0.refl _ | apply Drawn0.step)⟩
/-! ### show_Fresh: function 8 -/
def show_Fresh.l0 : Nat → ByteArray → List ByteArray → Int → Option (ByteArray)
  | 0, _, _, _ => none
  | k + 1, x0, x1, x5 => (digit_Index.f x0 x5).bind fun t232 => ((slices_Contains_string_string.f k x1 t232).bind fun t233 => (if t233 = true then (show_Fresh.l0 k x0 x1 (wrap64 (x5 + 1))) else (some t232)))
def show_Fresh.f (k : Nat) (a0 : ByteArray) (l1 : List ByteArray) : Option (ByteArray) := show_Fresh.l0 k a0 l1 0
set_option maxHeartbeats 8000000 in
set_option maxRecDepth 100000 in
theorem show_Fresh.calls (k : Nat) (a0 : ByteArray) (A1 : Option Addr) (c1 : Nat) (l1 : List ByteArray) (r : ByteArray) (w : World) (hG : Laid w) (hr1 : Kd.C Kd.string w A1 l1.length l1) (hc1 : l1.length ≤ c1) (h : show_Fresh.f k a0 l1 = some r) :
    Calls Tryd.prog 8 #[.string a0, .slice A1 l1.length c1] w fun e w' => e = .returned (.string r) ∧ Below w.heap.size w w' := by
  have HR1 := am hr1; have HC1 := am hc1; clear hr1 hc1; have HG := am hG; clear hG; have HB := am (Below.refl w.heap.size w); have H := h; unfold show_Fresh.f at H; clear h; have H' := am H; clear H
  go_enter Tryd.func8, Tryd.ntmps8
  go_wp2
  go_loopg [5] k (fun kq v5 w' => ∃ (x5_1 : Int), v5 = .int .i64 x5_1 ∧ Aside0 (show_Fresh.l0 kq a0 l1 x5_1 = some r) ∧ Aside0 (kq ≤ k) ∧ Aside0 (Below w.heap.size w w'))
  case atStart => exact ⟨(0), eS, H', ⟨Nat.le_refl _⟩, ⟨bB⟩⟩
  case round =>
   clear H'; (try clear c1); (try clear p2); obtain ⟨x5_1, rfl, HA, HK1, HB⟩ := hrel
   cases gk with
   | zero => exact absurd HA.out (by simp [show_Fresh.l0])
   | succ k1 =>
    have H := HA.out; clear HA; simp only [show_Fresh.l0] at H; obtain ⟨t232, A3, H⟩ := bO H; obtain ⟨t233, A4, H⟩ := bO H
    by_cases c5 : t233 = true
    ·subst c5
     rw [if_pos rfl] at H; have H' := am H; clear H
     go_wp2_with (first | ((with_reducible refine gate_callee (f := 22) rfl ?_); refine gL 11 Tryd.func22 #[.string a0, .int .i64 x5_1] ?_; (with_reducible refine (digit_Index.calls a0 x5_1 t232 _ ?side1 A3.out).mono ?_); (case side1 => exact Laid.below HG.out bB); rintro e w6 ⟨rfl, hb⟩; refine ⟨_, rfl, ?_⟩; replace HB := bH hb; clear hb) | ((with_reducible refine gate_callee (f := 23) rfl ?_); refine gL 14 Tryd.func23 #[.slice A1 l1.length c1, .string t232] ?_; (with_reducible refine (slices_Contains_string_string.calls k1 _ _ l1 t232 true _ ?side1 HC1.out A4.out).mono ?_); (case side1 => exact cB HR1); rintro e w' ⟨rfl, ⟨nd, rfl⟩⟩; refine ⟨_, rfl, ?_⟩))
     go_roundg k1
     case measure => have := HK1.out; omega
     case rel => exact ⟨(wrap64 (x5_1 + 1)), eS, H', ⟨by have := HK1.out; omega⟩, ⟨bB⟩⟩
    ·replace c5 := Bool.eq_false_iff.mpr c5
     subst c5; rw [if_neg (show ¬ (false = true) by decide)] at H; obtain rfl := Option.some.inj H
     go_wp2_with (first | ((with_reducible refine gate_callee (f := 22) rfl ?_); refine gL 11 Tryd.func22 #[.string a0, .int .i64 x5_1] ?_; (with_reducible refine (digit_Index.calls a0 x5_1 t232 _ ?side1 A3.out).mono ?_); (case side1 => exact Laid.below HG.out bB); rintro e w7 ⟨rfl, hb⟩; refine ⟨_, rfl, ?_⟩; replace HB := bH hb; clear hb) | ((with_reducible refine gate_callee (f := 23) rfl ?_); refine gL 14 Tryd.func23 #[.slice A1 l1.length c1, .string t232] ?_; (with_reducible refine (slices_Contains_string_string.calls k1 _ _ l1 t232 false _ ?side1 HC1.out A4.out).mono ?_); (case side1 => exact cB HR1); rintro e w' ⟨rfl, ⟨nd, rfl⟩⟩; refine ⟨_, rfl, ?_⟩))
     go_ret; exact ⟨eW, bB⟩
/-! ### sequiturbase_Has: function 10 -/
def sequiturbase_Has.l0 : Nat → List ByteArray → ByteArray → Int → Option (Bool)
  | 0, _, _, _ => none
  | k + 1, x0, x1, x5 => if x5 < (x0.length : Int) then (if 0 ≤ x5 then (if (rdOf ByteArray.empty x0 x5).toList = x1.toList then (some true) else (sequiturbase_Has.l0 k x0 x1 (wrap64 (x5 + 1)))) else (none)) else (some false)
def sequiturbase_Has.f (k : Nat) (l0 : List ByteArray) (a1 : ByteArray) : Option (Bool) := sequiturbase_Has.l0 k l0 a1 0
set_option maxHeartbeats 8000000 in
set_option maxRecDepth 100000 in
theorem sequiturbase_Has.calls (k : Nat) (A0 : Option Addr) (c0 : Nat) (l0 : List ByteArray) (a1 : ByteArray) (r : Bool) (w : World) (hr0 : Kd.C Kd.string w A0 l0.length l0) (hc0 : l0.length ≤ c0) (h : sequiturbase_Has.f k l0 a1 = some r) :
    Calls Tryd.prog 10 #[.slice A0 l0.length c0, .string a1] w fun e w' => e = .returned (.bool r) ∧ Drawn0 w w' := by
  have HR0 := am hr0; have HC0 := am hc0; clear hr0 hc0; have H := h; unfold sequiturbase_Has.f at H; clear h; have H' := am H; clear H
  go_enter Tryd.func10, Tryd.ntmps10
  go_wp2
  go_loopg [5] k (fun kq v5 w' => ∃ (x5_1 : Int), v5 = .int .i64 x5_1 ∧ Aside0 (sequiturbase_Has.l0 kq l0 a1 x5_1 = some r) ∧ Aside0 (kq ≤ k) ∧ Drawn0 w w')
  case atStart => exact ⟨(0), eS, H', ⟨Nat.le_refl _⟩, by repeat (first | exact Drawn0.refl _ | apply Drawn0.step)⟩
  case round =>
   clear H'; (try clear c1); (try clear p2); obtain ⟨x5_1, rfl, HA, HK1, ⟨m1, rfl⟩⟩ := hrel
   cases gk with
   | zero => exact absurd HA.out (by simp [sequiturbase_Has.l0])
   | succ k1 =>
    have H := HA.out; clear HA; simp only [sequiturbase_Has.l0] at H
    by_cases c3 : x5_1 < (l0.length : Int)
    ·rw [if_pos c3] at H
     have c3b0 : decide (x5_1 < (l0.length : Int)) = true := decide_eq_true c3; clear c3
     by_cases c4 : 0 ≤ x5_1
     ·rw [if_pos c4] at H
      have c4b0 : decide (0 ≤ x5_1) = true := decide_eq_true c4; clear c4
      by_cases c5 : (rdOf ByteArray.empty l0 x5_1).toList = a1.toList
      ·rw [if_pos c5] at H
       have c5b0 := beq_iff_eq.mpr c5; have c5b1 := bne_eq_false_iff_eq.mpr c5; clear c5; obtain rfl := Option.some.inj H; have p315 : 0 ≤ (x5_1 : Int) := of_decide_eq_true eA; have q315 : x5_1 < (l0.length : Int) := of_decide_eq_true eA; obtain ⟨ad315, e315, hx315_0⟩ := Kd.at_string HR0.out x5_1 p315 q315
       cases e315
       replace p315 := eq_true p315; replace q315 := eq_true q315; go_wp2; go_ret; exact ⟨by first | rfl | (simp; done) | (simp [*]; done) | (simp [*, nel]; done), by repeat (first | exact Drawn0.refl _ | apply Drawn0.step)⟩
      ·rw [if_neg c5] at H
       have c5b0 := beq_eq_false_iff_ne.mpr c5; have c5b1 := bne_iff_ne.mpr c5; have H' := am H; clear H; have p315 : 0 ≤ (x5_1 : Int) := of_decide_eq_true eA; have q315 : x5_1 < (l0.length : Int) := of_decide_eq_true eA; obtain ⟨ad315, e315, hx315_0⟩ := Kd.at_string HR0.out x5_1 p315 q315
       cases e315
       replace p315 := eq_true p315; replace q315 := eq_true q315; go_wp2
       go_roundg k1
       case measure => have := HK1.out; omega
       case rel => exact ⟨(wrap64 (x5_1 + 1)), eS, H', ⟨by have := HK1.out; omega⟩, by repeat (first | exact Drawn0.refl _ | apply Drawn0.step)⟩
     ·rw [if_neg c4] at H
      exact absurd H (by simp)
    ·rw [if_neg c3] at H
     have c3b0 : decide (x5_1 < (l0.length : Int)) = false := decide_eq_false c3; clear c3; obtain rfl := Option.some.inj H; go_wp2; go_ret; exact ⟨by first | rfl | (simp; done) | (simp [*]; done) | (simp [*, nel]; done), by repeat (first | exact Drawn0.refl _ | apply Drawn0.step)⟩
/-! ### sequiturbase_digits: function 41 -/
def sequiturbase_digits.f : Nat → Int → Option (ByteArray)
  | 0, _ => none
  | k + 1, a0 => if a0 < 10 then (some (strOfNums (([(IntKind.u64.wrap (48 + a0)) % 256] : List Int)))) else ((sequiturbase_digits.f k (IntKind.u64.wrap (Int.tdiv a0 10))).bind fun t319 => ((some (([(IntKind.u64.wrap (48 + (Int.tmod a0 10))) % 256] : List Int) : List Int)).bind fun y320 => (if t319.size + (strOfNums y320).size ≤ 9223372036854775807 then (some (t319 ++ (strOfNums y320))) else (none))))
def sequiturbase_digits.T3 : Bool × List (List Nat × List Nat) := (true, [([], []), ([0], [0]), ([1], [1]), ([], []), ([3], [3]), ([4], [4]), ([5], [5]), ([6], [6]), ([7], [7]), ([2, 8], [2, 8]), ([9, 2, 0, 1, 2, 3, 4, 5, 6, 7, 8, 9], [9])])
def sequiturbase_digits.B3 : List Nat := [0, 1, 3, 0, 8, 24, 56, 120, 248, 511, 1023]
theorem sequiturbase_digits.tab3 : rtab .any (opsOf Tryd.f41 3) = sequiturbase_digits.T3 := by kernel_rfl
theorem sequiturbase_digits.bits3 : waitsOk sequiturbase_digits.T3.2 sequiturbase_digits.B3 = true := by kernel_rfl
set_option maxHeartbeats 8000000 in
set_option maxRecDepth 100000 in
theorem sequiturbase_digits.calls (k : Nat) : ∀ (a0 : Int) (r : ByteArray) (w : World) (h : sequiturbase_digits.f k a0 = some r),
    Calls Tryd.prog 41 #[.int .u64 a0] w fun e w' => e = .returned (.string r) ∧ Below w.heap.size w w' := by
  induction k using Nat.strongRecOn with
  | _ k ih =>
  intro a0 r w h
  cases k with
  | zero => exact absurd h (by simp [sequiturbase_digits.f])
  | succ k =>
  simp only [sequiturbase_digits.f] at h; have HB := am (Below.refl w.heap.size w); have H := h; clear h
  by_cases c2 : a0 < 10
  ·rw [if_pos c2] at H
   have c2b0 : decide (a0 < 10) = true := decide_eq_true c2; clear c2; obtain ⟨y316, hy316⟩ : ∃ y_ : List Int, y_ = (([(IntKind.u64.wrap (48 + a0)) % 256] : List Int)) := ⟨_, rfl⟩; replace H : (some (strOfNums y316)) = some r := by first | (rw [hy316]; with_reducible exact H) | (have H2_ := (Option.bind_some _ _).symm.trans H; rw [hy316]; with_reducible exact H2_) | (have H2_ := (Option.bind_some _ _).symm.trans H; with_reducible exact H2_) | with_reducible exact H | (rw [hy316]; exact H) | exact H
   have Ny316 := am hy316; clear hy316; obtain rfl := Option.some.inj H
   go_enter Tryd.func41, Tryd.ntmps41
   go_wp2_with (first | ((with_reducible refine gate_dst (N := 8) rfl ?_); refine Kd.R_lit (Kd.int .u8) _ 5 ?hg (N := 8) ?hd (xs := ([(IntKind.u64.wrap (48 + a0)) % 256] : List Int)) (inner := [.int .u8 ((IntKind.u64.wrap (48 + a0)) % 256)]) (ok := fun _ => True) (okp := fun _ => True) ?hr ?hp (fun _ hk => hk) trivial (Below.refl _ _) (Nat.le_refl _) (by simp) ?_; (case hd => rfl); (case hg => rfl); (case hr => first | (go_simp; done) | (go_simp; rfl)); (case hp => exact (Reps.one (show Kd.M (Kd.int .u8) _ _ _ ((IntKind.u64.wrap (48 + a0)) % 256) [.int .u8 ((IntKind.u64.wrap (48 + a0)) % 256)] from rfl) (Reps.none _ _))); intro v317 w3 ho4 hb hg_ hnew_; clear hg_ hnew_; (first | rw [← Ny316.out] at ho4 | (simp only [Int.reduceToNat] at ho4; rw [← Ny316.out] at ho4)); have HO318 := am (Kd.R_lower ho4 (below_size bB)); replace HB := bH hb; clear hb ho4; have hcv5 := own_string (P := Tryd.prog) Tryd.underlying66 Tryd.underlying5 Tryd.underlying9 (Kd.own_of_R HO318.out)))
   go_ret; exact ⟨eW, bB⟩
  ·rw [if_neg c2] at H
   have c2b0 : decide (a0 < 10) = false := decide_eq_false c2; clear c2; obtain ⟨t319, A6, H⟩ := bO H; obtain ⟨y320, hy320⟩ : ∃ y_ : List Int, y_ = (([(IntKind.u64.wrap (48 + (Int.tmod a0 10))) % 256] : List Int)) := ⟨_, rfl⟩
   replace H : (if t319.size + (strOfNums y320).size ≤ 9223372036854775807 then (some (t319 ++ (strOfNums y320))) else (none)) = some r := by first | (rw [hy320]; with_reducible exact H) | (have H2_ := (Option.bind_some _ _).symm.trans H; rw [hy320]; with_reducible exact H2_) | (have H2_ := (Option.bind_some _ _).symm.trans H; with_reducible exact H2_) | with_reducible exact H | (rw [hy320]; exact H) | exact H
   have Ny320 := am hy320; clear hy320
   by_cases c7 : t319.size + (strOfNums y320).size ≤ 9223372036854775807
   ·rw [if_pos c7] at H
    have c7b0 := eq_true c7; have c7b1 := decide_eq_true c7
    try have c7b2 := eq_false (Nat.not_lt.2 c7)
    obtain rfl := Option.some.inj H
    go_enter Tryd.func41, Tryd.ntmps41
    try go_wp2
    replace HB := am (below_drew1 HB.out); refine sS 11 (eT) fun hHeld => ?_
    refine with_tabW sequiturbase_digits.tab3 sequiturbase_digits.bits3 (fun HT_ HW_ => ?_); generalize w.drew = w8 at HB hHeld ⊢
    refine pS 0 10 ?_; refine pS 1 11 ?_; refine pS 3 13 ?_; refine pS 4 14 ?_; refine pS 5 15 ?_; refine pS 6 16 ?_; refine join_ (σ := Value) 2 #[true, true, true, true, true, true, true, true, true, false, false] (fun s_ => [(12, .string t319), (17, s_), (18, .string (strOfNums y320))]) (fun s_ w' => (Kd.R (Kd.int .u8) 5 w' w.heap.size (fun _ => True) s_ y320) ∧ (Below w.heap.size w w')) ?_ ?_
    rotate_left
    · intro hCont
      refine two_ (i := 2) (j := 7) (Ni := some 12) (Nj := some 17) #[true, true, true, true, true, true, true, false, false, false, false] #[true, true, false, true, true, true, true, true, false, false, false] rfl rfl rfl rfl (two_of HT_.out (by kernel_rfl)) (by decide) (by decide) (fun K hK => ?_) (fun K hK => ?_)
      · skip
        refine goS Tryd.func41 #[.int .u64 (IntKind.u64.wrap (Int.tdiv a0 10))] ?_; (with_reducible refine (ih k (by omega) (IntKind.u64.wrap (Int.tdiv a0 10)) t319 _ A6.out).mono ?_); rintro e w9 ⟨rfl, hb⟩; refine ⟨_, rfl, ?_⟩; replace HB := bH hb; clear hb; refine hK.out _ _ trivial (fun hHeld => ?_); clear hK K; refine nS 12 ?_; refine oS 7 17 fun K hK => ?_
        refine Kd.R_lit_step (Kd.int .u8) _ 5 ?hg (N := 17) ?hd (xs := ([(IntKind.u64.wrap (48 + (Int.tmod a0 10))) % 256] : List Int)) (inner := [.int .u8 ((IntKind.u64.wrap (48 + (Int.tmod a0 10))) % 256)]) (ok := fun _ => True) (okp := fun _ => True) ?hr ?hp (fun _ hk => hk) trivial (Below.refl _ _) (Nat.le_refl _) (by simp) ?_; (case hd => rfl); (case hg => rfl); (case hr => first | (go_simp; done) | (go_simp; rfl)); (case hp => exact (Reps.one (show Kd.M (Kd.int .u8) _ _ _ ((IntKind.u64.wrap (48 + (Int.tmod a0 10))) % 256) [.int .u8 ((IntKind.u64.wrap (48 + (Int.tmod a0 10))) % 256)] from rfl) (Reps.none _ _)))
        intro v321 w10 ho11 hb hg_ hnew_; clear hg_ hnew_; (first | rw [← Ny320.out] at ho11 | (simp only [Int.reduceToNat] at ho11; rw [← Ny320.out] at ho11)); have HO322 := am (Kd.R_lower ho11 (below_size bB)); replace HB := bH hb; clear hb ho11; refine hK.out _ _ trivial (fun hHeld => ?_); clear hK K; refine nS 17 ?_; refine oS 8 18 fun K hK => ?_
        have hcv12 := own_string (P := Tryd.prog) Tryd.underlying66 Tryd.underlying5 Tryd.underlying9 (Kd.own_of_R HO322.out); refine value_ (w1 := ?_) (v := ?_) (by rfl) rfl ?_ ?_
        rotate_left 2
        · go_simp
          constructor
          · rfl
          · rfl
        clear hcv12; refine hK.out _ _ trivial (fun hHeld => ?_); clear hK K; refine nS 18 ?_; exact norm_ d22 (hCont (v321) _ ⟨(d6 HO322), bB⟩)
      · skip
        refine Kd.R_lit_step (Kd.int .u8) _ 5 ?hg (N := 17) ?hd (xs := ([(IntKind.u64.wrap (48 + (Int.tmod a0 10))) % 256] : List Int)) (inner := [.int .u8 ((IntKind.u64.wrap (48 + (Int.tmod a0 10))) % 256)]) (ok := fun _ => True) (okp := fun _ => True) ?hr ?hp (fun _ hk => hk) trivial (Below.refl _ _) (Nat.le_refl _) (by simp) ?_; (case hd => rfl); (case hg => rfl); (case hr => first | (go_simp; done) | (go_simp; rfl)); (case hp => exact (Reps.one (show Kd.M (Kd.int .u8) _ _ _ ((IntKind.u64.wrap (48 + (Int.tmod a0 10))) % 256) [.int .u8 ((IntKind.u64.wrap (48 + (Int.tmod a0 10))) % 256)] from rfl) (Reps.none _ _)))
        intro v321 w9 ho10 hb hg_ hnew_; clear hg_ hnew_; (first | rw [← Ny320.out] at ho10 | (simp only [Int.reduceToNat] at ho10; rw [← Ny320.out] at ho10)); have HO322 := am (Kd.R_lower ho10 (below_size bB)); replace HB := bH hb; clear hb ho10; refine hK.out _ _ trivial (fun hHeld => ?_); clear hK K; refine nS 17 ?_; refine two_ (i := 2) (j := 8) (Ni := some 12) (Nj := some 18) #[true, true, true, true, true, true, true, true, false, false, false] #[true, true, false, true, true, true, true, true, true, false, false] rfl rfl rfl rfl (two_of HT_.out (by kernel_rfl)) (by decide) (by decide) (fun K hK => ?_) (fun K hK => ?_)
        · skip
          refine goS Tryd.func41 #[.int .u64 (IntKind.u64.wrap (Int.tdiv a0 10))] ?_; (with_reducible refine (ih k (by omega) (IntKind.u64.wrap (Int.tdiv a0 10)) t319 _ A6.out).mono ?_); rintro e w11 ⟨rfl, hb⟩; refine ⟨_, rfl, ?_⟩; replace HO322 := am (Kd.R_below (d6 HO322) hb); replace HB := bH hb; clear hb; refine hK.out _ _ trivial (fun hHeld => ?_); clear hK K; refine nS 12 ?_; refine oS 8 18 fun K hK => ?_
          have hcv12 := own_string (P := Tryd.prog) Tryd.underlying66 Tryd.underlying5 Tryd.underlying9 (Kd.own_of_R HO322.out); refine value_ (w1 := ?_) (v := ?_) (by rfl) rfl ?_ ?_
          rotate_left 2
          · go_simp
            constructor
            · rfl
            · rfl
          clear hcv12; refine hK.out _ _ trivial (fun hHeld => ?_); clear hK K; refine nS 18 ?_; exact norm_ d22 (hCont (v321) _ ⟨(d6 HO322), bB⟩)
        · skip
          have hcv11 := own_string (P := Tryd.prog) Tryd.underlying66 Tryd.underlying5 Tryd.underlying9 (Kd.own_of_R HO322.out); refine value_ (w1 := ?_) (v := ?_) (by rfl) rfl ?_ ?_
          rotate_left 2
          · go_simp
            constructor
            · rfl
            · rfl
          clear hcv11; refine hK.out _ _ trivial (fun hHeld => ?_); clear hK K; refine nS 18 ?_; refine oS 2 12 fun K hK => ?_
          refine goS Tryd.func41 #[.int .u64 (IntKind.u64.wrap (Int.tdiv a0 10))] ?_; (with_reducible refine (ih k (by omega) (IntKind.u64.wrap (Int.tdiv a0 10)) t319 _ A6.out).mono ?_); rintro e w12 ⟨rfl, hb⟩; refine ⟨_, rfl, ?_⟩; replace HO322 := am (Kd.R_below (d6 HO322) hb); replace HB := bH hb; clear hb; refine hK.out _ _ trivial (fun hHeld => ?_); clear hK K; refine nS 12 ?_; exact norm_ d22 (hCont (v321) _ ⟨(d6 HO322), bB⟩)
    rintro v321 w13 ⟨h0_, h1_⟩; have n0_ : Aside0 (Kd.R (Kd.int .u8) 5 w13 w.heap.size (fun _ => True) v321 y320) := ⟨h0_⟩; have n1_ : Aside0 (Below w.heap.size w w13) := ⟨h1_⟩; clear HB; clear h0_ h1_; have HO322 := n0_; have HB := n1_; clear n0_ n1_; have hHeld := trivial; refine norm_ (a' := ?_) ?_ ?_
    rotate_left
    · simp only [putAll, Act.put, List.setIfInBounds_toArray, List.set_cons_zero, List.set_cons_succ]
      rfl
    refine pS 9 19 ?_; refine pS 10 2 ?_; refine done_ (done_of HT_.out (by kernel_rfl)) ?_
    try go_wp2
    go_ret; exact ⟨eW, bB⟩
   ·rw [if_neg c7] at H
    exact absurd H (by simp)
/-! ### sequiturbase_Digits: function 24 -/
def sequiturbase_Digits.f (k : Nat) (a0 : Int) : Option (ByteArray) := if a0 < 0 then ((sequiturbase_digits.f k (IntKind.u64.wrap ((IntKind.u64.wrap (wrap64 (-(wrap64 (a0 + 1))))) + 1))).bind fun t323 => (if 1 + t323.size ≤ 9223372036854775807 then (some ((⟨#[45]⟩ : ByteArray) ++ t323)) else (none))) else ((sequiturbase_digits.f k (IntKind.u64.wrap (a0))).bind fun t324 => (some t324))
set_option maxHeartbeats 8000000 in
set_option maxRecDepth 100000 in
theorem sequiturbase_Digits.calls (k : Nat) (a0 : Int) (r : ByteArray) (w : World) (h : sequiturbase_Digits.f k a0 = some r) :
    Calls Tryd.prog 24 #[.int .i64 a0] w fun e w' => e = .returned (.string r) ∧ Below w.heap.size w w' := by
  have HB := am (Below.refl w.heap.size w); have H := h; unfold sequiturbase_Digits.f at H; clear h
  by_cases c2 : a0 < 0
  ·rw [if_pos c2] at H
   have c2b0 : decide (a0 < 0) = true := decide_eq_true c2; clear c2; obtain ⟨t323, A3, H⟩ := bO H
   by_cases c4 : 1 + t323.size ≤ 9223372036854775807
   ·rw [if_pos c4] at H
    have c4b0 := eq_true c4; have c4b1 := decide_eq_true c4
    try have c4b2 := eq_false (Nat.not_lt.2 c4)
    obtain rfl := Option.some.inj H
    go_enter Tryd.func24, Tryd.ntmps24
    go_wp2_with (first | ((with_reducible refine gate_callee (f := 41) rfl ?_); refine gL 10 Tryd.func41 #[.int .u64 (IntKind.u64.wrap ((IntKind.u64.wrap (wrap64 (-(wrap64 (a0 + 1))))) + 1))] ?_; (with_reducible refine (sequiturbase_digits.calls k (IntKind.u64.wrap ((IntKind.u64.wrap (wrap64 (-(wrap64 (a0 + 1))))) + 1)) t323 _ A3.out).mono ?_); rintro e w5 ⟨rfl, hb⟩; refine ⟨_, rfl, ?_⟩; replace HB := bH hb; clear hb))
    go_ret; exact ⟨eW, bB⟩
   ·rw [if_neg c4] at H
    exact absurd H (by simp)
  ·rw [if_neg c2] at H
   have c2b0 : decide (a0 < 0) = false := decide_eq_false c2; clear c2; obtain ⟨t324, A6, H⟩ := bO H; obtain rfl := Option.some.inj H
   go_enter Tryd.func24, Tryd.ntmps24
   go_wp2_with (first | ((with_reducible refine gate_callee (f := 41) rfl ?_); refine gL 14 Tryd.func41 #[.int .u64 (IntKind.u64.wrap (a0))] ?_; (with_reducible refine (sequiturbase_digits.calls k (IntKind.u64.wrap (a0)) t324 _ A6.out).mono ?_); rintro e w7 ⟨rfl, hb⟩; refine ⟨_, rfl, ?_⟩; replace HB := bH hb; clear hb))
   go_ret; exact ⟨eW, bB⟩
/-! ### sequiturref14_Fresh: function 9 -/
def sequiturref14_Fresh.l0 : Nat → ByteArray → List ByteArray → ByteArray → Int → Option (ByteArray)
  | 0, _, _, _, _ => none
  | k + 1, x0, x1, x5, x6 => (sequiturbase_Has.f k x1 x5).bind fun t325 => (if t325 = true then ((sequiturbase_Digits.f k x6).bind fun t326 => (if x0.size + t326.size ≤ 9223372036854775807 then (sequiturref14_Fresh.l0 k x0 x1 (x0 ++ t326) (wrap64 (x6 + 1))) else (none))) else (some x5))
def sequiturref14_Fresh.f (k : Nat) (a0 : ByteArray) (l1 : List ByteArray) : Option (ByteArray) := sequiturref14_Fresh.l0 k a0 l1 a0 1
set_option maxHeartbeats 8000000 in
set_option maxRecDepth 100000 in
theorem sequiturref14_Fresh.calls (k : Nat) (a0 : ByteArray) (A1 : Option Addr) (c1 : Nat) (l1 : List ByteArray) (r : ByteArray) (w : World) (hr1 : Kd.C Kd.string w A1 l1.length l1) (hc1 : l1.length ≤ c1) (h : sequiturref14_Fresh.f k a0 l1 = some r) :
    Calls Tryd.prog 9 #[.string a0, .slice A1 l1.length c1] w fun e w' => e = .returned (.string r) ∧ Below w.heap.size w w' := by
  have HR1 := am hr1; have HC1 := am hc1; clear hr1 hc1; have HB := am (Below.refl w.heap.size w); have H := h; unfold sequiturref14_Fresh.f at H; clear h; have H' := am H; clear H
  go_enter Tryd.func9, Tryd.ntmps9
  go_wp2
  go_loopg [5, 6] k (fun kq v5 v6 w' => ∃ (x5_1 : ByteArray) (x6_1 : Int), v5 = .string x5_1 ∧ v6 = .int .i64 x6_1 ∧ Aside0 (sequiturref14_Fresh.l0 kq a0 l1 x5_1 x6_1 = some r) ∧ Aside0 (kq ≤ k) ∧ Aside0 (Below w.heap.size w w'))
  case atStart => exact ⟨(a0), (1), eS, eS, H', ⟨Nat.le_refl _⟩, ⟨bB⟩⟩
  case round =>
   clear H'; (try clear c1); (try clear p2); obtain ⟨x5_1, x6_1, rfl, rfl, HA, HK1, HB⟩ := hrel
   cases gk with
   | zero => exact absurd HA.out (by simp [sequiturref14_Fresh.l0])
   | succ k1 =>
    have H := HA.out; clear HA; simp only [sequiturref14_Fresh.l0] at H; obtain ⟨t325, A3, H⟩ := bO H
    by_cases c4 : t325 = true
    ·subst c4
     rw [if_pos rfl] at H; obtain ⟨t326, A5, H⟩ := bO H
     by_cases c6 : a0.size + t326.size ≤ 9223372036854775807
     ·rw [if_pos c6] at H
      have c6b0 := eq_true c6; have c6b1 := decide_eq_true c6
      try have c6b2 := eq_false (Nat.not_lt.2 c6)
      have H' := am H; clear H
      go_wp2_with (first | ((with_reducible refine gate_callee (f := 10) rfl ?_); refine gL 10 Tryd.func10 #[.slice A1 l1.length c1, .string x5_1] ?_; (with_reducible refine (sequiturbase_Has.calls k1 _ _ l1 x5_1 true _ ?side1 HC1.out A3.out).mono ?_); (case side1 => exact cB HR1); rintro e w' ⟨rfl, ⟨nd, rfl⟩⟩; refine ⟨_, rfl, ?_⟩) | ((with_reducible refine gate_callee (f := 24) rfl ?_); refine gL 15 Tryd.func24 #[.int .i64 x6_1] ?_; (with_reducible refine (sequiturbase_Digits.calls k1 x6_1 t326 _ A5.out).mono ?_); rintro e w7 ⟨rfl, hb⟩; refine ⟨_, rfl, ?_⟩; replace HB := bH hb; clear hb))
      go_roundg k1
      case measure => have := HK1.out; omega
      case rel => exact ⟨(a0 ++ t326), (wrap64 (x6_1 + 1)), eS, eS, H', ⟨by have := HK1.out; omega⟩, ⟨bB⟩⟩
     ·rw [if_neg c6] at H
      exact absurd H (by simp)
    ·replace c4 := Bool.eq_false_iff.mpr c4
     subst c4; rw [if_neg (show ¬ (false = true) by decide)] at H; obtain rfl := Option.some.inj H
     go_wp2_with (first | ((with_reducible refine gate_callee (f := 10) rfl ?_); refine gL 10 Tryd.func10 #[.slice A1 l1.length c1, .string x5_1] ?_; (with_reducible refine (sequiturbase_Has.calls k1 _ _ l1 x5_1 false _ ?side1 HC1.out A3.out).mono ?_); (case side1 => exact cB HR1); rintro e w' ⟨rfl, ⟨nd, rfl⟩⟩; refine ⟨_, rfl, ?_⟩))
     go_ret; exact ⟨eW, bB⟩
end Go.Proofs.YtmlkllbaehegjaaDoor.PAll
end
section
namespace Go.Proofs.YtmlkllbaehegjaaDoor.PAll
open Go.RowKit Go.Proofs.YtmlkllbaehegjaaDoorW.PrintWords Go.Proofs.YtmlkllbaehegjaaDoorW.PrintLast Go.Proofs.YtmlkllbaehegjaaDoorW.PrintMore
open Go.Proofs.YtmlkllbaehegjaaDoor
/-- From some number of rounds on F tells r. -/
def Ev {α : Type} (F : Nat → Option α) (r : α) : Prop := ∃ n, ∀ k, n ≤ k → F k = some r
theorem Ev.const {α : Type} (r : α) : Ev (fun _ => some r) r := ⟨0, fun _ _ => rfl⟩
theorem Ev.of_eq {α : Type} {x : Option α} {r : α} (h : x = some r) : Ev (fun _ => x) r := ⟨0, fun _ _ => h⟩
theorem Ev.bind {α β : Type} {F : Nat → Option α} {G : Nat → α → Option β} {a : α} {r : β} (h : Ev F a) (h2 : Ev (fun k => G k a) r) : Ev (fun k => (F k).bind (G k)) r := by
  obtain ⟨n, hn⟩ := h
  obtain ⟨m, hm⟩ := h2
  refine ⟨n + m, fun k hk => ?_⟩
  show (F k).bind (G k) = some r
  rw [hn k (by omega)]
  exact hm k (by omega)
theorem Ev.step {α : Type} {F : Nat → Option α} {r : α} (h : Ev (fun k => F (k + 1)) r) : Ev F r := by
  obtain ⟨n, hn⟩ := h
  refine ⟨n + 1, fun k hk => ?_⟩
  obtain ⟨j, rfl⟩ : ∃ j, k = j + 1 := ⟨k - 1, by omega⟩
  exact hn j (by omega)
theorem Ev.get {α : Type} {F : Nat → Option α} {r : α} (h : Ev F r) : ∃ k, F k = some r := by
  obtain ⟨n, hn⟩ := h
  exact ⟨n, hn n (Nat.le_refl _)⟩
theorem Ev.pos {α : Type} {c : Prop} [Decidable c] {F G : Nat → Option α} {r : α} (hc : c) (h : Ev F r) : Ev (fun k => if c then F k else G k) r := by
  simp only [if_pos hc]
  exact h
theorem Ev.neg {α : Type} {c : Prop} [Decidable c] {F G : Nat → Option α} {r : α} (hc : ¬ c) (h : Ev G r) : Ev (fun k => if c then F k else G k) r := by
  simp only [if_neg hc]
  exact h
theorem Ev.eq {α : Type} {F : Nat → Option α} {r s : α} (h : Ev F r) (e : r = s) : Ev F s := e ▸ h
instance lawfulBytes : LawfulBEq ByteArray where
  eq_of_beq {a b} h := by
    cases a with
    | mk x =>
      cases b with
      | mk y =>
        have h2 : (x == y) = true := h
        rw [eq_of_beq h2]
  rfl {a} := by
    cases a with
    | mk x => exact (beq_self_eq_true x : (x == x) = true)
theorem bytes_eq {s t : ByteArray} : s.toList = t.toList ↔ s = t := by
  constructor
  · intro h
    rw [ByteArray.toList_eq, ByteArray.toList_eq] at h
    exact bytes_inj h
  · rintro rfl
    rfl
theorem wrap64_succ {i : Int} (h0 : 0 ≤ i) (h1 : i < 9223372036854775807) : wrap64 (i + 1) = i + 1 := IntWalk.wrap64_in _ (by omega)
theorem rdOf_nat {α : Type} (d : α) (xs : List α) (i : Nat) (h : i < xs.length) : rdOf d xs (i : Int) = xs[i] := by
  simp [rdOf, h]
/-! ### Has, Contains -/
theorem mem_drop {l : List ByteArray} {x : ByteArray} {i : Nat} (hi : i < l.length) : x ∈ l.drop i ↔ x = l[i] ∨ x ∈ l.drop (i + 1) := by rw [List.drop_eq_getElem_cons hi, List.mem_cons]
theorem has_l0 (l : List ByteArray) (x : ByteArray) (hl : l.length < 1000000) : ∀ (m i : Nat), i + m = l.length → Ev (fun k => sequiturbase_Has.l0 k l x (i : Int)) (decide (x ∈ l.drop i))
  | 0, i, h => by
    refine Ev.step ?_
    simp only [sequiturbase_Has.l0]
    refine Ev.neg (by omega) ?_
    rw [List.drop_eq_nil_of_le (by omega)]
    exact (Ev.const false).eq (by simp)
  | m + 1, i, h => by
    refine Ev.step ?_
    simp only [sequiturbase_Has.l0]
    refine Ev.pos (by omega) (Ev.pos (by omega) ?_)
    have hi : i < l.length := by omega
    rw [rdOf_nat _ _ _ hi]
    by_cases he : l[i].toList = x.toList
    · refine Ev.pos he ((Ev.const true).eq ?_)
      exact (decide_eq_true ((mem_drop hi).2 (.inl (bytes_eq.1 he).symm))).symm
    · refine Ev.neg he ?_
      rw [wrap64_succ (by omega) (by omega)]
      refine (has_l0 l x hl m (i + 1) (by omega)).eq (decide_eq_decide.2 ?_)
      have hne : ¬ x = l[i] := fun e => he (by rw [e])
      rw [mem_drop hi]
      exact ⟨.inr, fun h => h.resolve_left hne⟩
theorem has_ev (l : List ByteArray) (x : ByteArray) (hl : l.length < 1000000) : Ev (fun k => sequiturbase_Has.f k l x) (decide (x ∈ l)) := by
  have := has_l0 l x hl l.length 0 (by omega)
  simpa [sequiturbase_Has.f] using this
theorem index_l0 (l : List ByteArray) (x : ByteArray) (hl : l.length < 1000000) : ∀ (m i : Nat), i + m = l.length → ∃ v, Ev (fun k => slices_Index_string_string.l0 k l x (l.length : Int) (i : Int)) v ∧ decide (v ≥ 0) = decide (x ∈ l.drop i)
  | 0, i, h => by
    refine ⟨-1, ?_, ?_⟩
    · refine Ev.step ?_
      simp only [slices_Index_string_string.l0]
      exact Ev.neg (by omega) (Ev.const _)
    · rw [List.drop_eq_nil_of_le (by omega)]
      simp
  | m + 1, i, h => by
    have hi : i < l.length := by omega
    by_cases he : x.toList = l[i].toList
    · refine ⟨(i : Int), ?_, ?_⟩
      · refine Ev.step ?_
        simp only [slices_Index_string_string.l0]
        refine Ev.pos (by omega) (Ev.pos (by omega) (Ev.pos (by omega) ?_))
        rw [rdOf_nat _ _ _ hi]
        exact Ev.pos he (Ev.const _)
      · rw [decide_eq_true ((mem_drop hi).2 (.inl (bytes_eq.1 he)))]
        exact decide_eq_true (by omega)
    · obtain ⟨v, hv, hd⟩ := index_l0 l x hl m (i + 1) (by omega)
      refine ⟨v, ?_, ?_⟩
      · refine Ev.step ?_
        simp only [slices_Index_string_string.l0]
        refine Ev.pos (by omega) (Ev.pos (by omega) (Ev.pos (by omega) ?_))
        rw [rdOf_nat _ _ _ hi]
        refine Ev.neg he ?_
        rw [wrap64_succ (by omega) (by omega)]
        exact hv
      · rw [hd]
        have hne : ¬ x = l[i] := fun e => he (by rw [← e])
        refine decide_eq_decide.2 ?_
        rw [mem_drop hi]
        exact ⟨.inr, fun h => h.resolve_left hne⟩
theorem contains_ev (l : List ByteArray) (x : ByteArray) (hl : l.length < 1000000) : Ev (fun k => slices_Contains_string_string.f k l x) (decide (x ∈ l)) := by
  obtain ⟨v, hv, hd⟩ := index_l0 l x hl l.length 0 (by omega)
  simp only [slices_Contains_string_string.f, slices_Index_string_string.f]
  refine Ev.bind hv ((Ev.const _).eq ?_)
  simpa using hd
/-! ### numerals -/
def numB (n : Nat) : ByteArray := ⟨(Lib.decDigits n).toArray⟩
theorem wrapU_in {x : Int} (h0 : 0 ≤ x) (h1 : x < 18446744073709551616) : IntKind.u64.wrap x = x := by
  simp [IntKind.wrap, IntKind.signed, IntKind.bits]
  omega
theorem digits_ev (n : Nat) (hn : n < 18446744073709551616) : Ev (fun k => sequiturbase_digits.f k (n : Int)) (numB n) := by
  induction n using Nat.strongRecOn with
  | _ n ih =>
  refine Ev.step ?_
  simp only [sequiturbase_digits.f]
  by_cases h : n < 10
  · refine Ev.pos (by omega) ((Ev.const _).eq ?_)
    rw [wrapU_in (by omega) (by omega), numB, Lib.decDigits, dif_pos h]
    have : ((48 + (n : Int)) % 256).toNat = 48 + n := by omega
    simp [strOfNums, this]
  · refine Ev.neg (by omega) ?_
    have e1 : Int.tdiv (n : Int) 10 = ((n / 10 : Nat) : Int) := by rw [Int.tdiv_eq_ediv_of_nonneg (by omega)]; omega
    have e2 : Int.tmod (n : Int) 10 = ((n % 10 : Nat) : Int) := by rw [Int.tmod_eq_emod_of_nonneg (by omega)]; omega
    rw [e1, e2, wrapU_in (x := ((n / 10 : Nat) : Int)) (by omega) (by omega), wrapU_in (x := 48 + ((n % 10 : Nat) : Int)) (by omega) (by omega)]
    refine Ev.bind (ih (n / 10) (by omega) (by omega)) (Ev.bind (Ev.const _) ?_)
    have hs : (numB (n / 10)).size ≤ 1000000 := by
      have h1 := Lib.itoa_length_le ((n / 10 : Nat) : Int) (by omega) (by omega)
      rw [Lib.itoa_nonneg] at h1
      simp only [numB, ByteArray.size, List.size_toArray]
      omega
    refine Ev.pos (by rw [strOfNums_size]; simp; omega) ((Ev.const _).eq ?_)
    have h3 : ((48 + ((n % 10 : Nat) : Int)) % 256).toNat = 48 + n % 10 := by omega
    apply bytes_inj
    rw [ByteArray.data_append]
    simp only [numB, strOfNums, List.map_cons, List.map_nil, h3]
    conv => rhs; rw [Lib.decDigits, dif_neg h]
    simp
theorem Digits_ev (n : Nat) (hn : n < 9223372036854775808) : Ev (fun k => sequiturbase_Digits.f k (n : Int)) (numB n) := by
  simp only [sequiturbase_Digits.f]
  refine Ev.neg (by omega) ?_
  rw [wrapU_in (by omega) (by omega)]
  exact Ev.bind (digits_ev n (by omega)) (Ev.const _)
theorem numB_size (n : Nat) (hn : n < 9223372036854775808) : (numB n).size ≤ 21 := by
  have h1 := Lib.itoa_length_le (n : Int) (by omega) (by omega)
  rw [Lib.itoa_nonneg] at h1
  simpa [numB, ByteArray.size] using h1
theorem text_eq (n : Nat) (hn : n < 9223372036854775808) : digit_Text.f (n : Int) = some (numB n) := by
  unfold digit_Text.f
  rw [if_pos (by omega), Lib.itoa_nonneg]
  rfl
theorem decDigits_ne (n : Nat) : Lib.decDigits n ≠ [] := by
  intro h
  have := congrArg List.length h
  rw [Lib.decDigits_length] at this
  have h2 := Lib.nDigits_pos n
  simp at this
  omega
theorem digit_inj {a b : Nat} (ha : a < 10) (hb : b < 10) (h : UInt8.ofNat (48 + a) = UInt8.ofNat (48 + b)) : a = b := by
  have := congrArg UInt8.toNat h
  simp at this
  omega
theorem decDigits_inj (a : Nat) : ∀ b, Lib.decDigits a = Lib.decDigits b → a = b := by
  induction a using Nat.strongRecOn with
  | _ a ih =>
  intro b h
  by_cases ha : a < 10
  · by_cases hb : b < 10
    · rw [Lib.decDigits, dif_pos ha] at h
      rw [Lib.decDigits, dif_pos hb] at h
      exact digit_inj ha hb (by simpa using h)
    · rw [Lib.decDigits, dif_pos ha] at h
      rw [Lib.decDigits, dif_neg hb] at h
      have := decDigits_ne (b / 10)
      cases hd : Lib.decDigits (b / 10) with
      | nil => exact absurd hd this
      | cons x xs => rw [hd] at h; simp at h
  · by_cases hb : b < 10
    · rw [Lib.decDigits, dif_neg ha] at h
      conv at h => rhs; rw [Lib.decDigits, dif_pos hb]
      have := decDigits_ne (a / 10)
      cases hd : Lib.decDigits (a / 10) with
      | nil => exact absurd hd this
      | cons x xs => rw [hd] at h; simp at h
    · rw [Lib.decDigits, dif_neg ha] at h
      conv at h => rhs; rw [Lib.decDigits, dif_neg hb]
      obtain ⟨h1, h2⟩ := List.append_inj' h rfl
      have h3 := ih (a / 10) (by omega) (b / 10) h1
      have h4 := digit_inj (a := a % 10) (b := b % 10) (by omega) (by omega) (by simpa using h2)
      omega
/-! ### Fresh -/
def cand (base : ByteArray) (n : Nat) : ByteArray := if n = 0 then base else base ++ numB n
theorem cand_inj {base : ByteArray} {a b : Nat} (h : cand base a = cand base b) : a = b := by
  have hz : ∀ n, base ++ numB n ≠ base := by
    intro n e
    have := congrArg ByteArray.size e
    rw [ByteArray.size_append] at this
    have h2 := decDigits_ne n
    have h3 : (numB n).size = 0 := by omega
    simp only [numB, ByteArray.size, List.size_toArray] at h3
    exact h2 (List.eq_nil_of_length_eq_zero h3)
  unfold cand at h
  by_cases ha : a = 0
  · by_cases hb : b = 0
    · omega
    · rw [if_pos ha, if_neg hb] at h
      exact absurd h.symm (hz b)
  · by_cases hb : b = 0
    · rw [if_neg ha, if_pos hb] at h
      exact absurd h (hz a)
    · rw [if_neg ha, if_neg hb] at h
      have h2 := congrArg (fun s => s.data.toList) h
      simp only [ByteArray.data_append, Array.toList_append] at h2
      exact decDigits_inj a b (by simpa [numB] using List.append_cancel_left h2)
theorem pigeon {α : Type} : ∀ (l : List α) (f : Nat → α) (_ : ∀ a b, f a = f b → a = b) (m : Nat) (_ : ∀ n, n < m → f n ∈ l), m ≤ l.length
  | [], f, hf, m, h => by
    cases m with
    | zero => simp
    | succ m => exact absurd (h 0 (by omega)) (by simp)
  | x :: t, f, hf, m, h => by
    by_cases hx : ∃ n, n < m ∧ f n = x
    · obtain ⟨n0, hn0, e0⟩ := hx
      have := pigeon t (fun n => if n < n0 then f n else f (n + 1)) (by
        intro a b e
        split at e <;> split at e
        · exact hf _ _ e
        · have := hf _ _ e; omega
        · have := hf _ _ e; omega
        · have := hf _ _ e; omega) (m - 1) (by
        intro n hn
        split
        · have := h n (by omega)
          rcases List.mem_cons.1 this with e | e
          · have := hf _ _ (e.trans e0.symm); omega
          · exact e
        · have := h (n + 1) (by omega)
          rcases List.mem_cons.1 this with e | e
          · have := hf _ _ (e.trans e0.symm); omega
          · exact e)
      simp
      omega
    · have := pigeon t f hf m (by
        intro n hn
        clear hf
        rcases List.mem_cons.1 (h n hn) with e | e
        · exact absurd ⟨n, hn, e⟩ hx
        · exact e)
      simp
      omega
theorem least {p : Nat → Prop} [DecidablePred p] : ∀ L, (∃ n, n ≤ L ∧ p n) → ∃ N, N ≤ L ∧ p N ∧ ∀ m, m < N → ¬ p m
  | 0, ⟨n, hn, hp⟩ => ⟨0, by omega, by rwa [show n = 0 by omega] at hp, fun m hm => by omega⟩
  | L + 1, ⟨n, hn, hp⟩ => by
    by_cases h : ∃ n, n ≤ L ∧ p n
    · obtain ⟨N, h1, h2, h3⟩ := least L h
      exact ⟨N, by omega, h2, h3⟩
    · refine ⟨n, hn, hp, fun m hm hpm => h ⟨m, by omega, hpm⟩⟩
/-- The first name that is not taken. -/
theorem fresh_at (base : ByteArray) (taken : List ByteArray) : ∃ N, N ≤ taken.length ∧ cand base N ∉ taken ∧ ∀ m, m < N → cand base m ∈ taken := by
  obtain ⟨N, h1, h2, h3⟩ := least (p := fun n => cand base n ∉ taken) taken.length (by
    by_cases h : ∃ n, n ≤ taken.length ∧ cand base n ∉ taken
    · exact h
    · exfalso
      have := pigeon taken (cand base) (fun _ _ => cand_inj) (taken.length + 1) (fun n hn => by
        by_cases hm : cand base n ∈ taken
        · exact hm
        · exact absurd ⟨n, by omega, hm⟩ h)
      omega)
  exact ⟨N, h1, h2, fun m hm => by simpa using h3 m hm⟩
theorem index_eq (base : ByteArray) (n : Nat) (hb : base.size ≤ 1000000000) (hn : n < 9223372036854775808) : digit_Index.f base (n : Int) = some (cand base n) := by
  unfold digit_Index.f cand
  by_cases h : n = 0
  · rw [if_pos (by omega), if_pos h]
  · rw [if_neg (by omega), if_neg h, text_eq n hn]
    have := numB_size n hn
    simp only [Option.bind_some]
    rw [if_pos (by omega)]
theorem fresh_l0 (base : ByteArray) (taken : List ByteArray) (hb : base.size ≤ 1000000000) (hl : taken.length < 1000000) (N : Nat) (hN : N ≤ taken.length) (h1 : cand base N ∉ taken) (h2 : ∀ m, m < N → cand base m ∈ taken) :
    ∀ (m i : Nat), i + m = N → Ev (fun k => show_Fresh.l0 k base taken (i : Int)) (cand base N)
  | 0, i, h => by
    obtain rfl : i = N := by omega
    refine Ev.step ?_
    simp only [show_Fresh.l0]
    refine Ev.bind (Ev.of_eq (index_eq base i hb (by omega))) (Ev.bind (contains_ev taken _ hl) ?_)
    exact Ev.neg (by simp [h1]) (Ev.const _)
  | m + 1, i, h => by
    refine Ev.step ?_
    simp only [show_Fresh.l0]
    refine Ev.bind (Ev.of_eq (index_eq base i hb (by omega))) (Ev.bind (contains_ev taken _ hl) ?_)
    refine Ev.pos (by simp [h2 i (by omega)]) ?_
    rw [wrap64_succ (by omega) (by omega)]
    exact fresh_l0 base taken hb hl N hN h1 h2 m (i + 1) (by omega)
theorem ref_l0 (base : ByteArray) (taken : List ByteArray) (hb : base.size ≤ 1000000000) (hl : taken.length < 1000000) (N : Nat) (hN : N ≤ taken.length) (h1 : cand base N ∉ taken) (h2 : ∀ m, m < N → cand base m ∈ taken) :
    ∀ (m i : Nat), i + m = N → Ev (fun k => sequiturref14_Fresh.l0 k base taken (cand base i) ((i + 1 : Nat) : Int)) (cand base N)
  | 0, i, h => by
    obtain rfl : i = N := by omega
    refine Ev.step ?_
    simp only [sequiturref14_Fresh.l0]
    refine Ev.bind (has_ev taken _ hl) ?_
    exact Ev.neg (by simp [h1]) (Ev.const _)
  | m + 1, i, h => by
    refine Ev.step ?_
    simp only [sequiturref14_Fresh.l0]
    refine Ev.bind (has_ev taken _ hl) ?_
    refine Ev.pos (by simp [h2 i (by omega)]) (Ev.bind (Digits_ev (i + 1) (by omega)) ?_)
    have := numB_size (i + 1) (by omega)
    refine Ev.pos (by omega) ?_
    rw [wrap64_succ (by omega) (by omega)]
    have e : base ++ numB (i + 1) = cand base (i + 1) := by simp [cand]
    rw [e]
    exact ref_l0 base taken hb hl N hN h1 h2 m (i + 1) (by omega)
theorem fresh_both (base : ByteArray) (taken : List ByteArray) (hb : base.size ≤ 1000000000) (hl : taken.length < 1000000) :
    ∃ s, Ev (fun k => show_Fresh.f k base taken) s ∧ Ev (fun k => sequiturref14_Fresh.f k base taken) s ∧ s ∉ taken ∧ (base ∉ taken → s = base) ∧ s.size ≤ base.size + 21 := by
  obtain ⟨N, h0, h1, h2⟩ := fresh_at base taken
  refine ⟨cand base N, ?_, ?_, h1, ?_, ?_⟩
  · have := fresh_l0 base taken hb hl N h0 h1 h2 N 0 (by omega)
    simpa [show_Fresh.f] using this
  · have := ref_l0 base taken hb hl N h0 h1 h2 N 0 (by omega)
    simpa [sequiturref14_Fresh.f, cand] using this
  · intro hn
    have : N = 0 := by
      cases N with
      | zero => rfl
      | succ n => exact absurd (h2 0 (by omega)) (by simpa [cand] using hn)
    simp [this, cand]
  · unfold cand
    split
    · omega
    · have := numB_size N (by omega)
      rw [ByteArray.size_append]
      omega
end Go.Proofs.YtmlkllbaehegjaaDoor.PAll
end
section
namespace Go.Proofs.YtmlkllbaehegjaaDoor.PAll
open Go.RowKit Go.Proofs.YtmlkllbaehegjaaDoorW.PrintWords Go.Proofs.YtmlkllbaehegjaaDoorW.PrintLast Go.Proofs.YtmlkllbaehegjaaDoorW.PrintMore
attribute [local go_sem] max2_int min2_int max_two min_two max_three min_three max_four min_four   -- for this text's walks alone
set_option linter.unusedVariables false
set_option linter.unusedSimpArgs false
/-! ### sequiturref08_deep: function 44 -/
mutual
def sequiturref08_deep.l0 : Nat → Int → Int → Int → Int → ByteArray → ByteArray → List (S53) → List (S30) → Option (Int)
  | 0, _, _, _, _, _, _, _, _ => none
  | k + 1, x1, x5, x6, x337000, x337001, x337002, x337003, x337004 => if x6 < (x337004.length : Int) then (if 0 ≤ x6 then ((sequiturref08_deep.f k ((rd_T30 x337004 x6).f0) ((rd_T30 x337004 x6).f1) ((rd_T30 x337004 x6).f2) ((rd_T30 x337004 x6).f3) ((rd_T30 x337004 x6).f4) (wrap64 (x1 - 1))).bind fun t338 => (if t338 > x5 then (sequiturref08_deep.l0 k x1 t338 (wrap64 (x6 + 1)) x337000 x337001 x337002 x337003 x337004) else (sequiturref08_deep.l0 k x1 x5 (wrap64 (x6 + 1)) x337000 x337001 x337002 x337003 x337004))) else (none)) else (some (wrap64 (x5 + 1)))
def sequiturref08_deep.f : Nat → Int → ByteArray → ByteArray → List (S53) → List (S30) → Int → Option (Int)
  | 0, _, _, _, _, _, _ => none
  | k + 1, a0_0, a0_1, a0_2, l0_3, l0_4, a1 => if a1 ≤ 1 then (some 1) else (sequiturref08_deep.l0 k a1 0 0 a0_0 a0_1 a0_2 l0_3 l0_4)
end
set_option maxHeartbeats 8000000 in
set_option maxRecDepth 100000 in
theorem sequiturref08_deep.calls (k : Nat) : ∀ (a0_0 : Int) (a0_1 : ByteArray) (a0_2 : ByteArray) (A0_3 : Option Addr) (c0_3 : Nat) (l0_3 : List (S53)) (A0_4 : Option Addr) (c0_4 : Nat) (l0_4 : List (S30)) (a1 : Int) (r : Int) (w : World) (hr0_3 : Kd.C k53 w A0_3 l0_3.length l0_3) (hc0_3 : l0_3.length ≤ c0_3) (hr0_4 : Kd.C k30 w A0_4 l0_4.length l0_4) (hc0_4 : l0_4.length ≤ c0_4) (h : sequiturref08_deep.f k a0_0 a0_1 a0_2 l0_3 l0_4 a1 = some r),
    Calls Tryd.prog 44 #[.agg #[.int .i64 a0_0, .string a0_1, .string a0_2, .slice A0_3 l0_3.length c0_3, .slice A0_4 l0_4.length c0_4], .int .i64 a1] w fun e w' => e = .returned (.int .i64 r) ∧ Below w.heap.size w w' := by
  induction k using Nat.strongRecOn with
  | _ k ih =>
  intro a0_0 a0_1 a0_2 A0_3 c0_3 l0_3 A0_4 c0_4 l0_4 a1 r w hr0_3 hc0_3 hr0_4 hc0_4 h
  cases k with
  | zero => exact absurd h (by simp [sequiturref08_deep.f])
  | succ k =>
  simp only [sequiturref08_deep.f] at h; have hu30 := Tryd.underlying30; have HR0_3 := am hr0_3; have HC0_3 := am hc0_3; clear hr0_3 hc0_3; have HR0_4 := am hr0_4; have HC0_4 := am hc0_4; clear hr0_4 hc0_4; have HB := am (Below.refl w.heap.size w); have H := h; clear h
  by_cases c3 : a1 ≤ 1
  ·rw [if_pos c3] at H
   have c3b0 : decide (a1 ≤ 1) = true := decide_eq_true c3; clear c3; obtain rfl := Option.some.inj H
   go_enter Tryd.func44, Tryd.ntmps44
   go_wp2_with (first | ((with_reducible refine gate_dst (N := 2) rfl ?_); refine bE 2 #[.int .i64 a0_0, .string a0_1, .string a0_2, .slice A0_3 l0_3.length c0_3, .slice A0_4 l0_4.length c0_4] 30 ?_; intro gb336 w4 BK336 hg hb; have GW336 := bZ hg; have GE336 := bZ hg; replace HB := bH hb; clear hb hg))
   go_ret; exact ⟨eW, bB⟩
  ·rw [if_neg c3] at H
   have c3b0 : decide (a1 ≤ 1) = false := decide_eq_false c3; clear c3; have H' := am H; clear H
   go_enter Tryd.func44, Tryd.ntmps44
   go_wp2_with (first | ((with_reducible refine gate_dst (N := 2) rfl ?_); refine bE 2 #[.int .i64 a0_0, .string a0_1, .string a0_2, .slice A0_3 l0_3.length c0_3, .slice A0_4 l0_4.length c0_4] 30 ?_; intro gb336 w5 BK336 hg hb; have GW336 := bZ hg; have GE336 := bZ hg; replace HB := bH hb; clear hb hg))
   go_loopg [5, 6] k (fun kq v5 v6 w' => ∃ (x5_1 : Int) (x6_1 : Int), v5 = .int .i64 x5_1 ∧ v6 = .int .i64 x6_1 ∧ Aside0 (sequiturref08_deep.l0 kq a1 x5_1 x6_1 a0_0 a0_1 a0_2 l0_3 l0_4 = some r) ∧ Aside0 (kq ≤ k) ∧ Aside0 (w'.heap[gb336]? = some (.cells #[.int .i64 a0_0, .string a0_1, .string a0_2, (.slice A0_3 l0_3.length c0_3), (.slice A0_4 l0_4.length c0_4)] 30 (0, 0))) ∧ Aside0 (Below w.heap.size w w'))
   case atStart => exact ⟨(0), (0), eS, eS, H', ⟨Nat.le_refl _⟩, ⟨bD BK336⟩, ⟨bB⟩⟩
   case round =>
    clear H'; (try clear p2); (try clear c3); (try clear c3b0); (try clear c4); obtain ⟨x5_1, x6_1, rfl, rfl, HA, HK1, BK336, HB⟩ := hrel
    cases gk with
    | zero => exact absurd HA.out (by simp [sequiturref08_deep.l0])
    | succ k1 =>
     have H := HA.out; clear HA; simp only [sequiturref08_deep.l0] at H
     by_cases c6 : x6_1 < (l0_4.length : Int)
     ·rw [if_pos c6] at H
      have c6b0 : decide (x6_1 < (l0_4.length : Int)) = true := decide_eq_true c6; clear c6
      by_cases c7 : 0 ≤ x6_1
      ·rw [if_pos c7] at H
       have c7b0 : decide (0 ≤ x6_1) = true := decide_eq_true c7; clear c7; obtain ⟨t338, A8, H⟩ := bO H
       by_cases c9 : t338 > x5_1
       ·rw [if_pos c9] at H
        have c9b0 : decide (x5_1 < t338) = true := decide_eq_true c9; clear c9; have H' := am H; clear H; obtain ⟨z10_0, z10_1, z10_2, z10_3, z10_4, y10_0, y10_1, y10_2, y10_3, y10_4⟩ := y5 BK336; have p337 : 0 ≤ (x6_1 : Int) := of_decide_eq_true eA; have q337 : x6_1 < (l0_4.length : Int) := of_decide_eq_true eA; obtain ⟨ad337, A337_3, c337_3, A337_4, c337_4, e337, hx337_0, hx337_1, hx337_2, hx337_3, hx337_4, hl337_3, hi337_3, hl337_4, hi337_4⟩ := at_T30 HR0_4.out x6_1 p337 q337
        cases e337
        replace hx337_0 := cX HB hx337_0; replace hx337_1 := cX HB hx337_1; replace hx337_2 := cX HB hx337_2; replace hx337_3 := cX HB hx337_3; replace hx337_4 := cX HB hx337_4; have HR337_3 := am hi337_3; have HC337_3 := am hl337_3; clear hi337_3 hl337_3; have HR337_4 := am hi337_4; have HC337_4 := am hl337_4; clear hi337_4 hl337_4; replace p337 := eq_true p337; replace q337 := eq_true q337
        go_wp2_with (first | ((with_reducible refine gate_callee (f := 44) rfl ?_); refine gL 24 Tryd.func44 #[.agg #[.int .i64 ((rd_T30 l0_4 x6_1).f0), .string ((rd_T30 l0_4 x6_1).f1), .string ((rd_T30 l0_4 x6_1).f2), .slice A337_3 ((rd_T30 l0_4 x6_1).f3).length c337_3, .slice A337_4 ((rd_T30 l0_4 x6_1).f4).length c337_4], .int .i64 (wrap64 (a1 - 1))] ?_; (with_reducible refine (ih k1 (by have := HK1.out; omega) ((rd_T30 l0_4 x6_1).f0) ((rd_T30 l0_4 x6_1).f1) ((rd_T30 l0_4 x6_1).f2) _ _ ((rd_T30 l0_4 x6_1).f3) _ _ ((rd_T30 l0_4 x6_1).f4) (wrap64 (a1 - 1)) t338 _ ?side1 HC337_3.out ?side3 HC337_4.out A8.out).mono ?_); (case side1 => exact cB HR337_3); (case side3 => exact cB HR337_4); rintro e w11 ⟨rfl, hb⟩; refine ⟨_, rfl, ?_⟩; replace BK336 := bK BK336 hb; replace HB := bH hb; clear hb))
        go_roundg k1
        case measure => have := HK1.out; omega
        case rel => exact ⟨(t338), (wrap64 (x6_1 + 1)), eS, eS, H', ⟨by have := HK1.out; omega⟩, ⟨bD BK336⟩, ⟨bB⟩⟩
       ·rw [if_neg c9] at H
        have c9b0 : decide (x5_1 < t338) = false := decide_eq_false c9; clear c9; have H' := am H; clear H; obtain ⟨z12_0, z12_1, z12_2, z12_3, z12_4, y12_0, y12_1, y12_2, y12_3, y12_4⟩ := y5 BK336; have p337 : 0 ≤ (x6_1 : Int) := of_decide_eq_true eA; have q337 : x6_1 < (l0_4.length : Int) := of_decide_eq_true eA; obtain ⟨ad337, A337_3, c337_3, A337_4, c337_4, e337, hx337_0, hx337_1, hx337_2, hx337_3, hx337_4, hl337_3, hi337_3, hl337_4, hi337_4⟩ := at_T30 HR0_4.out x6_1 p337 q337
        cases e337
        replace hx337_0 := cX HB hx337_0; replace hx337_1 := cX HB hx337_1; replace hx337_2 := cX HB hx337_2; replace hx337_3 := cX HB hx337_3; replace hx337_4 := cX HB hx337_4; have HR337_3 := am hi337_3; have HC337_3 := am hl337_3; clear hi337_3 hl337_3; have HR337_4 := am hi337_4; have HC337_4 := am hl337_4; clear hi337_4 hl337_4; replace p337 := eq_true p337; replace q337 := eq_true q337
        go_wp2_with (first | ((with_reducible refine gate_callee (f := 44) rfl ?_); refine gL 24 Tryd.func44 #[.agg #[.int .i64 ((rd_T30 l0_4 x6_1).f0), .string ((rd_T30 l0_4 x6_1).f1), .string ((rd_T30 l0_4 x6_1).f2), .slice A337_3 ((rd_T30 l0_4 x6_1).f3).length c337_3, .slice A337_4 ((rd_T30 l0_4 x6_1).f4).length c337_4], .int .i64 (wrap64 (a1 - 1))] ?_; (with_reducible refine (ih k1 (by have := HK1.out; omega) ((rd_T30 l0_4 x6_1).f0) ((rd_T30 l0_4 x6_1).f1) ((rd_T30 l0_4 x6_1).f2) _ _ ((rd_T30 l0_4 x6_1).f3) _ _ ((rd_T30 l0_4 x6_1).f4) (wrap64 (a1 - 1)) t338 _ ?side1 HC337_3.out ?side3 HC337_4.out A8.out).mono ?_); (case side1 => exact cB HR337_3); (case side3 => exact cB HR337_4); rintro e w13 ⟨rfl, hb⟩; refine ⟨_, rfl, ?_⟩; replace BK336 := bK BK336 hb; replace HB := bH hb; clear hb))
        go_roundg k1
        case measure => have := HK1.out; omega
        case rel => exact ⟨(x5_1), (wrap64 (x6_1 + 1)), eS, eS, H', ⟨by have := HK1.out; omega⟩, ⟨bD BK336⟩, ⟨bB⟩⟩
      ·rw [if_neg c7] at H
       exact absurd H (by simp)
     ·rw [if_neg c6] at H
      have c6b0 : decide (x6_1 < (l0_4.length : Int)) = false := decide_eq_false c6; clear c6; obtain rfl := Option.some.inj H; obtain ⟨z14_0, z14_1, z14_2, z14_3, z14_4, y14_0, y14_1, y14_2, y14_3, y14_4⟩ := y5 BK336; go_wp2; go_ret; exact ⟨eW, bB⟩
end Go.Proofs.YtmlkllbaehegjaaDoor.PAll
end
section
namespace Go.Proofs.YtmlkllbaehegjaaDoor.PAll
open Go.RowKit Go.Proofs.YtmlkllbaehegjaaDoorW.PrintWords Go.Proofs.YtmlkllbaehegjaaDoorW.PrintLast Go.Proofs.YtmlkllbaehegjaaDoorW.PrintMore
attribute [local go_sem] max2_int min2_int max_two min_two max_three min_three max_four min_four
set_option linter.unusedVariables false
set_option linter.unusedSimpArgs false
/-! ### sequiturref08_Depth: function 29 -/
def sequiturref08_Depth.f (k : Nat) (a0_0 : Int) (a0_1 : ByteArray) (a0_2 : ByteArray) (l0_3 : List (S53)) (l0_4 : List (S30)) : Option (Int) := (sequiturref08_deep.f k a0_0 a0_1 a0_2 l0_3 l0_4 65).bind fun t340 => (some t340)
set_option maxHeartbeats 8000000 in
set_option maxRecDepth 100000 in
theorem sequiturref08_Depth.calls (k : Nat) (a0_0 : Int) (a0_1 : ByteArray) (a0_2 : ByteArray) (A0_3 : Option Addr) (c0_3 : Nat) (l0_3 : List (S53)) (A0_4 : Option Addr) (c0_4 : Nat) (l0_4 : List (S30)) (r : Int) (w : World) (hr0_3 : Kd.C k53 w A0_3 l0_3.length l0_3) (hc0_3 : l0_3.length ≤ c0_3) (hr0_4 : Kd.C k30 w A0_4 l0_4.length l0_4) (hc0_4 : l0_4.length ≤ c0_4) (h : sequiturref08_Depth.f k a0_0 a0_1 a0_2 l0_3 l0_4 = some r) :
    Calls Tryd.prog 29 #[.agg #[.int .i64 a0_0, .string a0_1, .string a0_2, .slice A0_3 l0_3.length c0_3, .slice A0_4 l0_4.length c0_4]] w fun e w' => e = .returned (.int .i64 r) ∧ Below w.heap.size w w' := by
  have hu30 := Tryd.underlying30; have HR0_3 := am hr0_3; have HC0_3 := am hc0_3; clear hr0_3 hc0_3; have HR0_4 := am hr0_4; have HC0_4 := am hc0_4; clear hr0_4 hc0_4; have HB := am (Below.refl w.heap.size w); have H := h; unfold sequiturref08_Depth.f at H; clear h; obtain ⟨t340, A2, H⟩ := bO H; obtain rfl := Option.some.inj H
  go_enter Tryd.func29, Tryd.ntmps29
  go_wp2_with (first | ((with_reducible refine gate_dst (N := 1) rfl ?_); refine bE 1 #[.int .i64 a0_0, .string a0_1, .string a0_2, .slice A0_3 l0_3.length c0_3, .slice A0_4 l0_4.length c0_4] 30 ?_; intro gb339 w3 BK339 hg hb; have GW339 := bZ hg; have GE339 := bZ hg; replace HB := bH hb; clear hb hg; obtain ⟨z4_0, z4_1, z4_2, z4_3, z4_4, y4_0, y4_1, y4_2, y4_3, y4_4⟩ := y5 BK339) | ((with_reducible refine gate_callee (f := 44) rfl ?_); refine gL 4 Tryd.func44 #[.agg #[.int .i64 a0_0, .string a0_1, .string a0_2, .slice A0_3 l0_3.length c0_3, .slice A0_4 l0_4.length c0_4], .int .i64 65] ?_; (with_reducible refine (sequiturref08_deep.calls k a0_0 a0_1 a0_2 _ _ l0_3 _ _ l0_4 65 t340 _ ?side1 HC0_3.out ?side3 HC0_4.out A2.out).mono ?_); (case side1 => exact cB HR0_3); (case side3 => exact cB HR0_4); rintro e w5 ⟨rfl, hb⟩; refine ⟨_, rfl, ?_⟩; replace BK339 := bK BK339 hb; replace HB := bH hb; clear hb))
  go_ret; exact ⟨eW, bB⟩
end Go.Proofs.YtmlkllbaehegjaaDoor.PAll
end
section
namespace Go.Proofs.YtmlkllbaehegjaaDoor.PAll
open Go.RowKit Go.Proofs.YtmlkllbaehegjaaDoorW.PrintWords Go.Proofs.YtmlkllbaehegjaaDoorW.PrintLast Go.Proofs.YtmlkllbaehegjaaDoorW.PrintMore
attribute [local go_sem] max2_int min2_int max_two min_two max_three min_three max_four min_four   -- for this text's walks alone
set_option linter.unusedVariables false
set_option linter.unusedSimpArgs false
/-! ### sequiturref08_size: function 62 -/
mutual
def sequiturref08_size.l0 : Nat → Int → Int → Int → Int → ByteArray → Int → List (S53) → Option (Int)
  | 0, _, _, _, _, _, _, _ => none
  | k + 1, x1, x5, x6, x342000, x342001, x342002, x342003 => if x6 < (x342003.length : Int) then (if x5 ≤ x1 then (if 0 ≤ x6 then ((sequiturref08_size.f k ((rd_T53 x342003 x6).f0) ((rd_T53 x342003 x6).f1) ((rd_T53 x342003 x6).f2) ((rd_T53 x342003 x6).f3) (wrap64 (x1 - x5))).bind fun t343 => (sequiturref08_size.l0 k x1 (wrap64 (x5 + t343)) (wrap64 (x6 + 1)) x342000 x342001 x342002 x342003)) else (none)) else (some x5)) else (some x5)
def sequiturref08_size.f : Nat → Int → ByteArray → Int → List (S53) → Int → Option (Int)
  | 0, _, _, _, _, _ => none
  | k + 1, a0_0, a0_1, a0_2, l0_3, a1 => sequiturref08_size.l0 k a1 1 0 a0_0 a0_1 a0_2 l0_3
end
set_option maxHeartbeats 8000000 in
set_option maxRecDepth 100000 in
theorem sequiturref08_size.calls (k : Nat) : ∀ (a0_0 : Int) (a0_1 : ByteArray) (a0_2 : Int) (A0_3 : Option Addr) (c0_3 : Nat) (l0_3 : List (S53)) (a1 : Int) (r : Int) (w : World) (hr0_3 : Kd.C k53 w A0_3 l0_3.length l0_3) (hc0_3 : l0_3.length ≤ c0_3) (h : sequiturref08_size.f k a0_0 a0_1 a0_2 l0_3 a1 = some r),
    Calls Tryd.prog 62 #[.agg #[.int .i64 a0_0, .string a0_1, .int .i64 a0_2, .slice A0_3 l0_3.length c0_3], .int .i64 a1] w fun e w' => e = .returned (.int .i64 r) ∧ Below w.heap.size w w' := by
  induction k using Nat.strongRecOn with
  | _ k ih =>
  intro a0_0 a0_1 a0_2 A0_3 c0_3 l0_3 a1 r w hr0_3 hc0_3 h
  cases k with
  | zero => exact absurd h (by simp [sequiturref08_size.f])
  | succ k =>
  simp only [sequiturref08_size.f] at h; have hu53 := Tryd.underlying53; have HR0_3 := am hr0_3; have HC0_3 := am hc0_3; clear hr0_3 hc0_3; have HB := am (Below.refl w.heap.size w); have H := h; clear h; have H' := am H; clear H
  go_enter Tryd.func62, Tryd.ntmps62
  go_wp2_with (first | ((with_reducible refine gate_dst (N := 2) rfl ?_); refine bE 2 #[.int .i64 a0_0, .string a0_1, .int .i64 a0_2, .slice A0_3 l0_3.length c0_3] 53 ?_; intro gb341 w3 BK341 hg hb; have GW341 := bZ hg; have GE341 := bZ hg; replace HB := bH hb; clear hb hg))
  go_loopg [5, 6] k (fun kq v5 v6 w' => ∃ (x5_1 : Int) (x6_1 : Int), v5 = .int .i64 x5_1 ∧ v6 = .int .i64 x6_1 ∧ Aside0 (sequiturref08_size.l0 kq a1 x5_1 x6_1 a0_0 a0_1 a0_2 l0_3 = some r) ∧ Aside0 (kq ≤ k) ∧ Aside0 (w'.heap[gb341]? = some (.cells #[.int .i64 a0_0, .string a0_1, .int .i64 a0_2, (.slice A0_3 l0_3.length c0_3)] 53 (0, 0))) ∧ Aside0 (Below w.heap.size w w'))
  case atStart => exact ⟨(1), (0), eS, eS, H', ⟨Nat.le_refl _⟩, ⟨bD BK341⟩, ⟨bB⟩⟩
  case round =>
   clear H'; (try clear p2); obtain ⟨x5_1, x6_1, rfl, rfl, HA, HK1, BK341, HB⟩ := hrel
   cases gk with
   | zero => exact absurd HA.out (by simp [sequiturref08_size.l0])
   | succ k1 =>
    have H := HA.out; clear HA; simp only [sequiturref08_size.l0] at H
    by_cases c4 : x6_1 < (l0_3.length : Int)
    ·rw [if_pos c4] at H
     have c4b0 : decide (x6_1 < (l0_3.length : Int)) = true := decide_eq_true c4; clear c4
     by_cases c5 : x5_1 ≤ a1
     ·rw [if_pos c5] at H
      have c5b0 : decide (x5_1 ≤ a1) = true := decide_eq_true c5; clear c5
      by_cases c6 : 0 ≤ x6_1
      ·rw [if_pos c6] at H
       have c6b0 : decide (0 ≤ x6_1) = true := decide_eq_true c6; clear c6; obtain ⟨t343, A7, H⟩ := bO H; have H' := am H; clear H; obtain ⟨z8_0, z8_1, z8_2, z8_3, y8_0, y8_1, y8_2, y8_3⟩ := y4 BK341; have p342 : 0 ≤ (x6_1 : Int) := of_decide_eq_true eA; have q342 : x6_1 < (l0_3.length : Int) := of_decide_eq_true eA; obtain ⟨ad342, A342_3, c342_3, e342, hx342_0, hx342_1, hx342_2, hx342_3, hl342_3, hi342_3⟩ := at_T53 HR0_3.out x6_1 p342 q342
       cases e342
       replace hx342_0 := cX HB hx342_0; replace hx342_1 := cX HB hx342_1; replace hx342_2 := cX HB hx342_2; replace hx342_3 := cX HB hx342_3; have HR342_3 := am hi342_3; have HC342_3 := am hl342_3; clear hi342_3 hl342_3; replace p342 := eq_true p342; replace q342 := eq_true q342
       go_wp2_with (first | ((with_reducible refine gate_callee (f := 62) rfl ?_); refine gL 28 Tryd.func62 #[.agg #[.int .i64 ((rd_T53 l0_3 x6_1).f0), .string ((rd_T53 l0_3 x6_1).f1), .int .i64 ((rd_T53 l0_3 x6_1).f2), .slice A342_3 ((rd_T53 l0_3 x6_1).f3).length c342_3], .int .i64 (wrap64 (a1 - x5_1))] ?_; (with_reducible refine (ih k1 (by have := HK1.out; omega) ((rd_T53 l0_3 x6_1).f0) ((rd_T53 l0_3 x6_1).f1) ((rd_T53 l0_3 x6_1).f2) _ _ ((rd_T53 l0_3 x6_1).f3) (wrap64 (a1 - x5_1)) t343 _ ?side1 HC342_3.out A7.out).mono ?_); (case side1 => exact cB HR342_3); rintro e w9 ⟨rfl, hb⟩; refine ⟨_, rfl, ?_⟩; replace BK341 := bK BK341 hb; replace HB := bH hb; clear hb))
       go_roundg k1
       case measure => have := HK1.out; omega
       case rel => exact ⟨(wrap64 (x5_1 + t343)), (wrap64 (x6_1 + 1)), eS, eS, H', ⟨by have := HK1.out; omega⟩, ⟨bD BK341⟩, ⟨bB⟩⟩
      ·rw [if_neg c6] at H
       exact absurd H (by simp)
     ·rw [if_neg c5] at H
      have c5b0 : decide (x5_1 ≤ a1) = false := decide_eq_false c5; clear c5; obtain rfl := Option.some.inj H; obtain ⟨z10_0, z10_1, z10_2, z10_3, y10_0, y10_1, y10_2, y10_3⟩ := y4 BK341; go_wp2; go_ret; exact ⟨eW, bB⟩
    ·rw [if_neg c4] at H
     have c4b0 : decide (x6_1 < (l0_3.length : Int)) = false := decide_eq_false c4; clear c4; obtain rfl := Option.some.inj H; obtain ⟨z11_0, z11_1, z11_2, z11_3, y11_0, y11_1, y11_2, y11_3⟩ := y4 BK341; go_wp2; go_ret; exact ⟨eW, bB⟩
end Go.Proofs.YtmlkllbaehegjaaDoor.PAll
end
section
namespace Go.Proofs.YtmlkllbaehegjaaDoor.PAll
open Go.RowKit Go.Proofs.YtmlkllbaehegjaaDoorW.PrintWords Go.Proofs.YtmlkllbaehegjaaDoorW.PrintLast Go.Proofs.YtmlkllbaehegjaaDoorW.PrintMore
attribute [local go_sem] max2_int min2_int max_two min_two max_three min_three max_four min_four   -- for this text's walks alone
set_option linter.unusedVariables false
set_option linter.unusedSimpArgs false
/-! ### sequiturref08_weigh: function 45 -/
mutual
def sequiturref08_weigh.j1 : Nat → Int → Int → Int → ByteArray → ByteArray → List (S53) → List (S30) → Option (Int)
  | 0, _, _, _, _, _, _, _ => none
  | k + 1, x1, x5, x345000, x345001, x345002, x345003, x345004 => sequiturref08_weigh.l1 k x1 x5 0 x345000 x345001 x345002 x345003 x345004
def sequiturref08_weigh.l1 : Nat → Int → Int → Int → Int → ByteArray → ByteArray → List (S53) → List (S30) → Option (Int)
  | 0, _, _, _, _, _, _, _, _ => none
  | k + 1, x1, x5, x7, x345000, x345001, x345002, x345003, x345004 => if x7 < (x345004.length : Int) then (if x5 ≤ x1 then (if 0 ≤ x7 then ((sequiturref08_weigh.f k ((rd_T30 x345004 x7).f0) ((rd_T30 x345004 x7).f1) ((rd_T30 x345004 x7).f2) ((rd_T30 x345004 x7).f3) ((rd_T30 x345004 x7).f4) (wrap64 (x1 - x5))).bind fun t348 => (sequiturref08_weigh.l1 k x1 (wrap64 (x5 + t348)) (wrap64 (x7 + 1)) x345000 x345001 x345002 x345003 x345004)) else (none)) else (some x5)) else (some x5)
def sequiturref08_weigh.l0 : Nat → Int → Int → Int → Int → ByteArray → ByteArray → List (S53) → List (S30) → Option (Int)
  | 0, _, _, _, _, _, _, _, _ => none
  | k + 1, x1, x5, x6, x345000, x345001, x345002, x345003, x345004 => if x6 < (x345003.length : Int) then (if x5 ≤ x1 then (if 0 ≤ x6 then ((sequiturref08_size.f k ((rd_T53 x345003 x6).f0) ((rd_T53 x345003 x6).f1) ((rd_T53 x345003 x6).f2) ((rd_T53 x345003 x6).f3) (wrap64 (x1 - x5))).bind fun t346 => (sequiturref08_weigh.l0 k x1 (wrap64 (x5 + t346)) (wrap64 (x6 + 1)) x345000 x345001 x345002 x345003 x345004)) else (none)) else (sequiturref08_weigh.j1 k x1 x5 x345000 x345001 x345002 x345003 x345004)) else (sequiturref08_weigh.j1 k x1 x5 x345000 x345001 x345002 x345003 x345004)
def sequiturref08_weigh.f : Nat → Int → ByteArray → ByteArray → List (S53) → List (S30) → Int → Option (Int)
  | 0, _, _, _, _, _, _ => none
  | k + 1, a0_0, a0_1, a0_2, l0_3, l0_4, a1 => sequiturref08_weigh.l0 k a1 1 0 a0_0 a0_1 a0_2 l0_3 l0_4
end
set_option maxHeartbeats 8000000 in
set_option maxRecDepth 100000 in
theorem sequiturref08_weigh.calls (k : Nat) : ∀ (a0_0 : Int) (a0_1 : ByteArray) (a0_2 : ByteArray) (A0_3 : Option Addr) (c0_3 : Nat) (l0_3 : List (S53)) (A0_4 : Option Addr) (c0_4 : Nat) (l0_4 : List (S30)) (a1 : Int) (r : Int) (w : World) (hr0_3 : Kd.C k53 w A0_3 l0_3.length l0_3) (hc0_3 : l0_3.length ≤ c0_3) (hr0_4 : Kd.C k30 w A0_4 l0_4.length l0_4) (hc0_4 : l0_4.length ≤ c0_4) (h : sequiturref08_weigh.f k a0_0 a0_1 a0_2 l0_3 l0_4 a1 = some r),
    Calls Tryd.prog 45 #[.agg #[.int .i64 a0_0, .string a0_1, .string a0_2, .slice A0_3 l0_3.length c0_3, .slice A0_4 l0_4.length c0_4], .int .i64 a1] w fun e w' => e = .returned (.int .i64 r) ∧ Below w.heap.size w w' := by
  induction k using Nat.strongRecOn with
  | _ k ih =>
  intro a0_0 a0_1 a0_2 A0_3 c0_3 l0_3 A0_4 c0_4 l0_4 a1 r w hr0_3 hc0_3 hr0_4 hc0_4 h
  cases k with
  | zero => exact absurd h (by simp [sequiturref08_weigh.f])
  | succ k =>
  simp only [sequiturref08_weigh.f] at h; have hu30 := Tryd.underlying30; have hu53 := Tryd.underlying53; have HR0_3 := am hr0_3; have HC0_3 := am hc0_3; clear hr0_3 hc0_3; have HR0_4 := am hr0_4; have HC0_4 := am hc0_4; clear hr0_4 hc0_4; have HB := am (Below.refl w.heap.size w); have H := h; clear h; have HC3 := am H; clear H
  go_enter Tryd.func45, Tryd.ntmps45
  go_upto_block 0 with (first | ((with_reducible refine gate_dst (N := 2) rfl ?_); refine bE 2 #[.int .i64 a0_0, .string a0_1, .string a0_2, .slice A0_3 l0_3.length c0_3, .slice A0_4 l0_4.length c0_4] 30 ?_; intro gb344 w4 BK344 hg hb; have GW344 := bZ hg; have GE344 := bZ hg; replace HB := bH hb; clear hb hg))
  (try simp only [Act.put, List.setIfInBounds_toArray, List.set_cons_zero, List.set_cons_succ])
  go_cut [5] (fun v5 wc => ∃ (kq : Nat) (x5_2 : Int), v5 = .int .i64 x5_2 ∧ Aside0 (sequiturref08_weigh.j1 kq a1 x5_2 a0_0 a0_1 a0_2 l0_3 l0_4 = some r) ∧ Aside0 (kq ≤ k) ∧ Aside0 (wc.heap[gb344]? = some (.cells #[.int .i64 a0_0, .string a0_1, .string a0_2, (.slice A0_3 l0_3.length c0_3), (.slice A0_4 l0_4.length c0_4)] 30 (0, 0))) ∧ Aside0 (Below w.heap.size w wc))
  case first =>
   have H := HC3.out; clear HC3; have H' := am H; clear H; go_wp2
   go_loopg [5, 6] k (fun kq v5 v6 w' => ∃ (x5_1 : Int) (x6_1 : Int), v5 = .int .i64 x5_1 ∧ v6 = .int .i64 x6_1 ∧ Aside0 (sequiturref08_weigh.l0 kq a1 x5_1 x6_1 a0_0 a0_1 a0_2 l0_3 l0_4 = some r) ∧ Aside0 (kq ≤ k) ∧ Aside0 (w'.heap[gb344]? = some (.cells #[.int .i64 a0_0, .string a0_1, .string a0_2, (.slice A0_3 l0_3.length c0_3), (.slice A0_4 l0_4.length c0_4)] 30 (0, 0))) ∧ Aside0 (Below w.heap.size w w'))
   case atStart => exact ⟨(1), (0), eS, eS, H', ⟨Nat.le_refl _⟩, ⟨bD BK344⟩, ⟨bB⟩⟩
   case round =>
    clear H'; (try clear p2); (try clear c4); obtain ⟨x5_1, x6_1, rfl, rfl, HA, HK1, BK344, HB⟩ := hrel
    cases gk with
    | zero => exact absurd HA.out (by simp [sequiturref08_weigh.l0])
    | succ k1 =>
     have H := HA.out; clear HA; simp only [sequiturref08_weigh.l0] at H
     by_cases c5 : x6_1 < (l0_3.length : Int)
     ·rw [if_pos c5] at H
      have c5b0 : decide (x6_1 < (l0_3.length : Int)) = true := decide_eq_true c5; clear c5; (first | rw [c5b0] | (simp only [i64_w, i32_w]; rw [c5b0]) | skip)
      by_cases c6 : x5_1 ≤ a1
      ·rw [if_pos c6] at H
       have c6b0 : decide (x5_1 ≤ a1) = true := decide_eq_true c6; clear c6
       by_cases c7 : 0 ≤ x6_1
       ·rw [if_pos c7] at H
        have c7b0 : decide (0 ≤ x6_1) = true := decide_eq_true c7; clear c7; obtain ⟨t346, A8, H⟩ := bO H; have H' := am H; clear H; obtain ⟨z9_0, z9_1, z9_2, z9_3, z9_4, y9_0, y9_1, y9_2, y9_3, y9_4⟩ := y5 BK344; have p345 : 0 ≤ (x6_1 : Int) := of_decide_eq_true eA; have q345 : x6_1 < (l0_3.length : Int) := of_decide_eq_true eA; obtain ⟨ad345, A345_3, c345_3, e345, hx345_0, hx345_1, hx345_2, hx345_3, hl345_3, hi345_3⟩ := at_T53 HR0_3.out x6_1 p345 q345
        cases e345
        replace hx345_0 := cX HB hx345_0; replace hx345_1 := cX HB hx345_1; replace hx345_2 := cX HB hx345_2; replace hx345_3 := cX HB hx345_3; have HR345_3 := am hi345_3; have HC345_3 := am hl345_3; clear hi345_3 hl345_3; replace p345 := eq_true p345; replace q345 := eq_true q345
        go_wp2_with (first | ((with_reducible refine gate_callee (f := 62) rfl ?_); refine gL 29 Tryd.func62 #[.agg #[.int .i64 ((rd_T53 l0_3 x6_1).f0), .string ((rd_T53 l0_3 x6_1).f1), .int .i64 ((rd_T53 l0_3 x6_1).f2), .slice A345_3 ((rd_T53 l0_3 x6_1).f3).length c345_3], .int .i64 (wrap64 (a1 - x5_1))] ?_; (with_reducible refine (sequiturref08_size.calls k1 ((rd_T53 l0_3 x6_1).f0) ((rd_T53 l0_3 x6_1).f1) ((rd_T53 l0_3 x6_1).f2) _ _ ((rd_T53 l0_3 x6_1).f3) (wrap64 (a1 - x5_1)) t346 _ ?side1 HC345_3.out A8.out).mono ?_); (case side1 => exact cB HR345_3); rintro e w10 ⟨rfl, hb⟩; refine ⟨_, rfl, ?_⟩; replace BK344 := bK BK344 hb; replace HB := bH hb; clear hb))
        go_roundg k1
        case measure => have := HK1.out; omega
        case rel => exact ⟨(wrap64 (x5_1 + t346)), (wrap64 (x6_1 + 1)), eS, eS, H', ⟨by have := HK1.out; omega⟩, ⟨bD BK344⟩, ⟨bB⟩⟩
       ·rw [if_neg c7] at H
        exact absurd H (by simp)
      ·rw [if_neg c6] at H
       have c6b0 : decide (x5_1 ≤ a1) = false := decide_eq_false c6; clear c6; have H' := am H; clear H; obtain ⟨z11_0, z11_1, z11_2, z11_3, z11_4, y11_0, y11_1, y11_2, y11_3, y11_4⟩ := y5 BK344; go_wp2; go_meet
       case rel => exact ⟨_, (x5_1), eS, H', ⟨by have := HK1.out; first | omega | exact Nat.le_refl _⟩, ⟨bD BK344⟩, ⟨bB⟩⟩
     ·rw [if_neg c5] at H
      have c5b0 : decide (x6_1 < (l0_3.length : Int)) = false := decide_eq_false c5; clear c5; (first | rw [c5b0] | (simp only [i64_w, i32_w]; rw [c5b0]) | skip); have H' := am H; clear H; obtain ⟨z12_0, z12_1, z12_2, z12_3, z12_4, y12_0, y12_1, y12_2, y12_3, y12_4⟩ := y5 BK344; go_wp2; go_meet
      case rel => exact ⟨_, (x5_1), eS, H', ⟨by have := HK1.out; first | omega | exact Nat.le_refl _⟩, ⟨bD BK344⟩, ⟨bB⟩⟩
  case rest =>
   clear HC3; (try clear p2); (try clear c3); (try clear p3); (try clear q3); (try clear hx3); (try clear c4); (try clear c5); (try clear c5b0); (try clear c6); (try clear c6b0); (try clear p6); (try clear c7); (try clear c7b0); (try clear z11_0 z11_1 z11_2 z11_3 z11_4); (try clear z12_0 z12_1 z12_2 z12_3 z12_4); (try clear z9_0 z9_1 z9_2 z9_3 z9_4); (try clear y11_0 y11_1 y11_2 y11_3 y11_4); (try clear y12_0 y12_1 y12_2 y12_3 y12_4); (try clear y9_0 y9_1 y9_2 y9_3 y9_4); (try clear hx345_0); (try clear hx345_1); (try clear hx345_2); (try clear hx345_3); (try clear p2); (try clear p345); (try clear q345); obtain ⟨kq, x5_2, rfl, HA, HJ2, BK344, HB⟩ := hcut
   cases kq with
   | zero => exact absurd HA.out (by simp [sequiturref08_weigh.j1])
   | succ kj2 =>
    have H := HA.out; clear HA; simp only [sequiturref08_weigh.j1] at H; have H' := am H; clear H; go_wp2
    go_loopg [5, 7] kj2 (fun kq v5 v7 w' => ∃ (x5_2 : Int) (x7_2 : Int), v5 = .int .i64 x5_2 ∧ v7 = .int .i64 x7_2 ∧ Aside0 (sequiturref08_weigh.l1 kq a1 x5_2 x7_2 a0_0 a0_1 a0_2 l0_3 l0_4 = some r) ∧ Aside0 (kq ≤ kj2) ∧ Aside0 (w'.heap[gb344]? = some (.cells #[.int .i64 a0_0, .string a0_1, .string a0_2, (.slice A0_3 l0_3.length c0_3), (.slice A0_4 l0_4.length c0_4)] 30 (0, 0))) ∧ Aside0 (Below w.heap.size w w'))
    case atStart => exact ⟨(x5_2), (0), eS, eS, H', ⟨Nat.le_refl _⟩, ⟨bD BK344⟩, ⟨bB⟩⟩
    case round =>
     clear H'; (try clear p2); (try clear c3); (try clear p3); (try clear q3); (try clear hx3); (try clear c4); (try clear c5); (try clear c5b0); (try clear c6); (try clear c6b0); (try clear p6); (try clear c7); (try clear c7b0); (try clear z11_0 z11_1 z11_2 z11_3 z11_4); (try clear z12_0 z12_1 z12_2 z12_3 z12_4); (try clear z9_0 z9_1 z9_2 z9_3 z9_4); (try clear y11_0 y11_1 y11_2 y11_3 y11_4); (try clear y12_0 y12_1 y12_2 y12_3 y12_4); (try clear y9_0 y9_1 y9_2 y9_3 y9_4); (try clear hx345_0); (try clear hx345_1); (try clear hx345_2); (try clear hx345_3); (try clear p2); (try clear p3); (try clear p345); (try clear p6); (try clear q3); (try clear q345); obtain ⟨x5_2, x7_2, rfl, rfl, HA, HK2, BK344, HB⟩ := hrel
     cases gk with
     | zero => exact absurd HA.out (by simp [sequiturref08_weigh.l1])
     | succ k2 =>
      have H := HA.out; clear HA; simp only [sequiturref08_weigh.l1] at H
      by_cases c13 : x7_2 < (l0_4.length : Int)
      ·rw [if_pos c13] at H
       have c13b0 : decide (x7_2 < (l0_4.length : Int)) = true := decide_eq_true c13; clear c13
       by_cases c14 : x5_2 ≤ a1
       ·rw [if_pos c14] at H
        have c14b0 : decide (x5_2 ≤ a1) = true := decide_eq_true c14; clear c14
        by_cases c15 : 0 ≤ x7_2
        ·rw [if_pos c15] at H
         have c15b0 : decide (0 ≤ x7_2) = true := decide_eq_true c15; clear c15; obtain ⟨t348, A16, H⟩ := bO H; have H' := am H; clear H; obtain ⟨z17_0, z17_1, z17_2, z17_3, z17_4, y17_0, y17_1, y17_2, y17_3, y17_4⟩ := y5 BK344; have p347 : 0 ≤ (x7_2 : Int) := of_decide_eq_true eA; have q347 : x7_2 < (l0_4.length : Int) := of_decide_eq_true eA; obtain ⟨ad347, A347_3, c347_3, A347_4, c347_4, e347, hx347_0, hx347_1, hx347_2, hx347_3, hx347_4, hl347_3, hi347_3, hl347_4, hi347_4⟩ := at_T30 HR0_4.out x7_2 p347 q347
         cases e347
         replace hx347_0 := cX HB hx347_0; replace hx347_1 := cX HB hx347_1; replace hx347_2 := cX HB hx347_2; replace hx347_3 := cX HB hx347_3; replace hx347_4 := cX HB hx347_4; have HR347_3 := am hi347_3; have HC347_3 := am hl347_3; clear hi347_3 hl347_3; have HR347_4 := am hi347_4; have HC347_4 := am hl347_4; clear hi347_4 hl347_4; replace p347 := eq_true p347; replace q347 := eq_true q347
         go_wp2_with (first | ((with_reducible refine gate_callee (f := 45) rfl ?_); refine gL 52 Tryd.func45 #[.agg #[.int .i64 ((rd_T30 l0_4 x7_2).f0), .string ((rd_T30 l0_4 x7_2).f1), .string ((rd_T30 l0_4 x7_2).f2), .slice A347_3 ((rd_T30 l0_4 x7_2).f3).length c347_3, .slice A347_4 ((rd_T30 l0_4 x7_2).f4).length c347_4], .int .i64 (wrap64 (a1 - x5_2))] ?_; (with_reducible refine (ih k2 (by have := HJ2.out; have := HK2.out; omega) ((rd_T30 l0_4 x7_2).f0) ((rd_T30 l0_4 x7_2).f1) ((rd_T30 l0_4 x7_2).f2) _ _ ((rd_T30 l0_4 x7_2).f3) _ _ ((rd_T30 l0_4 x7_2).f4) (wrap64 (a1 - x5_2)) t348 _ ?side1 HC347_3.out ?side3 HC347_4.out A16.out).mono ?_); (case side1 => exact cB HR347_3); (case side3 => exact cB HR347_4); rintro e w18 ⟨rfl, hb⟩; refine ⟨_, rfl, ?_⟩; replace BK344 := bK BK344 hb; replace HB := bH hb; clear hb))
         go_roundg k2
         case measure => have := HJ2.out; have := HK2.out; omega
         case rel => exact ⟨(wrap64 (x5_2 + t348)), (wrap64 (x7_2 + 1)), eS, eS, H', ⟨by have := HJ2.out; have := HK2.out; omega⟩, ⟨bD BK344⟩, ⟨bB⟩⟩
        ·rw [if_neg c15] at H
         exact absurd H (by simp)
       ·rw [if_neg c14] at H
        have c14b0 : decide (x5_2 ≤ a1) = false := decide_eq_false c14; clear c14; obtain rfl := Option.some.inj H; obtain ⟨z19_0, z19_1, z19_2, z19_3, z19_4, y19_0, y19_1, y19_2, y19_3, y19_4⟩ := y5 BK344; go_wp2; go_ret; exact ⟨eW, bB⟩
      ·rw [if_neg c13] at H
       have c13b0 : decide (x7_2 < (l0_4.length : Int)) = false := decide_eq_false c13; clear c13; obtain rfl := Option.some.inj H; obtain ⟨z20_0, z20_1, z20_2, z20_3, z20_4, y20_0, y20_1, y20_2, y20_3, y20_4⟩ := y5 BK344; go_wp2; go_ret; exact ⟨eW, bB⟩
end Go.Proofs.YtmlkllbaehegjaaDoor.PAll
end
section
namespace Go.Proofs.YtmlkllbaehegjaaDoor.PAll
open Go.RowKit Go.Proofs.YtmlkllbaehegjaaDoorW.PrintWords Go.Proofs.YtmlkllbaehegjaaDoorW.PrintLast Go.Proofs.YtmlkllbaehegjaaDoorW.PrintMore
attribute [local go_sem] max2_int min2_int max_two min_two max_three min_three max_four min_four
set_option linter.unusedVariables false
set_option linter.unusedSimpArgs false
/-! ### sequiturref08_Size: function 30 -/
def sequiturref08_Size.f (k : Nat) (a0_0 : Int) (a0_1 : ByteArray) (a0_2 : ByteArray) (l0_3 : List (S53)) (l0_4 : List (S30)) : Option (Int) := (sequiturref08_weigh.f k a0_0 a0_1 a0_2 l0_3 l0_4 4096).bind fun t350 => (if t350 > 4097 then (some 4097) else (some t350))
set_option maxHeartbeats 8000000 in
set_option maxRecDepth 100000 in
theorem sequiturref08_Size.calls (k : Nat) (a0_0 : Int) (a0_1 : ByteArray) (a0_2 : ByteArray) (A0_3 : Option Addr) (c0_3 : Nat) (l0_3 : List (S53)) (A0_4 : Option Addr) (c0_4 : Nat) (l0_4 : List (S30)) (r : Int) (w : World) (hr0_3 : Kd.C k53 w A0_3 l0_3.length l0_3) (hc0_3 : l0_3.length ≤ c0_3) (hr0_4 : Kd.C k30 w A0_4 l0_4.length l0_4) (hc0_4 : l0_4.length ≤ c0_4) (h : sequiturref08_Size.f k a0_0 a0_1 a0_2 l0_3 l0_4 = some r) :
    Calls Tryd.prog 30 #[.agg #[.int .i64 a0_0, .string a0_1, .string a0_2, .slice A0_3 l0_3.length c0_3, .slice A0_4 l0_4.length c0_4]] w fun e w' => e = .returned (.int .i64 r) ∧ Below w.heap.size w w' := by
  have hu30 := Tryd.underlying30; have HR0_3 := am hr0_3; have HC0_3 := am hc0_3; clear hr0_3 hc0_3; have HR0_4 := am hr0_4; have HC0_4 := am hc0_4; clear hr0_4 hc0_4; have HB := am (Below.refl w.heap.size w); have H := h; unfold sequiturref08_Size.f at H; clear h; obtain ⟨t350, A2, H⟩ := bO H
  by_cases c3 : t350 > 4097
  ·rw [if_pos c3] at H
   have c3b0 : decide (4097 < t350) = true := decide_eq_true c3; clear c3; obtain rfl := Option.some.inj H
   go_enter Tryd.func30, Tryd.ntmps30
   go_wp2_with (first | ((with_reducible refine gate_dst (N := 1) rfl ?_); refine bE 1 #[.int .i64 a0_0, .string a0_1, .string a0_2, .slice A0_3 l0_3.length c0_3, .slice A0_4 l0_4.length c0_4] 30 ?_; intro gb349 w4 BK349 hg hb; have GW349 := bZ hg; have GE349 := bZ hg; replace HB := bH hb; clear hb hg; obtain ⟨z5_0, z5_1, z5_2, z5_3, z5_4, y5_0, y5_1, y5_2, y5_3, y5_4⟩ := y5 BK349) | ((with_reducible refine gate_callee (f := 45) rfl ?_); refine gL 5 Tryd.func45 #[.agg #[.int .i64 a0_0, .string a0_1, .string a0_2, .slice A0_3 l0_3.length c0_3, .slice A0_4 l0_4.length c0_4], .int .i64 4096] ?_; (with_reducible refine (sequiturref08_weigh.calls k a0_0 a0_1 a0_2 _ _ l0_3 _ _ l0_4 4096 t350 _ ?side1 HC0_3.out ?side3 HC0_4.out A2.out).mono ?_); (case side1 => exact cB HR0_3); (case side3 => exact cB HR0_4); rintro e w6 ⟨rfl, hb⟩; refine ⟨_, rfl, ?_⟩; replace BK349 := bK BK349 hb; replace HB := bH hb; clear hb))
   go_ret; exact ⟨eW, bB⟩
  ·rw [if_neg c3] at H
   have c3b0 : decide (4097 < t350) = false := decide_eq_false c3; clear c3; obtain rfl := Option.some.inj H
   go_enter Tryd.func30, Tryd.ntmps30
   go_wp2_with (first | ((with_reducible refine gate_dst (N := 1) rfl ?_); refine bE 1 #[.int .i64 a0_0, .string a0_1, .string a0_2, .slice A0_3 l0_3.length c0_3, .slice A0_4 l0_4.length c0_4] 30 ?_; intro gb349 w7 BK349 hg hb; have GW349 := bZ hg; have GE349 := bZ hg; replace HB := bH hb; clear hb hg; obtain ⟨z8_0, z8_1, z8_2, z8_3, z8_4, y8_0, y8_1, y8_2, y8_3, y8_4⟩ := y5 BK349) | ((with_reducible refine gate_callee (f := 45) rfl ?_); refine gL 5 Tryd.func45 #[.agg #[.int .i64 a0_0, .string a0_1, .string a0_2, .slice A0_3 l0_3.length c0_3, .slice A0_4 l0_4.length c0_4], .int .i64 4096] ?_; (with_reducible refine (sequiturref08_weigh.calls k a0_0 a0_1 a0_2 _ _ l0_3 _ _ l0_4 4096 t350 _ ?side1 HC0_3.out ?side3 HC0_4.out A2.out).mono ?_); (case side1 => exact cB HR0_3); (case side3 => exact cB HR0_4); rintro e w9 ⟨rfl, hb⟩; refine ⟨_, rfl, ?_⟩; replace BK349 := bK BK349 hb; replace HB := bH hb; clear hb))
   go_ret; exact ⟨eW, bB⟩
end Go.Proofs.YtmlkllbaehegjaaDoor.PAll
end
