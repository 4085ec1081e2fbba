import Derived.Test.YtmlkllbaehegjaaDoorShowSeqs2
import Derived.Test.YtmlkllbaehegjaaDoorShowSeqs8
import Derived.Test.YtmlkllbaehegjaaDoorShowSeqs10
import Derived.Test.YtmlkllbaehegjaaDoorShowSeqs12
section
namespace Go.Proofs.YtmlkllbaehegjaaDoor.PAll
open Go.RowKit Go.Proofs.YtmlkllbaehegjaaDoorW.PrintWords Go.Proofs.YtmlkllbaehegjaaDoorW.PrintLast Go.Proofs.YtmlkllbaehegjaaDoorW.PrintMore
attribute [local go_sem] max2_int min2_int max_two min_two max_three min_three max_four min_four
set_option linter.unusedVariables false
set_option linter.unusedSimpArgs false
/-! ### sequiturref14_loose: function 71 -/
def sequiturref14_loose.f (a0 : Int) : Option (Int) := if a0 = 10 then (some 1) else (if a0 = 9 then (some 2) else (if a0 = 8 then (some 3) else (if a0 = 7 then (some 4) else (some 0))))
set_option maxHeartbeats 8000000 in
set_option maxRecDepth 100000 in
theorem sequiturref14_loose.calls (a0 : Int) (r : Int) (w : World) (h : sequiturref14_loose.f a0 = some r) :
    Calls Tryd.prog 71 #[.int .i64 a0] w fun e w' => e = .returned (.int .i64 r) ∧ Drawn0 w w' := by
  have H := h; unfold sequiturref14_loose.f at H; clear h
  by_cases c2 : a0 = 10
  ·rw [if_pos c2] at H
   have c2b0 := beq_iff_eq.mpr c2; have c2b1 := bne_eq_false_iff_eq.mpr c2; clear c2; obtain rfl := Option.some.inj H
   go_enter Tryd.func71, Tryd.ntmps71
   go_wp2; go_ret; exact ⟨by first | rfl | (simp; done) | (simp [*]; done) | (simp [*, nel]; done), by repeat (first | exact Drawn0.refl _ | apply Drawn0.step)⟩
  ·rw [if_neg c2] at H
   have c2b0 := beq_eq_false_iff_ne.mpr c2; have c2b1 := bne_iff_ne.mpr c2
   by_cases c3 : a0 = 9
   ·rw [if_pos c3] at H
    have c3b0 := beq_iff_eq.mpr c3; have c3b1 := bne_eq_false_iff_eq.mpr c3; clear c3; obtain rfl := Option.some.inj H
    go_enter Tryd.func71, Tryd.ntmps71
    go_wp2; go_ret; exact ⟨by first | rfl | (simp; done) | (simp [*]; done) | (simp [*, nel]; done), by repeat (first | exact Drawn0.refl _ | apply Drawn0.step)⟩
   ·rw [if_neg c3] at H
    have c3b0 := beq_eq_false_iff_ne.mpr c3; have c3b1 := bne_iff_ne.mpr c3
    by_cases c4 : a0 = 8
    ·rw [if_pos c4] at H
     have c4b0 := beq_iff_eq.mpr c4; have c4b1 := bne_eq_false_iff_eq.mpr c4; clear c4; obtain rfl := Option.some.inj H
     go_enter Tryd.func71, Tryd.ntmps71
     go_wp2; go_ret; exact ⟨by first | rfl | (simp; done) | (simp [*]; done) | (simp [*, nel]; done), by repeat (first | exact Drawn0.refl _ | apply Drawn0.step)⟩
    ·rw [if_neg c4] at H
     have c4b0 := beq_eq_false_iff_ne.mpr c4; have c4b1 := bne_iff_ne.mpr c4
     by_cases c5 : a0 = 7
     ·rw [if_pos c5] at H
      have c5b0 := beq_iff_eq.mpr c5; have c5b1 := bne_eq_false_iff_eq.mpr c5; clear c5; obtain rfl := Option.some.inj H
      go_enter Tryd.func71, Tryd.ntmps71
      go_wp2; go_ret; exact ⟨by first | rfl | (simp; done) | (simp [*]; done) | (simp [*, nel]; done), by repeat (first | exact Drawn0.refl _ | apply Drawn0.step)⟩
     ·rw [if_neg c5] at H
      have c5b0 := beq_eq_false_iff_ne.mpr c5; have c5b1 := bne_iff_ne.mpr c5; obtain rfl := Option.some.inj H
      go_enter Tryd.func71, Tryd.ntmps71
      go_wp2; go_ret; exact ⟨by first | rfl | (simp; done) | (simp [*]; done) | (simp [*, nel]; done), by repeat (first | exact Drawn0.refl _ | apply Drawn0.step)⟩
/-! ### sequiturref14_sign: function 72 -/
def sequiturref14_sign.f (a0 : Int) : Option (ByteArray) := (some (([(⟨#[]⟩ : ByteArray), (⟨#[32, 60, 45, 62, 32]⟩ : ByteArray), (⟨#[32, 45, 62, 32]⟩ : ByteArray), (⟨#[32, 124, 32]⟩ : ByteArray), (⟨#[32, 38, 32]⟩ : ByteArray)] : List ByteArray) : List ByteArray)).bind fun y527 => ((sequiturref14_loose.f a0).bind fun t530 => (if 0 ≤ t530 then (if t530 < (y527.length : Int) then (some (rdOf ByteArray.empty y527 t530)) else (none)) else (none)))
set_option maxHeartbeats 8000000 in
set_option maxRecDepth 100000 in
theorem sequiturref14_sign.calls (a0 : Int) (r : ByteArray) (w : World) (h : sequiturref14_sign.f a0 = some r) :
    Calls Tryd.prog 72 #[.int .i64 a0] w fun e w' => e = .returned (.string r) ∧ Below w.heap.size w w' := by
  have HB := am (Below.refl w.heap.size w); have H := h; unfold sequiturref14_sign.f at H; clear h; obtain ⟨y527, hy527⟩ : ∃ y_ : List ByteArray, y_ = (([(⟨#[]⟩ : ByteArray), (⟨#[32, 60, 45, 62, 32]⟩ : ByteArray), (⟨#[32, 45, 62, 32]⟩ : ByteArray), (⟨#[32, 124, 32]⟩ : ByteArray), (⟨#[32, 38, 32]⟩ : ByteArray)] : List ByteArray)) := ⟨_, rfl⟩
  replace H : ((sequiturref14_loose.f a0).bind fun t530 => (if 0 ≤ t530 then (if t530 < (y527.length : Int) then (some (rdOf ByteArray.empty y527 t530)) else (none)) else (none))) = some r := by first | (rw [hy527]; with_reducible exact H) | (have H2_ := (Option.bind_some _ _).symm.trans H; rw [hy527]; with_reducible exact H2_) | (have H2_ := (Option.bind_some _ _).symm.trans H; with_reducible exact H2_) | with_reducible exact H | (rw [hy527]; exact H) | exact H
  have Ny527 := am hy527; clear hy527; obtain ⟨t530, A2, H⟩ := bO H
  by_cases c3 : 0 ≤ t530
  ·rw [if_pos c3] at H
   have c3b0 : decide (0 ≤ t530) = true := decide_eq_true c3; clear c3
   by_cases c4 : t530 < (y527.length : Int)
   ·rw [if_pos c4] at H
    have c4b0 : decide (t530 < (y527.length : Int)) = true := decide_eq_true c4; clear c4; obtain rfl := Option.some.inj H
    go_enter Tryd.func72, Tryd.ntmps72
    go_wp2_with (first | ((with_reducible refine gate_dst (N := 3) rfl ?_); refine Kd.R_lit Kd.string _ 9 ?hg (N := 3) ?hd (xs := ([(⟨#[]⟩ : ByteArray), (⟨#[32, 60, 45, 62, 32]⟩ : ByteArray), (⟨#[32, 45, 62, 32]⟩ : ByteArray), (⟨#[32, 124, 32]⟩ : ByteArray), (⟨#[32, 38, 32]⟩ : ByteArray)] : List ByteArray)) (inner := [.string (⟨#[]⟩ : ByteArray), .string (⟨#[32, 60, 45, 62, 32]⟩ : ByteArray), .string (⟨#[32, 45, 62, 32]⟩ : ByteArray), .string (⟨#[32, 124, 32]⟩ : ByteArray), .string (⟨#[32, 38, 32]⟩ : ByteArray)]) (ok := fun _ => True) (okp := fun _ => True) ?hr ?hp (fun _ hk => hk) trivial (Below.refl _ _) (Nat.le_refl _) (by simp) ?_; (case hd => rfl); (case hg => rfl); (case hr => first | (go_simp; done) | (go_simp; rfl)); (case hp => exact (Reps.one (show Kd.M Kd.string _ _ _ (⟨#[]⟩ : ByteArray) [.string (⟨#[]⟩ : ByteArray)] from rfl) (Reps.one (show Kd.M Kd.string _ _ _ (⟨#[32, 60, 45, 62, 32]⟩ : ByteArray) [.string (⟨#[32, 60, 45, 62, 32]⟩ : ByteArray)] from rfl) (Reps.one (show Kd.M Kd.string _ _ _ (⟨#[32, 45, 62, 32]⟩ : ByteArray) [.string (⟨#[32, 45, 62, 32]⟩ : ByteArray)] from rfl) (Reps.one (show Kd.M Kd.string _ _ _ (⟨#[32, 124, 32]⟩ : ByteArray) [.string (⟨#[32, 124, 32]⟩ : ByteArray)] from rfl) (Reps.one (show Kd.M Kd.string _ _ _ (⟨#[32, 38, 32]⟩ : ByteArray) [.string (⟨#[32, 38, 32]⟩ : ByteArray)] from rfl) (Reps.none _ _))))))); intro v528 w5 ho6 hb hg_ hnew_; clear hg_ hnew_; (first | rw [← Ny527.out] at ho6 | (simp only [Int.reduceToNat] at ho6; rw [← Ny527.out] at ho6)); have HO529 := am (Kd.R_lower ho6 (below_size bB)); replace HB := bH hb; clear hb ho6) | ((with_reducible refine gate_callee (f := 71) rfl ?_); refine gL 5 Tryd.func71 #[.int .i64 a0] ?_; (with_reducible refine (sequiturref14_loose.calls a0 t530 _ A2.out).mono ?_); rintro e w' ⟨rfl, ⟨nd, rfl⟩⟩; refine ⟨_, rfl, ?_⟩; obtain ⟨Ao7, co7, eo7⟩ := Kd.R_slice HO529.out; subst eo7; have p531 : 0 ≤ (t530 : Int) := of_decide_eq_true eA; have q531 : t530 < (y527.length : Int) := of_decide_eq_true eA; obtain ⟨ad531, e531, hx531_0⟩ := Kd.at_string (Kd.R_reads' HO529.out).2.2 t530 p531 q531; cases e531; replace p531 := eq_true p531; replace q531 := eq_true q531))
    go_ret; exact ⟨eW, bB⟩
   ·rw [if_neg c4] at H
    exact absurd H (by simp)
  ·rw [if_neg c3] at H
   exact absurd H (by simp)
end Go.Proofs.YtmlkllbaehegjaaDoor.PAll
end
section
namespace Go.Proofs.YtmlkllbaehegjaaDoor.PAll
open Go.RowKit Go.Proofs.YtmlkllbaehegjaaDoorW.PrintWords Go.Proofs.YtmlkllbaehegjaaDoorW.PrintLast Go.Proofs.YtmlkllbaehegjaaDoorW.PrintMore
attribute [local go_sem] max2_int min2_int max_two min_two max_three min_three max_four min_four   -- for this text's walks alone
set_option linter.unusedVariables false
set_option linter.unusedSimpArgs false
/-! ### sequiturref14_claim: function 54 -/
mutual
def sequiturref14_claim.j0 : Nat → List ByteArray → List ByteArray → Int → Bool → Bool → Int → ByteArray → ByteArray → List (S53) → List (S30) → Option (ByteArray)
  | 0, _, _, _, _, _, _, _, _, _, _ => none
  | k + 1, x1, x2, x3, x4, x74, x533000, x533001, x533002, x533003, x533004 => if x74 = true then (if x4 = true then (if x533000 = 12 then (sequiturref14_claim.j1 k x1 x2 (⟨#[63]⟩ : ByteArray) x533000 x533001 x533002 x533003 x533004) else (sequiturref14_claim.j1 k x1 x2 (⟨#[33]⟩ : ByteArray) x533000 x533001 x533002 x533003 x533004)) else ((sequiturref14_claim.f k x533000 x533001 x533002 x533003 x533004 x1 x2 1 true).bind fun t544 => ((sequiturref14_brackets.f t544).bind fun t545 => (some t545)))) else ((sequiturref14_loose.f x533000).bind fun t561 => (if t561 < x3 then ((sequiturref14_claim.f k x533000 x533001 x533002 x533003 x533004 x1 x2 1 true).bind fun t562 => ((sequiturref14_brackets.f t562).bind fun t563 => (some t563))) else (if 0 < (x533004.length : Int) then ((sequiturref14_claim.f k ((rd_T30 x533004 0).f0) ((rd_T30 x533004 0).f1) ((rd_T30 x533004 0).f2) ((rd_T30 x533004 0).f3) ((rd_T30 x533004 0).f4) x1 x2 (wrap64 (t561 + 1)) false).bind fun t565 => ((sequiturref14_sign.f x533000).bind fun t566 => (if t565.size + t566.size ≤ 9223372036854775807 then (if 1 < (x533004.length : Int) then ((sequiturref14_claim.f k ((rd_T30 x533004 1).f0) ((rd_T30 x533004 1).f1) ((rd_T30 x533004 1).f2) ((rd_T30 x533004 1).f3) ((rd_T30 x533004 1).f4) x1 x2 t561 x4).bind fun t568 => (if (t565 ++ t566).size + t568.size ≤ 9223372036854775807 then (some ((t565 ++ t566) ++ t568)) else (none))) else (none)) else (none)))) else (none))))
def sequiturref14_claim.j1 : Nat → List ByteArray → List ByteArray → ByteArray → Int → ByteArray → ByteArray → List (S53) → List (S30) → Option (ByteArray)
  | 0, _, _, _, _, _, _, _, _ => none
  | k + 1, x1, x2, x11, x533000, x533001, x533002, x533003, x533004 => if ([] : List ByteArray).length + x1.length < 8796093022208 then ((some (([] : List ByteArray) ++ x1 : List ByteArray)).bind fun y546 => (if y546.length + x2.length < 8796093022208 then ((sequiturref14_called.f k x533001 (y546 ++ x2)).bind fun t552 => (if ([] : List ByteArray).length + x2.length < 8796093022208 then ((some (([] : List ByteArray) ++ x2 : List ByteArray)).bind fun y553 => (if y553.length < 8796093022208 then (if x11.size + t552.size ≤ 9223372036854775807 then (if (x11 ++ t552).size + 2 ≤ 9223372036854775807 then (if ((x11 ++ t552) ++ (⟨#[58, 32]⟩ : ByteArray)).size + x533002.size ≤ 9223372036854775807 then (if (((x11 ++ t552) ++ (⟨#[58, 32]⟩ : ByteArray)) ++ x533002).size + 2 ≤ 9223372036854775807 then (if 0 < (x533004.length : Int) then ((sequiturref14_claim.f k ((rd_T30 x533004 0).f0) ((rd_T30 x533004 0).f1) ((rd_T30 x533004 0).f2) ((rd_T30 x533004 0).f3) ((rd_T30 x533004 0).f4) x1 (y553 ++ [t552]) 1 true).bind fun t560 => (if ((((x11 ++ t552) ++ (⟨#[58, 32]⟩ : ByteArray)) ++ x533002) ++ (⟨#[46, 32]⟩ : ByteArray)).size + t560.size ≤ 9223372036854775807 then (some (((((x11 ++ t552) ++ (⟨#[58, 32]⟩ : ByteArray)) ++ x533002) ++ (⟨#[46, 32]⟩ : ByteArray)) ++ t560)) else (none))) else (none)) else (none)) else (none)) else (none)) else (none)) else (none))) else (none))) else (none))) else (none)
def sequiturref14_claim.f : Nat → Int → ByteArray → ByteArray → List (S53) → List (S30) → List ByteArray → List ByteArray → Int → Bool → Option (ByteArray)
  | 0, _, _, _, _, _, _, _, _, _ => none
  | k + 1, a0_0, a0_1, a0_2, l0_3, l0_4, l1, l2, a3, a4 => if a0_0 = 1 then (some (⟨#[116, 114, 117, 101]⟩ : ByteArray)) else (if a0_0 = 2 then (some (⟨#[102, 97, 108, 115, 101]⟩ : ByteArray)) else (if a0_0 = 3 then ((sequiturref14_term.f k 3 a0_1 0 l0_3 l2).bind fun t533 => (some t533)) else (if a0_0 = 4 then (if 0 < (l0_3.length : Int) then ((sequiturref14_term.f k ((rd_T53 l0_3 0).f0) ((rd_T53 l0_3 0).f1) ((rd_T53 l0_3 0).f2) ((rd_T53 l0_3 0).f3) l2).bind fun t535 => (if t535.size + 3 ≤ 9223372036854775807 then (if 1 < (l0_3.length : Int) then ((sequiturref14_term.f k ((rd_T53 l0_3 1).f0) ((rd_T53 l0_3 1).f1) ((rd_T53 l0_3 1).f2) ((rd_T53 l0_3 1).f3) l2).bind fun t537 => (if (t535 ++ (⟨#[32, 61, 32]⟩ : ByteArray)).size + t537.size ≤ 9223372036854775807 then (some ((t535 ++ (⟨#[32, 61, 32]⟩ : ByteArray)) ++ t537)) else (none))) else (none)) else (none))) else (none)) else (if a0_0 = 5 then (if 0 < (l0_3.length : Int) then ((sequiturref14_term.f k ((rd_T53 l0_3 0).f0) ((rd_T53 l0_3 0).f1) ((rd_T53 l0_3 0).f2) ((rd_T53 l0_3 0).f3) l2).bind fun t539 => (if t539.size + 4 ≤ 9223372036854775807 then (if 1 < (l0_3.length : Int) then ((sequiturref14_term.f k ((rd_T53 l0_3 1).f0) ((rd_T53 l0_3 1).f1) ((rd_T53 l0_3 1).f2) ((rd_T53 l0_3 1).f3) l2).bind fun t541 => (if (t539 ++ (⟨#[32, 60, 61, 32]⟩ : ByteArray)).size + t541.size ≤ 9223372036854775807 then (some ((t539 ++ (⟨#[32, 60, 61, 32]⟩ : ByteArray)) ++ t541)) else (none))) else (none)) else (none))) else (none)) else (if a0_0 = 6 then (if 0 < (l0_4.length : Int) then ((sequiturref14_claim.f k ((rd_T30 l0_4 0).f0) ((rd_T30 l0_4 0).f1) ((rd_T30 l0_4 0).f2) ((rd_T30 l0_4 0).f3) ((rd_T30 l0_4 0).f4) l1 l2 5 a4).bind fun t543 => (if 1 + t543.size ≤ 9223372036854775807 then (some ((⟨#[126]⟩ : ByteArray) ++ t543)) else (none))) else (none)) else (if a0_0 = 11 then (sequiturref14_claim.j0 k l1 l2 a3 a4 (a0_0 == 11) a0_0 a0_1 a0_2 l0_3 l0_4) else (sequiturref14_claim.j0 k l1 l2 a3 a4 (a0_0 == 12) a0_0 a0_1 a0_2 l0_3 l0_4)))))))
end
def sequiturref14_claim.T9 : Bool × List (List Nat × List Nat) := (true, [([], []), ([0], [0]), ([1], [1]), ([2], [2]), ([], []), ([3, 4], [3, 4]), ([5], [5]), ([], []), ([7], [7]), ([8], [8]), ([9], [9]), ([], []), ([10, 11, 5], [10, 11]), ([6, 12], [6, 12]), ([13, 12, 0, 1, 2, 3, 4, 5, 6, 7, 8, 9, 10, 11, 12, 13], [13])])
def sequiturref14_claim.B9 : List Nat := [0, 1, 3, 7, 0, 31, 63, 0, 128, 384, 896, 0, 4031, 8191, 16383]
theorem sequiturref14_claim.tab9 : rtab .any (opsOf Tryd.f54 9) = sequiturref14_claim.T9 := by kernel_rfl
theorem sequiturref14_claim.bits9 : waitsOk sequiturref14_claim.T9.2 sequiturref14_claim.B9 = true := by kernel_rfl
def sequiturref14_claim.T11 : Bool × List (List Nat × List Nat) := (true, [([], []), ([0], [0]), ([1], [1]), ([2], [2]), ([], []), ([3, 4], [3, 4]), ([5], [5]), ([], []), ([7], [7]), ([8], [8]), ([9], [9]), ([], []), ([10, 11, 5], [10, 11]), ([6, 12], [6, 12]), ([13, 12, 0, 1, 2, 3, 4, 5, 6, 7, 8, 9, 10, 11, 12, 13], [13])])
def sequiturref14_claim.B11 : List Nat := [0, 1, 3, 7, 0, 31, 63, 0, 128, 384, 896, 0, 4031, 8191, 16383]
theorem sequiturref14_claim.tab11 : rtab .any (opsOf Tryd.f54 11) = sequiturref14_claim.T11 := by kernel_rfl
theorem sequiturref14_claim.bits11 : waitsOk sequiturref14_claim.T11.2 sequiturref14_claim.B11 = true := by kernel_rfl
def sequiturref14_claim.T28 : Bool × List (List Nat × List Nat) := (true, [([], []), ([], []), ([0, 1], [0, 1]), ([2], [2]), ([], []), ([4], [4]), ([3, 5], [3, 5]), ([6], [6]), ([], []), ([8], [8]), ([9], [9]), ([10], [10]), ([], []), ([], []), ([11, 12, 13], [11, 12, 13]), ([7, 14], [7, 14]), ([15, 14, 0, 1, 2, 3, 4, 5, 6, 7, 8, 9, 10, 11, 12, 13, 14, 15], [15])])
def sequiturref14_claim.B28 : List Nat := [0, 0, 3, 7, 0, 16, 63, 127, 0, 256, 768, 1792, 0, 0, 16128, 32767, 65535]
theorem sequiturref14_claim.tab28 : rtab .any (opsOf Tryd.f54 28) = sequiturref14_claim.T28 := by kernel_rfl
theorem sequiturref14_claim.bits28 : waitsOk sequiturref14_claim.T28.2 sequiturref14_claim.B28 = true := by kernel_rfl
def sequiturref14_claim.T32 : Bool × List (List Nat × List Nat) := (true, [([], []), ([0], [0]), ([1], [1]), ([2], [2]), ([], []), ([], []), ([], []), ([6], [6]), ([3, 4, 5, 7], [3, 4, 5, 7]), ([], []), ([9], [9]), ([10, 8], [10]), ([8, 11], [8, 11]), ([], []), ([13], [13]), ([14], [14]), ([15], [15]), ([], []), ([], []), ([], []), ([], []), ([16, 17, 18, 19, 20, 11], [16, 17, 18, 19, 20]), ([12, 21], [12, 21]), ([22, 21, 0, 1, 2, 3, 4, 5, 6, 7, 8, 9, 10, 11, 12, 13, 14, 15, 16, 17, 18, 19, 20, 21, 22], [22])])
def sequiturref14_claim.B32 : List Nat := [0, 1, 3, 7, 0, 0, 0, 64, 255, 0, 512, 2047, 4095, 0, 8192, 24576, 57344, 0, 0, 0, 0, 2093055, 4194303, 8388607]
theorem sequiturref14_claim.tab32 : rtab .any (opsOf Tryd.f54 32) = sequiturref14_claim.T32 := by kernel_rfl
theorem sequiturref14_claim.bits32 : waitsOk sequiturref14_claim.T32.2 sequiturref14_claim.B32 = true := by kernel_rfl
set_option maxHeartbeats 8000000 in
set_option maxRecDepth 100000 in
theorem sequiturref14_claim.calls (k : Nat) : ∀ (a0_0 : Int) (a0_1 : ByteArray) (a0_2 : ByteArray) (A0_3 : Option Addr) (c0_3 : Nat) (l0_3 : List (S53)) (A0_4 : Option Addr) (c0_4 : Nat) (l0_4 : List (S30)) (A1 : Option Addr) (c1 : Nat) (l1 : List ByteArray) (A2 : Option Addr) (c2 : Nat) (l2 : List ByteArray) (a3 : Int) (a4 : Bool) (r : ByteArray) (w : World) (hr0_3 : Kd.C k53 w A0_3 l0_3.length l0_3) (hc0_3 : l0_3.length ≤ c0_3) (hr0_4 : Kd.C k30 w A0_4 l0_4.length l0_4) (hc0_4 : l0_4.length ≤ c0_4) (hr1 : Kd.C Kd.string w A1 l1.length l1) (hc1 : l1.length ≤ c1) (hr2 : Kd.C Kd.string w A2 l2.length l2) (hc2 : l2.length ≤ c2) (h : sequiturref14_claim.f k a0_0 a0_1 a0_2 l0_3 l0_4 l1 l2 a3 a4 = some r),
    Calls Tryd.prog 54 #[.agg #[.int .i64 a0_0, .string a0_1, .string a0_2, .slice A0_3 l0_3.length c0_3, .slice A0_4 l0_4.length c0_4], .slice A1 l1.length c1, .slice A2 l2.length c2, .int .i64 a3, .bool a4] w fun e w' => e = .returned (.string r) ∧ Below w.heap.size w w' := by
  induction k using Nat.strongRecOn with
  | _ k ih =>
  intro a0_0 a0_1 a0_2 A0_3 c0_3 l0_3 A0_4 c0_4 l0_4 A1 c1 l1 A2 c2 l2 a3 a4 r w hr0_3 hc0_3 hr0_4 hc0_4 hr1 hc1 hr2 hc2 h
  cases k with
  | zero => exact absurd h (by simp [sequiturref14_claim.f])
  | succ k =>
  simp only [sequiturref14_claim.f] at h; have hu30 := Tryd.underlying30; have hu53 := Tryd.underlying53; have HR0_3 := am hr0_3; have HC0_3 := am hc0_3; clear hr0_3 hc0_3; have HR0_4 := am hr0_4; have HC0_4 := am hc0_4; clear hr0_4 hc0_4; have HR1 := am hr1; have HC1 := am hc1; clear hr1 hc1; have HR2 := am hr2; have HC2 := am hc2; clear hr2 hc2; have HB := am (Below.refl w.heap.size w); have H := h; clear h
  by_cases c6 : a0_0 = 1
  ·rw [if_pos c6] at H
   have c6b0 := beq_iff_eq.mpr c6; have c6b1 := bne_eq_false_iff_eq.mpr c6; clear c6; obtain rfl := Option.some.inj H
   go_enter Tryd.func54, Tryd.ntmps54
   go_wp2_with (first | ((with_reducible refine gate_dst (N := 5) rfl ?_); refine bE 5 #[.int .i64 a0_0, .string a0_1, .string a0_2, .slice A0_3 l0_3.length c0_3, .slice A0_4 l0_4.length c0_4] 30 ?_; intro gb532 w7 BK532 hg hb; have GW532 := bZ hg; have GE532 := bZ hg; replace HB := bH hb; clear hb hg; obtain ⟨z8_0, z8_1, z8_2, z8_3, z8_4, y8_0, y8_1, y8_2, y8_3, y8_4⟩ := y5 BK532))
   go_ret; exact ⟨eW, bB⟩
  ·rw [if_neg c6] at H
   have c6b0 := beq_eq_false_iff_ne.mpr c6; have c6b1 := bne_iff_ne.mpr c6
   by_cases c9 : a0_0 = 2
   ·rw [if_pos c9] at H
    have c9b0 := beq_iff_eq.mpr c9; have c9b1 := bne_eq_false_iff_eq.mpr c9; clear c9; obtain rfl := Option.some.inj H
    go_enter Tryd.func54, Tryd.ntmps54
    go_wp2_with (first | ((with_reducible refine gate_dst (N := 5) rfl ?_); refine bE 5 #[.int .i64 a0_0, .string a0_1, .string a0_2, .slice A0_3 l0_3.length c0_3, .slice A0_4 l0_4.length c0_4] 30 ?_; intro gb532 w10 BK532 hg hb; have GW532 := bZ hg; have GE532 := bZ hg; replace HB := bH hb; clear hb hg; obtain ⟨z11_0, z11_1, z11_2, z11_3, z11_4, y11_0, y11_1, y11_2, y11_3, y11_4⟩ := y5 BK532))
    go_ret; exact ⟨eW, bB⟩
   ·rw [if_neg c9] at H
    have c9b0 := beq_eq_false_iff_ne.mpr c9; have c9b1 := bne_iff_ne.mpr c9
    by_cases c12 : a0_0 = 3
    ·rw [if_pos c12] at H
     have c12b0 := beq_iff_eq.mpr c12; have c12b1 := bne_eq_false_iff_eq.mpr c12; clear c12; obtain ⟨t533, A13, H⟩ := bO H; obtain rfl := Option.some.inj H
     go_enter Tryd.func54, Tryd.ntmps54
     go_wp2_with (first | ((with_reducible refine gate_dst (N := 5) rfl ?_); refine bE 5 #[.int .i64 a0_0, .string a0_1, .string a0_2, .slice A0_3 l0_3.length c0_3, .slice A0_4 l0_4.length c0_4] 30 ?_; intro gb532 w14 BK532 hg hb; have GW532 := bZ hg; have GE532 := bZ hg; replace HB := bH hb; clear hb hg; obtain ⟨z15_0, z15_1, z15_2, z15_3, z15_4, y15_0, y15_1, y15_2, y15_3, y15_4⟩ := y5 BK532) | ((with_reducible refine gate_callee (f := 68) rfl ?_); refine gL 30 Tryd.func68 #[.agg #[.int .i64 3, .string a0_1, .int .i64 0, .slice A0_3 l0_3.length c0_3], .slice A2 l2.length c2] ?_; (with_reducible refine (sequiturref14_term.calls k 3 a0_1 0 _ _ l0_3 _ _ l2 t533 _ ?side1 HC0_3.out ?side3 HC2.out A13.out).mono ?_); (case side1 => exact cB HR0_3); (case side3 => exact cB HR2); rintro e w16 ⟨rfl, hb⟩; refine ⟨_, rfl, ?_⟩; replace BK532 := bK BK532 hb; replace HB := bH hb; clear hb))
     go_ret; exact ⟨eW, bB⟩
    ·rw [if_neg c12] at H
     have c12b0 := beq_eq_false_iff_ne.mpr c12; have c12b1 := bne_iff_ne.mpr c12
     by_cases c17 : a0_0 = 4
     ·rw [if_pos c17] at H
      have c17b0 := beq_iff_eq.mpr c17; have c17b1 := bne_eq_false_iff_eq.mpr c17; clear c17
      by_cases c18 : 0 < (l0_3.length : Int)
      ·rw [if_pos c18] at H
       have c18b0 : decide (0 < (l0_3.length : Int)) = true := decide_eq_true c18; have c18b1 : decide (0 < l0_3.length) = true := decide_eq_true (by omega); clear c18; obtain ⟨t535, A19, H⟩ := bO H
       by_cases c20 : t535.size + 3 ≤ 9223372036854775807
       ·rw [if_pos c20] at H
        have c20b0 := eq_true c20; have c20b1 := decide_eq_true c20
        try have c20b2 := eq_false (Nat.not_lt.2 c20)
        by_cases c21 : 1 < (l0_3.length : Int)
        ·rw [if_pos c21] at H
         have c21b0 : decide (1 < (l0_3.length : Int)) = true := decide_eq_true c21; have c21b1 : decide (1 < l0_3.length) = true := decide_eq_true (by omega); clear c21; obtain ⟨t537, A22, H⟩ := bO H
         by_cases c23 : (t535 ++ (⟨#[32, 61, 32]⟩ : ByteArray)).size + t537.size ≤ 9223372036854775807
         ·rw [if_pos c23] at H
          have c23b0 := eq_true c23; have c23b1 := decide_eq_true c23; have c23n : t535.size + 3 + t537.size ≤ 9223372036854775807 := by have h_ := c23; simp only [ByteArray.size_append] at h_; have z0_ : (⟨#[32, 61, 32]⟩ : ByteArray).size = 3 := rfl; first | exact h_ | omega
          have c23b3 := eq_true c23n; have c23b4 : (9223372036854775807 < t535.size + 3 + t537.size) = False := eq_false (Nat.not_lt.2 c23n)
          try have c23b2 := eq_false (Nat.not_lt.2 c23)
          obtain rfl := Option.some.inj H
          go_enter Tryd.func54, Tryd.ntmps54
          try go_wp2_with (first | ((with_reducible refine gate_dst (N := 5) rfl ?_); refine bE 5 #[.int .i64 a0_0, .string a0_1, .string a0_2, .slice A0_3 l0_3.length c0_3, .slice A0_4 l0_4.length c0_4] 30 ?_; intro gb532 w24 BK532 hg hb; have GW532 := bZ hg; have GE532 := bZ hg; replace HB := bH hb; clear hb hg; obtain ⟨z25_0, z25_1, z25_2, z25_3, z25_4, y25_0, y25_1, y25_2, y25_3, y25_4⟩ := y5 BK532))
          replace BK532 := am (blk_drew BK532.out); replace HB := am (below_drew1 HB.out); have p534 : 0 ≤ (0 : Int) := (by omega); have q534 : 0 < (l0_3.length : Int) := of_decide_eq_true eA; obtain ⟨ad534, A534_3, c534_3, e534, hx534_0, hx534_1, hx534_2, hx534_3, hl534_3, hi534_3⟩ := at_T53 HR0_3.out 0 p534 q534; have hw534_3 := hx534_3; (try rw [show ((0 : Int)).toNat = 0 from rfl] at hw534_3); (try rw [show 0 * 4 = 0 from rfl] at hw534_3); (try rw [Addr.add_zero'] at hw534_3); have hw534_2 := hx534_2; (try rw [show ((0 : Int)).toNat = 0 from rfl] at hw534_2); (try rw [show 0 * 4 = 0 from rfl] at hw534_2); (try rw [Addr.add_zero'] at hw534_2); have hw534_1 := hx534_1; (try rw [show ((0 : Int)).toNat = 0 from rfl] at hw534_1); (try rw [show 0 * 4 = 0 from rfl] at hw534_1); (try rw [Addr.add_zero'] at hw534_1); have hw534_0 := hx534_0; (try rw [show ((0 : Int)).toNat = 0 from rfl] at hw534_0); (try rw [show 0 * 4 = 0 from rfl] at hw534_0)
          (try rw [Addr.add_zero'] at hw534_0)
          cases e534
          have qi534 : (0 < l0_3.length) = True := eq_true (by omega); (try rw [show ((0 : Int)).toNat = 0 from rfl] at hx534_0); (try rw [show 0 * 4 = 0 from rfl] at hx534_0); (try rw [Addr.add_zero'] at hx534_0); (try rw [show ((0 : Int)).toNat = 0 from rfl] at hx534_1); (try rw [show 0 * 4 = 0 from rfl] at hx534_1); (try rw [Addr.add_zero'] at hx534_1); (try rw [show ((0 : Int)).toNat = 0 from rfl] at hx534_2); (try rw [show 0 * 4 = 0 from rfl] at hx534_2); (try rw [Addr.add_zero'] at hx534_2); (try rw [show ((0 : Int)).toNat = 0 from rfl] at hx534_3); (try rw [show 0 * 4 = 0 from rfl] at hx534_3); (try rw [Addr.add_zero'] at hx534_3); replace hx534_0 := cX HB hx534_0; replace hx534_1 := cX HB hx534_1; replace hx534_2 := cX HB hx534_2; replace hx534_3 := cX HB hx534_3; have HR534_3 := am hi534_3; have HC534_3 := am hl534_3; clear hi534_3 hl534_3; replace p534 := eq_true p534; replace q534 := eq_true q534; have p536 : 0 ≤ (1 : Int) := (by omega)
          have q536 : 1 < (l0_3.length : Int) := of_decide_eq_true eA; obtain ⟨ad536, A536_3, c536_3, e536, hx536_0, hx536_1, hx536_2, hx536_3, hl536_3, hi536_3⟩ := at_T53 HR0_3.out 1 p536 q536; have hw536_3 := hx536_3; (try rw [show ((1 : Int)).toNat = 1 from rfl] at hw536_3); (try rw [show 1 * 4 = 4 from rfl] at hw536_3); (try simp only [Nat.reduceMul, Nat.reduceEqDiff, Go.Addr.add, ↓reduceIte] at hw536_3); have hw536_2 := hx536_2; (try rw [show ((1 : Int)).toNat = 1 from rfl] at hw536_2); (try rw [show 1 * 4 = 4 from rfl] at hw536_2); (try simp only [Nat.reduceMul, Nat.reduceEqDiff, Go.Addr.add, ↓reduceIte] at hw536_2); have hw536_1 := hx536_1; (try rw [show ((1 : Int)).toNat = 1 from rfl] at hw536_1); (try rw [show 1 * 4 = 4 from rfl] at hw536_1); (try simp only [Nat.reduceMul, Nat.reduceEqDiff, Go.Addr.add, ↓reduceIte] at hw536_1); have hw536_0 := hx536_0; (try rw [show ((1 : Int)).toNat = 1 from rfl] at hw536_0); (try rw [show 1 * 4 = 4 from rfl] at hw536_0)
          (try simp only [Nat.reduceMul, Nat.reduceEqDiff, Go.Addr.add, ↓reduceIte] at hw536_0); obtain rfl : ad534 = ad536 := (by injection e536); (try simp only [show (1 : Int).toNat = 1 from rfl, Nat.reduceMul, Nat.reduceEqDiff, Go.Addr.add, ↓reduceIte] at hx536_0); (try simp only [show (1 : Int).toNat = 1 from rfl, Nat.reduceMul, Nat.reduceEqDiff, Go.Addr.add, ↓reduceIte] at hx536_1); (try simp only [show (1 : Int).toNat = 1 from rfl, Nat.reduceMul, Nat.reduceEqDiff, Go.Addr.add, ↓reduceIte] at hx536_2); (try simp only [show (1 : Int).toNat = 1 from rfl, Nat.reduceMul, Nat.reduceEqDiff, Go.Addr.add, ↓reduceIte] at hx536_3); have qi536 : (1 < l0_3.length) = True := eq_true (by omega); (try rw [show ((1 : Int)).toNat = 1 from rfl] at hx536_0); (try rw [show 1 * 4 = 4 from rfl] at hx536_0); (try rw [show ((1 : Int)).toNat = 1 from rfl] at hx536_1); (try rw [show 1 * 4 = 4 from rfl] at hx536_1); (try rw [show ((1 : Int)).toNat = 1 from rfl] at hx536_2)
          (try rw [show 1 * 4 = 4 from rfl] at hx536_2); (try rw [show ((1 : Int)).toNat = 1 from rfl] at hx536_3); (try rw [show 1 * 4 = 4 from rfl] at hx536_3); replace hx536_0 := cX HB hx536_0; replace hx536_1 := cX HB hx536_1; replace hx536_2 := cX HB hx536_2; replace hx536_3 := cX HB hx536_3; have HR536_3 := am hi536_3; have HC536_3 := am hl536_3; clear hi536_3 hl536_3; replace p536 := eq_true p536; replace q536 := eq_true q536; refine sS 15 (k5 BK532 (eW8 HB hw534_0 hw534_1 hw534_2 hw534_3 hw536_0 hw536_1 hw536_2 hw536_3)) fun hHeld => ?_
          refine with_tabW sequiturref14_claim.tab9 sequiturref14_claim.bits9 (fun HT_ HW_ => ?_); generalize w24.drew = w26 at BK532 HB HR534_3 HR536_3 hx534_0 hx534_1 hx534_2 hx534_3 hx536_0 hx536_1 hx536_2 hx536_3 hHeld ⊢
          refine pS 0 33 ?_; refine pS 4 37 ?_; refine pS 7 40 ?_; refine pS 11 44 ?_; refine tS 1 34 ?_; refine pS 2 35 ?_; refine tS 3 36 ?_; refine tS 8 41 ?_; refine pS 9 42 ?_; refine tS 10 43 ?_; refine oS 5 38 fun K hK => ?_
          refine goS Tryd.func68 #[.agg #[.int .i64 ((rd_T53 l0_3 0).f0), .string ((rd_T53 l0_3 0).f1), .int .i64 ((rd_T53 l0_3 0).f2), .slice A534_3 ((rd_T53 l0_3 0).f3).length c534_3], .slice A2 l2.length c2] ?_; (with_reducible refine (sequiturref14_term.calls k ((rd_T53 l0_3 0).f0) ((rd_T53 l0_3 0).f1) ((rd_T53 l0_3 0).f2) _ _ ((rd_T53 l0_3 0).f3) _ _ l2 t535 _ ?side1 HC534_3.out ?side3 HC2.out A19.out).mono ?_); (case side1 => exact cB HR534_3); (case side3 => exact cB HR2); rintro e w27 ⟨rfl, hb⟩; refine ⟨_, rfl, ?_⟩; replace BK532 := bK BK532 hb; replace HB := bH hb; clear hb; refine hK.out _ _ (k5 BK532 (eW8 HB hw534_0 hw534_1 hw534_2 hw534_3 hw536_0 hw536_1 hw536_2 hw536_3)) fun hHeld => ?_
          clear hK K; refine nS 38 ?_; refine pS 6 39 ?_; refine oS 12 45 fun K hK => ?_
          refine goS Tryd.func68 #[.agg #[.int .i64 ((rd_T53 l0_3 1).f0), .string ((rd_T53 l0_3 1).f1), .int .i64 ((rd_T53 l0_3 1).f2), .slice A536_3 ((rd_T53 l0_3 1).f3).length c536_3], .slice A2 l2.length c2] ?_; (with_reducible refine (sequiturref14_term.calls k ((rd_T53 l0_3 1).f0) ((rd_T53 l0_3 1).f1) ((rd_T53 l0_3 1).f2) _ _ ((rd_T53 l0_3 1).f3) _ _ l2 t537 _ ?side1 HC536_3.out ?side3 HC2.out A22.out).mono ?_); (case side1 => exact cB HR536_3); (case side3 => exact cB HR2); rintro e w28 ⟨rfl, hb⟩; refine ⟨_, rfl, ?_⟩; replace BK532 := bK BK532 hb; replace HB := bH hb; clear hb; refine hK.out _ _ (k5 BK532 (eW8 HB hw534_0 hw534_1 hw534_2 hw534_3 hw536_0 hw536_1 hw536_2 hw536_3)) fun hHeld => ?_
          clear hK K; refine nS 45 ?_; refine pS 13 46 ?_; refine pS 14 10 ?_; refine done_ (done_of HT_.out (by kernel_rfl)) ?_
          try go_wp2
          go_ret; exact ⟨eW, bB⟩
         ·rw [if_neg c23] at H
          exact absurd H (by simp)
        ·rw [if_neg c21] at H
         exact absurd H (by simp)
       ·rw [if_neg c20] at H
        exact absurd H (by simp)
      ·rw [if_neg c18] at H
       exact absurd H (by simp)
     ·rw [if_neg c17] at H
      have c17b0 := beq_eq_false_iff_ne.mpr c17; have c17b1 := bne_iff_ne.mpr c17
      by_cases c29 : a0_0 = 5
      ·rw [if_pos c29] at H
       have c29b0 := beq_iff_eq.mpr c29; have c29b1 := bne_eq_false_iff_eq.mpr c29; clear c29
       by_cases c30 : 0 < (l0_3.length : Int)
       ·rw [if_pos c30] at H
        have c30b0 : decide (0 < (l0_3.length : Int)) = true := decide_eq_true c30; have c30b1 : decide (0 < l0_3.length) = true := decide_eq_true (by omega); clear c30; obtain ⟨t539, A31, H⟩ := bO H
        by_cases c32 : t539.size + 4 ≤ 9223372036854775807
        ·rw [if_pos c32] at H
         have c32b0 := eq_true c32; have c32b1 := decide_eq_true c32
         try have c32b2 := eq_false (Nat.not_lt.2 c32)
         by_cases c33 : 1 < (l0_3.length : Int)
         ·rw [if_pos c33] at H
          have c33b0 : decide (1 < (l0_3.length : Int)) = true := decide_eq_true c33; have c33b1 : decide (1 < l0_3.length) = true := decide_eq_true (by omega); clear c33; obtain ⟨t541, A34, H⟩ := bO H
          by_cases c35 : (t539 ++ (⟨#[32, 60, 61, 32]⟩ : ByteArray)).size + t541.size ≤ 9223372036854775807
          ·rw [if_pos c35] at H
           have c35b0 := eq_true c35; have c35b1 := decide_eq_true c35; have c35n : t539.size + 4 + t541.size ≤ 9223372036854775807 := by have h_ := c35; simp only [ByteArray.size_append] at h_; have z0_ : (⟨#[32, 60, 61, 32]⟩ : ByteArray).size = 4 := rfl; first | exact h_ | omega
           have c35b3 := eq_true c35n; have c35b4 : (9223372036854775807 < t539.size + 4 + t541.size) = False := eq_false (Nat.not_lt.2 c35n)
           try have c35b2 := eq_false (Nat.not_lt.2 c35)
           obtain rfl := Option.some.inj H
           go_enter Tryd.func54, Tryd.ntmps54
           try go_wp2_with (first | ((with_reducible refine gate_dst (N := 5) rfl ?_); refine bE 5 #[.int .i64 a0_0, .string a0_1, .string a0_2, .slice A0_3 l0_3.length c0_3, .slice A0_4 l0_4.length c0_4] 30 ?_; intro gb532 w36 BK532 hg hb; have GW532 := bZ hg; have GE532 := bZ hg; replace HB := bH hb; clear hb hg; obtain ⟨z37_0, z37_1, z37_2, z37_3, z37_4, y37_0, y37_1, y37_2, y37_3, y37_4⟩ := y5 BK532))
           replace BK532 := am (blk_drew BK532.out); replace HB := am (below_drew1 HB.out); have p538 : 0 ≤ (0 : Int) := (by omega); have q538 : 0 < (l0_3.length : Int) := of_decide_eq_true eA; obtain ⟨ad538, A538_3, c538_3, e538, hx538_0, hx538_1, hx538_2, hx538_3, hl538_3, hi538_3⟩ := at_T53 HR0_3.out 0 p538 q538; have hw538_3 := hx538_3; (try rw [show ((0 : Int)).toNat = 0 from rfl] at hw538_3); (try rw [show 0 * 4 = 0 from rfl] at hw538_3); (try rw [Addr.add_zero'] at hw538_3); have hw538_2 := hx538_2; (try rw [show ((0 : Int)).toNat = 0 from rfl] at hw538_2); (try rw [show 0 * 4 = 0 from rfl] at hw538_2); (try rw [Addr.add_zero'] at hw538_2); have hw538_1 := hx538_1; (try rw [show ((0 : Int)).toNat = 0 from rfl] at hw538_1); (try rw [show 0 * 4 = 0 from rfl] at hw538_1); (try rw [Addr.add_zero'] at hw538_1); have hw538_0 := hx538_0; (try rw [show ((0 : Int)).toNat = 0 from rfl] at hw538_0); (try rw [show 0 * 4 = 0 from rfl] at hw538_0)
           (try rw [Addr.add_zero'] at hw538_0)
           cases e538
           have qi538 : (0 < l0_3.length) = True := eq_true (by omega); (try rw [show ((0 : Int)).toNat = 0 from rfl] at hx538_0); (try rw [show 0 * 4 = 0 from rfl] at hx538_0); (try rw [Addr.add_zero'] at hx538_0); (try rw [show ((0 : Int)).toNat = 0 from rfl] at hx538_1); (try rw [show 0 * 4 = 0 from rfl] at hx538_1); (try rw [Addr.add_zero'] at hx538_1); (try rw [show ((0 : Int)).toNat = 0 from rfl] at hx538_2); (try rw [show 0 * 4 = 0 from rfl] at hx538_2); (try rw [Addr.add_zero'] at hx538_2); (try rw [show ((0 : Int)).toNat = 0 from rfl] at hx538_3); (try rw [show 0 * 4 = 0 from rfl] at hx538_3); (try rw [Addr.add_zero'] at hx538_3); replace hx538_0 := cX HB hx538_0; replace hx538_1 := cX HB hx538_1; replace hx538_2 := cX HB hx538_2; replace hx538_3 := cX HB hx538_3; have HR538_3 := am hi538_3; have HC538_3 := am hl538_3; clear hi538_3 hl538_3; replace p538 := eq_true p538; replace q538 := eq_true q538; have p540 : 0 ≤ (1 : Int) := (by omega)
           have q540 : 1 < (l0_3.length : Int) := of_decide_eq_true eA; obtain ⟨ad540, A540_3, c540_3, e540, hx540_0, hx540_1, hx540_2, hx540_3, hl540_3, hi540_3⟩ := at_T53 HR0_3.out 1 p540 q540; have hw540_3 := hx540_3; (try rw [show ((1 : Int)).toNat = 1 from rfl] at hw540_3); (try rw [show 1 * 4 = 4 from rfl] at hw540_3); (try simp only [Nat.reduceMul, Nat.reduceEqDiff, Go.Addr.add, ↓reduceIte] at hw540_3); have hw540_2 := hx540_2; (try rw [show ((1 : Int)).toNat = 1 from rfl] at hw540_2); (try rw [show 1 * 4 = 4 from rfl] at hw540_2); (try simp only [Nat.reduceMul, Nat.reduceEqDiff, Go.Addr.add, ↓reduceIte] at hw540_2); have hw540_1 := hx540_1; (try rw [show ((1 : Int)).toNat = 1 from rfl] at hw540_1); (try rw [show 1 * 4 = 4 from rfl] at hw540_1); (try simp only [Nat.reduceMul, Nat.reduceEqDiff, Go.Addr.add, ↓reduceIte] at hw540_1); have hw540_0 := hx540_0; (try rw [show ((1 : Int)).toNat = 1 from rfl] at hw540_0); (try rw [show 1 * 4 = 4 from rfl] at hw540_0)
           (try simp only [Nat.reduceMul, Nat.reduceEqDiff, Go.Addr.add, ↓reduceIte] at hw540_0); obtain rfl : ad538 = ad540 := (by injection e540); (try simp only [show (1 : Int).toNat = 1 from rfl, Nat.reduceMul, Nat.reduceEqDiff, Go.Addr.add, ↓reduceIte] at hx540_0); (try simp only [show (1 : Int).toNat = 1 from rfl, Nat.reduceMul, Nat.reduceEqDiff, Go.Addr.add, ↓reduceIte] at hx540_1); (try simp only [show (1 : Int).toNat = 1 from rfl, Nat.reduceMul, Nat.reduceEqDiff, Go.Addr.add, ↓reduceIte] at hx540_2); (try simp only [show (1 : Int).toNat = 1 from rfl, Nat.reduceMul, Nat.reduceEqDiff, Go.Addr.add, ↓reduceIte] at hx540_3); have qi540 : (1 < l0_3.length) = True := eq_true (by omega); (try rw [show ((1 : Int)).toNat = 1 from rfl] at hx540_0); (try rw [show 1 * 4 = 4 from rfl] at hx540_0); (try rw [show ((1 : Int)).toNat = 1 from rfl] at hx540_1); (try rw [show 1 * 4 = 4 from rfl] at hx540_1); (try rw [show ((1 : Int)).toNat = 1 from rfl] at hx540_2)
           (try rw [show 1 * 4 = 4 from rfl] at hx540_2); (try rw [show ((1 : Int)).toNat = 1 from rfl] at hx540_3); (try rw [show 1 * 4 = 4 from rfl] at hx540_3); replace hx540_0 := cX HB hx540_0; replace hx540_1 := cX HB hx540_1; replace hx540_2 := cX HB hx540_2; replace hx540_3 := cX HB hx540_3; have HR540_3 := am hi540_3; have HC540_3 := am hl540_3; clear hi540_3 hl540_3; replace p540 := eq_true p540; replace q540 := eq_true q540; refine sS 15 (k5 BK532 (eW8 HB hw538_0 hw538_1 hw538_2 hw538_3 hw540_0 hw540_1 hw540_2 hw540_3)) fun hHeld => ?_
           refine with_tabW sequiturref14_claim.tab11 sequiturref14_claim.bits11 (fun HT_ HW_ => ?_); generalize w36.drew = w38 at BK532 HB HR538_3 HR540_3 hx538_0 hx538_1 hx538_2 hx538_3 hx540_0 hx540_1 hx540_2 hx540_3 hHeld ⊢
           refine pS 0 49 ?_; refine pS 4 53 ?_; refine pS 7 56 ?_; refine pS 11 60 ?_; refine tS 1 50 ?_; refine pS 2 51 ?_; refine tS 3 52 ?_; refine tS 8 57 ?_; refine pS 9 58 ?_; refine tS 10 59 ?_; refine oS 5 54 fun K hK => ?_
           refine goS Tryd.func68 #[.agg #[.int .i64 ((rd_T53 l0_3 0).f0), .string ((rd_T53 l0_3 0).f1), .int .i64 ((rd_T53 l0_3 0).f2), .slice A538_3 ((rd_T53 l0_3 0).f3).length c538_3], .slice A2 l2.length c2] ?_; (with_reducible refine (sequiturref14_term.calls k ((rd_T53 l0_3 0).f0) ((rd_T53 l0_3 0).f1) ((rd_T53 l0_3 0).f2) _ _ ((rd_T53 l0_3 0).f3) _ _ l2 t539 _ ?side1 HC538_3.out ?side3 HC2.out A31.out).mono ?_); (case side1 => exact cB HR538_3); (case side3 => exact cB HR2); rintro e w39 ⟨rfl, hb⟩; refine ⟨_, rfl, ?_⟩; replace BK532 := bK BK532 hb; replace HB := bH hb; clear hb; refine hK.out _ _ (k5 BK532 (eW8 HB hw538_0 hw538_1 hw538_2 hw538_3 hw540_0 hw540_1 hw540_2 hw540_3)) fun hHeld => ?_
           clear hK K; refine nS 54 ?_; refine pS 6 55 ?_; refine oS 12 61 fun K hK => ?_
           refine goS Tryd.func68 #[.agg #[.int .i64 ((rd_T53 l0_3 1).f0), .string ((rd_T53 l0_3 1).f1), .int .i64 ((rd_T53 l0_3 1).f2), .slice A540_3 ((rd_T53 l0_3 1).f3).length c540_3], .slice A2 l2.length c2] ?_; (with_reducible refine (sequiturref14_term.calls k ((rd_T53 l0_3 1).f0) ((rd_T53 l0_3 1).f1) ((rd_T53 l0_3 1).f2) _ _ ((rd_T53 l0_3 1).f3) _ _ l2 t541 _ ?side1 HC540_3.out ?side3 HC2.out A34.out).mono ?_); (case side1 => exact cB HR540_3); (case side3 => exact cB HR2); rintro e w40 ⟨rfl, hb⟩; refine ⟨_, rfl, ?_⟩; replace BK532 := bK BK532 hb; replace HB := bH hb; clear hb; refine hK.out _ _ (k5 BK532 (eW8 HB hw538_0 hw538_1 hw538_2 hw538_3 hw540_0 hw540_1 hw540_2 hw540_3)) fun hHeld => ?_
           clear hK K; refine nS 61 ?_; refine pS 13 62 ?_; refine pS 14 10 ?_; refine done_ (done_of HT_.out (by kernel_rfl)) ?_
           try go_wp2
           go_ret; exact ⟨eW, bB⟩
          ·rw [if_neg c35] at H
           exact absurd H (by simp)
         ·rw [if_neg c33] at H
          exact absurd H (by simp)
        ·rw [if_neg c32] at H
         exact absurd H (by simp)
       ·rw [if_neg c30] at H
        exact absurd H (by simp)
      ·rw [if_neg c29] at H
       have c29b0 := beq_eq_false_iff_ne.mpr c29; have c29b1 := bne_iff_ne.mpr c29
       by_cases c41 : a0_0 = 6
       ·rw [if_pos c41] at H
        have c41b0 := beq_iff_eq.mpr c41; have c41b1 := bne_eq_false_iff_eq.mpr c41; clear c41
        by_cases c42 : 0 < (l0_4.length : Int)
        ·rw [if_pos c42] at H
         have c42b0 : decide (0 < (l0_4.length : Int)) = true := decide_eq_true c42; have c42b1 : decide (0 < l0_4.length) = true := decide_eq_true (by omega); clear c42; obtain ⟨t543, A43, H⟩ := bO H
         by_cases c44 : 1 + t543.size ≤ 9223372036854775807
         ·rw [if_pos c44] at H
          have c44b0 := eq_true c44; have c44b1 := decide_eq_true c44
          try have c44b2 := eq_false (Nat.not_lt.2 c44)
          obtain rfl := Option.some.inj H
          go_enter Tryd.func54, Tryd.ntmps54
          go_wp2_with (first | ((with_reducible refine gate_dst (N := 5) rfl ?_); refine bE 5 #[.int .i64 a0_0, .string a0_1, .string a0_2, .slice A0_3 l0_3.length c0_3, .slice A0_4 l0_4.length c0_4] 30 ?_; intro gb532 w45 BK532 hg hb; have GW532 := bZ hg; have GE532 := bZ hg; replace HB := bH hb; clear hb hg; obtain ⟨z46_0, z46_1, z46_2, z46_3, z46_4, y46_0, y46_1, y46_2, y46_3, y46_4⟩ := y5 BK532; have p542 : 0 ≤ (0 : Int) := (by omega); have q542 : 0 < (l0_4.length : Int) := of_decide_eq_true eA; obtain ⟨ad542, A542_3, c542_3, A542_4, c542_4, e542, hx542_0, hx542_1, hx542_2, hx542_3, hx542_4, hl542_3, hi542_3, hl542_4, hi542_4⟩ := at_T30 HR0_4.out 0 p542 q542; cases e542; have qi542 : (0 < l0_4.length) = True := eq_true (by omega); (try rw [show ((0 : Int)).toNat = 0 from rfl] at hx542_0); (try rw [show 0 * 5 = 0 from rfl] at hx542_0); (try rw [Addr.add_zero'] at hx542_0); (try rw [show ((0 : Int)).toNat = 0 from rfl] at hx542_1); (try rw [show 0 * 5 = 0 from rfl] at hx542_1); (try rw [Addr.add_zero'] at hx542_1); (try rw [show ((0 : Int)).toNat = 0 from rfl] at hx542_2); (try rw [show 0 * 5 = 0 from rfl] at hx542_2); (try rw [Addr.add_zero'] at hx542_2); (try rw [show ((0 : Int)).toNat = 0 from rfl] at hx542_3); (try rw [show 0 * 5 = 0 from rfl] at hx542_3); (try rw [Addr.add_zero'] at hx542_3); (try rw [show ((0 : Int)).toNat = 0 from rfl] at hx542_4); (try rw [show 0 * 5 = 0 from rfl] at hx542_4); (try rw [Addr.add_zero'] at hx542_4); replace hx542_0 := cX HB hx542_0; replace hx542_1 := cX HB hx542_1; replace hx542_2 := cX HB hx542_2; replace hx542_3 := cX HB hx542_3; replace hx542_4 := cX HB hx542_4; have HR542_3 := am hi542_3; have HC542_3 := am hl542_3; clear hi542_3 hl542_3; have HR542_4 := am hi542_4; have HC542_4 := am hl542_4; clear hi542_4 hl542_4; replace p542 := eq_true p542; replace q542 := eq_true q542) | ((with_reducible refine gate_callee (f := 54) rfl ?_); refine gL 72 Tryd.func54 #[.agg #[.int .i64 ((rd_T30 l0_4 0).f0), .string ((rd_T30 l0_4 0).f1), .string ((rd_T30 l0_4 0).f2), .slice A542_3 ((rd_T30 l0_4 0).f3).length c542_3, .slice A542_4 ((rd_T30 l0_4 0).f4).length c542_4], .slice A1 l1.length c1, .slice A2 l2.length c2, .int .i64 5, .bool a4] ?_; (with_reducible refine (ih k (by omega) ((rd_T30 l0_4 0).f0) ((rd_T30 l0_4 0).f1) ((rd_T30 l0_4 0).f2) _ _ ((rd_T30 l0_4 0).f3) _ _ ((rd_T30 l0_4 0).f4) _ _ l1 _ _ l2 5 a4 t543 _ ?side1 HC542_3.out ?side3 HC542_4.out ?side5 HC1.out ?side7 HC2.out A43.out).mono ?_); (case side1 => exact cB HR542_3); (case side3 => exact cB HR542_4); (case side5 => exact cB HR1); (case side7 => exact cB HR2); rintro e w47 ⟨rfl, hb⟩; refine ⟨_, rfl, ?_⟩; replace BK532 := bK BK532 hb; replace HB := bH hb; clear hb))
          go_ret; exact ⟨eW, bB⟩
         ·rw [if_neg c44] at H
          exact absurd H (by simp)
        ·rw [if_neg c42] at H
         exact absurd H (by simp)
       ·rw [if_neg c41] at H
        have c41b0 := beq_eq_false_iff_ne.mpr c41; have c41b1 := bne_iff_ne.mpr c41; have HC48 := am H; clear H
        go_enter Tryd.func54, Tryd.ntmps54
        go_upto_if 74 with (first | ((with_reducible refine gate_dst (N := 5) rfl ?_); refine bE 5 #[.int .i64 a0_0, .string a0_1, .string a0_2, .slice A0_3 l0_3.length c0_3, .slice A0_4 l0_4.length c0_4] 30 ?_; intro gb532 w49 BK532 hg hb; have GW532 := bZ hg; have GE532 := bZ hg; replace HB := bH hb; clear hb hg; obtain ⟨z50_0, z50_1, z50_2, z50_3, z50_4, y50_0, y50_1, y50_2, y50_3, y50_4⟩ := y5 BK532))
        (try simp only [Act.put, List.setIfInBounds_toArray, List.set_cons_zero, List.set_cons_succ])
        go_cut [74] (fun v74 wc => ∃ (kq : Nat) (x74_47 : Bool), v74 = .bool x74_47 ∧ Aside0 (sequiturref14_claim.j0 kq l1 l2 a3 a4 x74_47 a0_0 a0_1 a0_2 l0_3 l0_4 = some r) ∧ Aside0 (kq ≤ k) ∧ Aside0 (wc.heap[gb532]? = some (.cells #[.int .i64 a0_0, .string a0_1, .string a0_2, (.slice A0_3 l0_3.length c0_3), (.slice A0_4 l0_4.length c0_4)] 30 (0, 0))) ∧ Aside0 (Below w.heap.size w wc))
        case first =>
         have H := HC48.out; clear HC48
         by_cases c51 : a0_0 = 11
         ·rw [if_pos c51] at H
          have c51b0 := beq_iff_eq.mpr c51; have c51b1 := bne_eq_false_iff_eq.mpr c51; clear c51; (first | rw [c51b0] | (simp only [i64_w, i32_w]; rw [c51b0]) | skip); have H' := am H; clear H; go_wp2; go_meet
          case rel => exact ⟨_, ((a0_0 == 11)), eS, H', ⟨eO⟩, ⟨bD BK532⟩, ⟨bB⟩⟩
         ·rw [if_neg c51] at H
          have c51b0 := beq_eq_false_iff_ne.mpr c51; have c51b1 := bne_iff_ne.mpr c51; (first | rw [c51b0] | (simp only [i64_w, i32_w]; rw [c51b0]) | skip); have H' := am H; clear H; go_wp2; go_meet
          case rel => exact ⟨_, ((a0_0 == 12)), eS, H', ⟨eO⟩, ⟨bD BK532⟩, ⟨bB⟩⟩
        case rest =>
         clear HC48; (try clear c1); (try clear c2); (try clear p2); (try clear c3); (try clear c4); (try clear c5); (try clear p5); (try clear q5); (try clear hx5); (try clear qi5); (try clear c6); (try clear c17); (try clear c17b0); (try clear c17b1); (try clear c18); (try clear c20); (try clear c21); (try clear c23); (try clear c29); (try clear c29b0); (try clear c29b1); (try clear c30); (try clear c30b0); (try clear c30b1); (try clear c32); (try clear c32b0); (try clear c32b1); (try clear c32b2); (try clear c33); (try clear c33b0); (try clear c33b1); (try clear c35); (try clear c35b0); (try clear c35b1); (try clear c35b2); (try clear c41); (try clear c41b0); (try clear c41b1); (try clear c42); (try clear c42b0); (try clear c42b1); (try clear c44); (try clear c44b0); (try clear c44b1); (try clear c44b2); (try clear c51); (try clear c51b0); (try clear c51b1); (try clear z37_0 z37_1 z37_2 z37_3 z37_4); (try clear z46_0 z46_1 z46_2 z46_3 z46_4); (try clear z50_0 z50_1 z50_2 z50_3 z50_4); (try clear y37_0 y37_1 y37_2 y37_3 y37_4); try clear y46_0 y46_1 y46_2 y46_3 y46_4
         (try clear y50_0 y50_1 y50_2 y50_3 y50_4); (try clear hx534_0); (try clear hx534_1); (try clear hx534_2); (try clear hx534_3); (try clear hx536_0); (try clear hx536_1); (try clear hx536_2); (try clear hx536_3); (try clear hx538_0); (try clear hx538_1); (try clear hx538_2); (try clear hx538_3); (try clear hx540_0); (try clear hx540_1); (try clear hx540_2); (try clear hx540_3); (try clear hx542_0); (try clear hx542_1); (try clear hx542_2); (try clear hx542_3); (try clear hx542_4); (try clear p534); (try clear p536); (try clear p538); (try clear p540); (try clear p542); (try clear q534); (try clear q536); (try clear q538); (try clear q540); (try clear q542); obtain ⟨kq, x74_47, rfl, HA, HJ47, BK532, HB⟩ := hcut
         cases kq with
         | zero => exact absurd HA.out (by simp [sequiturref14_claim.j0])
         | succ kj47 =>
          have H := HA.out; clear HA; simp only [sequiturref14_claim.j0] at H
          by_cases c52 : x74_47 = true
          ·subst c52
           rw [if_pos rfl] at H
           by_cases c53 : a4 = true
           ·subst c53
            rw [if_pos rfl] at H; have HC54 := am H; clear H; obtain ⟨z55_0, z55_1, z55_2, z55_3, z55_4, y55_0, y55_1, y55_2, y55_3, y55_4⟩ := y5 BK532
            go_upto_if 86 with (fail)
            go_cut [11] (fun v11 wc => ∃ (kq : Nat) (x11_53 : ByteArray), v11 = .string x11_53 ∧ Aside0 (sequiturref14_claim.j1 kq l1 l2 x11_53 a0_0 a0_1 a0_2 l0_3 l0_4 = some r) ∧ Aside0 (kq ≤ kj47) ∧ Aside0 (wc.heap[gb532]? = some (.cells #[.int .i64 a0_0, .string a0_1, .string a0_2, (.slice A0_3 l0_3.length c0_3), (.slice A0_4 l0_4.length c0_4)] 30 (0, 0))) ∧ Aside0 (Below w.heap.size w wc))
            case first =>
             have H := HC54.out; clear HC54
             by_cases c56 : a0_0 = 12
             ·rw [if_pos c56] at H
              have c56b0 := beq_iff_eq.mpr c56; have c56b1 := bne_eq_false_iff_eq.mpr c56; clear c56; (first | rw [c56b0] | (simp only [i64_w, i32_w]; rw [c56b0]) | skip); have H' := am H; clear H; go_wp2; go_meet
              case rel => exact ⟨_, ((⟨#[63]⟩ : ByteArray)), eS, H', ⟨by have := HJ47.out; first | omega | exact Nat.le_refl _⟩, ⟨bD BK532⟩, ⟨bB⟩⟩
             ·rw [if_neg c56] at H
              have c56b0 := beq_eq_false_iff_ne.mpr c56; have c56b1 := bne_iff_ne.mpr c56; (first | rw [c56b0] | (simp only [i64_w, i32_w]; rw [c56b0]) | skip); have H' := am H; clear H; go_wp2; go_meet
              case rel => exact ⟨_, ((⟨#[33]⟩ : ByteArray)), eS, H', ⟨by have := HJ47.out; first | omega | exact Nat.le_refl _⟩, ⟨bD BK532⟩, ⟨bB⟩⟩
            case rest =>
             clear HC54; (try clear c1); (try clear c2); (try clear p2); (try clear c3); (try clear c4); (try clear c5); (try clear p5); (try clear q5); (try clear hx5); (try clear qi5); (try clear c6); (try clear c17); (try clear c17b0); (try clear c17b1); (try clear c18); (try clear c20); (try clear c21); (try clear c23); (try clear c29); (try clear c29b0); (try clear c29b1); (try clear c30); (try clear c30b0); (try clear c30b1); (try clear c32); (try clear c32b0); (try clear c32b1); (try clear c32b2); (try clear c33); (try clear c33b0); (try clear c33b1); (try clear c35); (try clear c35b0); (try clear c35b1); (try clear c35b2); (try clear c41); (try clear c41b0); (try clear c41b1); (try clear c42); (try clear c42b0); (try clear c42b1); (try clear c44); (try clear c44b0); (try clear c44b1); (try clear c44b2); (try clear c51); (try clear c51b0); (try clear c51b1); (try clear c52); (try clear c53); (try clear p53); (try clear q53); (try clear hx53); (try clear qi53); (try clear c54); (try clear p54); (try clear q54); (try clear hx54); (try clear qi54); (try clear c56); (try clear c56b0); (try clear c56b1); try clear z37_0 z37_1 z37_2 z37_3 z37_4
             (try clear z46_0 z46_1 z46_2 z46_3 z46_4); (try clear z50_0 z50_1 z50_2 z50_3 z50_4); (try clear z55_0 z55_1 z55_2 z55_3 z55_4); (try clear y37_0 y37_1 y37_2 y37_3 y37_4); (try clear y46_0 y46_1 y46_2 y46_3 y46_4); (try clear y50_0 y50_1 y50_2 y50_3 y50_4); (try clear y55_0 y55_1 y55_2 y55_3 y55_4); (try clear hx534_0); (try clear hx534_1); (try clear hx534_2); (try clear hx534_3); (try clear hx536_0); (try clear hx536_1); (try clear hx536_2); (try clear hx536_3); (try clear hx538_0); (try clear hx538_1); (try clear hx538_2); (try clear hx538_3); (try clear hx540_0); (try clear hx540_1); (try clear hx540_2); (try clear hx540_3); (try clear hx542_0); (try clear hx542_1); (try clear hx542_2); (try clear hx542_3); (try clear hx542_4); (try clear p2); (try clear p5); (try clear p534); (try clear p536); (try clear p538); (try clear p540); (try clear p542); (try clear q5); (try clear q534); (try clear q536); (try clear q538); (try clear q540); (try clear q542); obtain ⟨kq, x11_53, rfl, HA, HJ53, BK532, HB⟩ := hcut
             cases kq with
             | zero => exact absurd HA.out (by simp [sequiturref14_claim.j1])
             | succ kj53 =>
              have H := HA.out; clear HA; simp only [sequiturref14_claim.j1] at H
              by_cases c57 : ([] : List ByteArray).length + l1.length < 8796093022208
              ·rw [if_pos c57] at H
               have LMc57 := am c57; clear c57; obtain ⟨y546, hy546⟩ : ∃ y_ : List ByteArray, y_ = (([] : List ByteArray) ++ l1) := ⟨_, rfl⟩
               replace H : (if y546.length + l2.length < 8796093022208 then ((sequiturref14_called.f kj53 a0_1 (y546 ++ l2)).bind fun t552 => (if ([] : List ByteArray).length + l2.length < 8796093022208 then ((some (([] : List ByteArray) ++ l2 : List ByteArray)).bind fun y553 => (if y553.length < 8796093022208 then (if x11_53.size + t552.size ≤ 9223372036854775807 then (if (x11_53 ++ t552).size + 2 ≤ 9223372036854775807 then (if ((x11_53 ++ t552) ++ (⟨#[58, 32]⟩ : ByteArray)).size + a0_2.size ≤ 9223372036854775807 then (if (((x11_53 ++ t552) ++ (⟨#[58, 32]⟩ : ByteArray)) ++ a0_2).size + 2 ≤ 9223372036854775807 then (if 0 < (l0_4.length : Int) then ((sequiturref14_claim.f kj53 ((rd_T30 l0_4 0).f0) ((rd_T30 l0_4 0).f1) ((rd_T30 l0_4 0).f2) ((rd_T30 l0_4 0).f3) ((rd_T30 l0_4 0).f4) l1 (y553 ++ [t552]) 1 true).bind fun t560 => (if ((((x11_53 ++ t552) ++ (⟨#[58, 32]⟩ : ByteArray)) ++ a0_2) ++ (⟨#[46, 32]⟩ : ByteArray)).size + t560.size ≤ 9223372036854775807 then (some (((((x11_53 ++ t552) ++ (⟨#[58, 32]⟩ : ByteArray)) ++ a0_2) ++ (⟨#[46, 32]⟩ : ByteArray)) ++ t560)) else (none))) else (none)) else (none)) else (none)) else (none)) else (none)) else (none))) else (none))) else (none)) = some r := by first | (rw [hy546]; with_reducible exact H) | (have H2_ := (Option.bind_some _ _).symm.trans H; rw [hy546]; with_reducible exact H2_) | (have H2_ := (Option.bind_some _ _).symm.trans H; with_reducible exact H2_) | with_reducible exact H | (rw [hy546]; exact H) | exact H
               have Ny546 := am hy546; clear hy546
               by_cases c58 : y546.length + l2.length < 8796093022208
               ·rw [if_pos c58] at H
                have LMc58 := am c58; clear c58; obtain ⟨y549, hy549⟩ : ∃ y_ : List ByteArray, y_ = (y546 ++ l2) := ⟨_, rfl⟩
                replace H : ((sequiturref14_called.f kj53 a0_1 y549).bind fun t552 => (if ([] : List ByteArray).length + l2.length < 8796093022208 then ((some (([] : List ByteArray) ++ l2 : List ByteArray)).bind fun y553 => (if y553.length < 8796093022208 then (if x11_53.size + t552.size ≤ 9223372036854775807 then (if (x11_53 ++ t552).size + 2 ≤ 9223372036854775807 then (if ((x11_53 ++ t552) ++ (⟨#[58, 32]⟩ : ByteArray)).size + a0_2.size ≤ 9223372036854775807 then (if (((x11_53 ++ t552) ++ (⟨#[58, 32]⟩ : ByteArray)) ++ a0_2).size + 2 ≤ 9223372036854775807 then (if 0 < (l0_4.length : Int) then ((sequiturref14_claim.f kj53 ((rd_T30 l0_4 0).f0) ((rd_T30 l0_4 0).f1) ((rd_T30 l0_4 0).f2) ((rd_T30 l0_4 0).f3) ((rd_T30 l0_4 0).f4) l1 (y553 ++ [t552]) 1 true).bind fun t560 => (if ((((x11_53 ++ t552) ++ (⟨#[58, 32]⟩ : ByteArray)) ++ a0_2) ++ (⟨#[46, 32]⟩ : ByteArray)).size + t560.size ≤ 9223372036854775807 then (some (((((x11_53 ++ t552) ++ (⟨#[58, 32]⟩ : ByteArray)) ++ a0_2) ++ (⟨#[46, 32]⟩ : ByteArray)) ++ t560)) else (none))) else (none)) else (none)) else (none)) else (none)) else (none)) else (none))) else (none))) = some r := by first | (rw [hy549]; with_reducible exact H) | (have H2_ := (Option.bind_some _ _).symm.trans H; rw [hy549]; with_reducible exact H2_) | (have H2_ := (Option.bind_some _ _).symm.trans H; with_reducible exact H2_) | with_reducible exact H | (rw [hy549]; exact H) | exact H
                have Ny549 := am hy549; clear hy549; obtain ⟨t552, A59, H⟩ := bO H
                by_cases c60 : ([] : List ByteArray).length + l2.length < 8796093022208
                ·rw [if_pos c60] at H
                 have LMc60 := am c60; clear c60; obtain ⟨y553, hy553⟩ : ∃ y_ : List ByteArray, y_ = (([] : List ByteArray) ++ l2) := ⟨_, rfl⟩
                 replace H : (if y553.length < 8796093022208 then (if x11_53.size + t552.size ≤ 9223372036854775807 then (if (x11_53 ++ t552).size + 2 ≤ 9223372036854775807 then (if ((x11_53 ++ t552) ++ (⟨#[58, 32]⟩ : ByteArray)).size + a0_2.size ≤ 9223372036854775807 then (if (((x11_53 ++ t552) ++ (⟨#[58, 32]⟩ : ByteArray)) ++ a0_2).size + 2 ≤ 9223372036854775807 then (if 0 < (l0_4.length : Int) then ((sequiturref14_claim.f kj53 ((rd_T30 l0_4 0).f0) ((rd_T30 l0_4 0).f1) ((rd_T30 l0_4 0).f2) ((rd_T30 l0_4 0).f3) ((rd_T30 l0_4 0).f4) l1 (y553 ++ [t552]) 1 true).bind fun t560 => (if ((((x11_53 ++ t552) ++ (⟨#[58, 32]⟩ : ByteArray)) ++ a0_2) ++ (⟨#[46, 32]⟩ : ByteArray)).size + t560.size ≤ 9223372036854775807 then (some (((((x11_53 ++ t552) ++ (⟨#[58, 32]⟩ : ByteArray)) ++ a0_2) ++ (⟨#[46, 32]⟩ : ByteArray)) ++ t560)) else (none))) else (none)) else (none)) else (none)) else (none)) else (none)) else (none)) = some r := by first | (rw [hy553]; with_reducible exact H) | (have H2_ := (Option.bind_some _ _).symm.trans H; rw [hy553]; with_reducible exact H2_) | (have H2_ := (Option.bind_some _ _).symm.trans H; with_reducible exact H2_) | with_reducible exact H | (rw [hy553]; exact H) | exact H
                 have Ny553 := am hy553; clear hy553
                 by_cases c61 : y553.length < 8796093022208
                 ·rw [if_pos c61] at H
                  have LMc61 := am c61; clear c61; obtain ⟨y556, hy556⟩ : ∃ y_ : List ByteArray, y_ = (y553 ++ [t552]) := ⟨_, rfl⟩
                  replace H : (if x11_53.size + t552.size ≤ 9223372036854775807 then (if (x11_53 ++ t552).size + 2 ≤ 9223372036854775807 then (if ((x11_53 ++ t552) ++ (⟨#[58, 32]⟩ : ByteArray)).size + a0_2.size ≤ 9223372036854775807 then (if (((x11_53 ++ t552) ++ (⟨#[58, 32]⟩ : ByteArray)) ++ a0_2).size + 2 ≤ 9223372036854775807 then (if 0 < (l0_4.length : Int) then ((sequiturref14_claim.f kj53 ((rd_T30 l0_4 0).f0) ((rd_T30 l0_4 0).f1) ((rd_T30 l0_4 0).f2) ((rd_T30 l0_4 0).f3) ((rd_T30 l0_4 0).f4) l1 y556 1 true).bind fun t560 => (if ((((x11_53 ++ t552) ++ (⟨#[58, 32]⟩ : ByteArray)) ++ a0_2) ++ (⟨#[46, 32]⟩ : ByteArray)).size + t560.size ≤ 9223372036854775807 then (some (((((x11_53 ++ t552) ++ (⟨#[58, 32]⟩ : ByteArray)) ++ a0_2) ++ (⟨#[46, 32]⟩ : ByteArray)) ++ t560)) else (none))) else (none)) else (none)) else (none)) else (none)) else (none)) = some r := by first | (rw [hy556]; with_reducible exact H) | (have H2_ := (Option.bind_some _ _).symm.trans H; rw [hy556]; with_reducible exact H2_) | (have H2_ := (Option.bind_some _ _).symm.trans H; with_reducible exact H2_) | with_reducible exact H | (rw [hy556]; exact H) | exact H
                  have Ny556 := am hy556; clear hy556
                  by_cases c62 : x11_53.size + t552.size ≤ 9223372036854775807
                  ·rw [if_pos c62] at H
                   have c62b0 := eq_true c62; have c62b1 := decide_eq_true c62
                   try have c62b2 := eq_false (Nat.not_lt.2 c62)
                   by_cases c63 : (x11_53 ++ t552).size + 2 ≤ 9223372036854775807
                   ·rw [if_pos c63] at H
                    have c63b0 := eq_true c63; have c63b1 := decide_eq_true c63; have c63n : x11_53.size + t552.size + 2 ≤ 9223372036854775807 := by have h_ := c63; simp only [ByteArray.size_append] at h_; first | exact h_ | omega
                    have c63b3 := eq_true c63n; have c63b4 : (9223372036854775807 < x11_53.size + t552.size + 2) = False := eq_false (Nat.not_lt.2 c63n)
                    try have c63b2 := eq_false (Nat.not_lt.2 c63)
                    by_cases c64 : ((x11_53 ++ t552) ++ (⟨#[58, 32]⟩ : ByteArray)).size + a0_2.size ≤ 9223372036854775807
                    ·rw [if_pos c64] at H
                     have c64b0 := eq_true c64; have c64b1 := decide_eq_true c64; have c64n : x11_53.size + t552.size + 2 + a0_2.size ≤ 9223372036854775807 := by have h_ := c64; simp only [ByteArray.size_append] at h_; have z0_ : (⟨#[58, 32]⟩ : ByteArray).size = 2 := rfl; first | exact h_ | omega
                     have c64b3 := eq_true c64n; have c64b4 : (9223372036854775807 < x11_53.size + t552.size + 2 + a0_2.size) = False := eq_false (Nat.not_lt.2 c64n)
                     try have c64b2 := eq_false (Nat.not_lt.2 c64)
                     by_cases c65 : (((x11_53 ++ t552) ++ (⟨#[58, 32]⟩ : ByteArray)) ++ a0_2).size + 2 ≤ 9223372036854775807
                     ·rw [if_pos c65] at H
                      have c65b0 := eq_true c65; have c65b1 := decide_eq_true c65; have c65n : x11_53.size + t552.size + 2 + a0_2.size + 2 ≤ 9223372036854775807 := by have h_ := c65; simp only [ByteArray.size_append] at h_; have z0_ : (⟨#[58, 32]⟩ : ByteArray).size = 2 := rfl; first | exact h_ | omega
                      have c65b3 := eq_true c65n; have c65b4 : (9223372036854775807 < x11_53.size + t552.size + 2 + a0_2.size + 2) = False := eq_false (Nat.not_lt.2 c65n)
                      try have c65b2 := eq_false (Nat.not_lt.2 c65)
                      by_cases c66 : 0 < (l0_4.length : Int)
                      ·rw [if_pos c66] at H
                       have c66b0 : decide (0 < (l0_4.length : Int)) = true := decide_eq_true c66; have c66b1 : decide (0 < l0_4.length) = true := decide_eq_true (by omega); clear c66; obtain ⟨t560, A67, H⟩ := bO H
                       by_cases c68 : ((((x11_53 ++ t552) ++ (⟨#[58, 32]⟩ : ByteArray)) ++ a0_2) ++ (⟨#[46, 32]⟩ : ByteArray)).size + t560.size ≤ 9223372036854775807
                       ·rw [if_pos c68] at H
                        have c68b0 := eq_true c68; have c68b1 := decide_eq_true c68; have c68n : x11_53.size + t552.size + 2 + a0_2.size + 2 + t560.size ≤ 9223372036854775807 := by have h_ := c68; simp only [ByteArray.size_append] at h_; have z0_ : (⟨#[46, 32]⟩ : ByteArray).size = 2 := rfl; have z1_ : (⟨#[58, 32]⟩ : ByteArray).size = 2 := rfl; first | exact h_ | omega
                        have c68b3 := eq_true c68n; have c68b4 : (9223372036854775807 < x11_53.size + t552.size + 2 + a0_2.size + 2 + t560.size) = False := eq_false (Nat.not_lt.2 c68n)
                        try have c68b2 := eq_false (Nat.not_lt.2 c68)
                        obtain rfl := Option.some.inj H
                        try go_wp2_with (first | ((with_reducible refine gate_builtin (b := .append) (xs := #[.tmp 87, .tmp 88]) rfl ?_); at_builtin; refine Kd.R_append_rows Kd.string (w0 := w) w.heap.size rfl (.tmp 87) (.tmp 88) 22 9 (.string ⟨#[]⟩) 16 rfl Tryd.underlying22 info9 rfl (by decide) (by omega) (.slice none 0 0) ([] : List ByteArray) l1 _ _ _ (fun _ => True) (fun _ => False) rfl rfl ?aO ?aR (fun _ _ h => h) (fun _ h => h.elim) ?aF ?aB ?aS ?aL ?_; (case aR => exact cB HR1); (case aB => exact bB); (case aF => exact (fun _ _ => trivial)); (case aO => exact ((Kd.R_nil _ _ _ _ (fun _ => True)))); (case aS => exact (below_size bB)); (case aL => have := LMc57.out; omega); intro v547 w69 ho hb hg hat; rw [← Ny546.out] at ho; replace BK532 := am (blk_grown (bD BK532) hg (by simp [Value.ownBlock])); replace HB := am (hb); have HO548 := am (ho); clear ho hb hg hat) | ((with_reducible refine gate_builtin (b := .append) (xs := #[.tmp 90, .tmp 91]) rfl ?_); at_builtin; refine Kd.R_append_rows Kd.string (w0 := w) w.heap.size rfl (.tmp 90) (.tmp 91) 22 9 (.string ⟨#[]⟩) 16 rfl Tryd.underlying22 info9 rfl (by decide) (by omega) v547 y546 l2 _ _ _ (fun _ => True) (fun _ => False) rfl rfl ?aO ?aR (fun _ _ h => h) (fun _ h => h.elim) ?aF ?aB ?aS ?aL ?_; (case aR => exact cB HR2); (case aB => exact bB); (case aF => exact (fun _ _ => trivial)); (case aO => exact (d6 HO548)); (case aS => exact (below_size bB)); (case aL => have := LMc58.out; omega); intro v550 w70 ho hb hg hat; rw [← Ny549.out] at ho; replace BK532 := am (blk_grown (bD BK532) hg (Kd.R_ne HO548.out BK532.out (by decide))); replace HB := am (hb); have HO551 := am (ho); clear HO548; clear ho hb hg hat; obtain ⟨z71_0, z71_1, z71_2, z71_3, z71_4, y71_0, y71_1, y71_2, y71_3, y71_4⟩ := y5 BK532; obtain ⟨Ao72, co72, eo72⟩ := Kd.R_slice HO551.out; subst eo72) | ((with_reducible refine gate_callee (f := 70) rfl ?_); refine gL 96 Tryd.func70 #[.string a0_1, .slice Ao72 y549.length co72] ?_; (with_reducible refine (sequiturref14_called.calls kj53 a0_1 _ _ y549 t552 _ ?side1 ?side2 A59.out).mono ?_); (case side1 => repeat (first | exact (Kd.R_reads' HO551.out).2.2 | (with_reducible refine Kd.C_alloc ?_ _) | (with_reducible refine Kd.C_drewN ?_ _) | (with_reducible refine Kd.C_drew ?_))); (case side2 => exact (Kd.R_reads' HO551.out).2.1); rintro e w73 ⟨rfl, hb⟩; refine ⟨_, rfl, ?_⟩; replace HO551 := am (Kd.R_below (d6 HO551) hb); replace BK532 := bK BK532 hb; replace HB := bH hb; clear hb) | ((with_reducible refine gate_builtin (b := .append) (xs := #[.tmp 97, .tmp 98]) rfl ?_); at_builtin; refine Kd.R_append_rows Kd.string (w0 := w) w.heap.size rfl (.tmp 97) (.tmp 98) 22 9 (.string ⟨#[]⟩) 16 rfl Tryd.underlying22 info9 rfl (by decide) (by omega) (.slice none 0 0) ([] : List ByteArray) l2 _ _ _ (fun k_ => some k_ ≠ (.slice Ao72 y549.length co72 : Value).ownBlock) (fun _ => False) rfl rfl ?aO ?aR (fun _ _ h => h) (fun _ h => h.elim) ?aF ?aB ?aS ?aL ?_; (case aR => exact cB HR2); (case aB => exact bB); (case aF => exact (fun k_ hk => Kd.fresh' (Kd.R_lt (d6 HO551)) k_ hk)); (case aO => exact ((Kd.R_nil _ _ _ _ (fun k_ => some k_ ≠ (.slice Ao72 y549.length co72 : Value).ownBlock)))); (case aS => exact (below_size bB)); (case aL => have := LMc60.out; omega); intro v554 w74 ho hb hg hat; rw [← Ny553.out] at ho; replace BK532 := am (blk_grown (bD BK532) hg (by simp [Value.ownBlock])); replace HO551 := am (Kd.R_after (Kd.R_apart_nil (d6 HO551)) hg hat); replace HB := am (hb); have HO555 := am (ho); clear ho hb hg hat) | ((with_reducible refine gate_builtin (b := .append) (xs := #[.tmp 100, .tmp 102]) rfl ?_); at_builtin; refine Kd.R_append Kd.string (w0 := w) w.heap.size rfl (.tmp 100) (.tmp 102) 22 9 (.string ⟨#[]⟩) 16 rfl Tryd.underlying22 info9 rfl (by decide) (by omega) v554 y553 t552 [.string t552] (fun k_ => some k_ ≠ (.slice Ao72 y549.length co72 : Value).ownBlock) (fun _ => False) rfl rfl ?aP (fun _ hk => hk.elim) ?aF ?aO ?aB ?aS ?aL ?_; (case aP => exact rfl); (case aB => exact bB); (case aF => exact (fun k_ hk => Kd.fresh' (Kd.R_lt (d6 HO551)) k_ hk)); (case aO => exact (d6 HO555)); (case aS => exact (below_size bB)); (case aL => have := LMc61.out; omega); intro v557 w75 ho hb hg hat; rw [← Ny556.out] at ho; replace BK532 := am (blk_grown (bD BK532) hg (Kd.R_ne HO555.out BK532.out (by decide))); replace HO551 := am (Kd.R_after (ok := (fun _ => True)) (d6 HO551) hg hat); replace HB := am (hb); have HO558 := am (ho); clear HO555; clear ho hb hg hat))
                        replace HO551 := am (Kd.R_drew HO551.out); replace HO558 := am (Kd.R_drew HO558.out); replace BK532 := am (blk_drew BK532.out); replace HB := am (below_drew1 HB.out); have p559 : 0 ≤ (0 : Int) := (by omega); have q559 : 0 < (l0_4.length : Int) := of_decide_eq_true eA; obtain ⟨ad559, A559_3, c559_3, A559_4, c559_4, e559, hx559_0, hx559_1, hx559_2, hx559_3, hx559_4, hl559_3, hi559_3, hl559_4, hi559_4⟩ := at_T30 HR0_4.out 0 p559 q559; have hw559_4 := hx559_4; (try rw [show ((0 : Int)).toNat = 0 from rfl] at hw559_4); (try rw [show 0 * 5 = 0 from rfl] at hw559_4); (try rw [Addr.add_zero'] at hw559_4); have hw559_3 := hx559_3; (try rw [show ((0 : Int)).toNat = 0 from rfl] at hw559_3); (try rw [show 0 * 5 = 0 from rfl] at hw559_3); (try rw [Addr.add_zero'] at hw559_3); have hw559_2 := hx559_2; (try rw [show ((0 : Int)).toNat = 0 from rfl] at hw559_2); (try rw [show 0 * 5 = 0 from rfl] at hw559_2); (try rw [Addr.add_zero'] at hw559_2)
                        have hw559_1 := hx559_1; (try rw [show ((0 : Int)).toNat = 0 from rfl] at hw559_1); (try rw [show 0 * 5 = 0 from rfl] at hw559_1); (try rw [Addr.add_zero'] at hw559_1); have hw559_0 := hx559_0; (try rw [show ((0 : Int)).toNat = 0 from rfl] at hw559_0); (try rw [show 0 * 5 = 0 from rfl] at hw559_0); (try rw [Addr.add_zero'] at hw559_0)
                        cases e559
                        have qi559 : (0 < l0_4.length) = True := eq_true (by omega); (try rw [show ((0 : Int)).toNat = 0 from rfl] at hx559_0); (try rw [show 0 * 5 = 0 from rfl] at hx559_0); (try rw [Addr.add_zero'] at hx559_0); (try rw [show ((0 : Int)).toNat = 0 from rfl] at hx559_1); (try rw [show 0 * 5 = 0 from rfl] at hx559_1); (try rw [Addr.add_zero'] at hx559_1); (try rw [show ((0 : Int)).toNat = 0 from rfl] at hx559_2); (try rw [show 0 * 5 = 0 from rfl] at hx559_2); (try rw [Addr.add_zero'] at hx559_2); (try rw [show ((0 : Int)).toNat = 0 from rfl] at hx559_3); (try rw [show 0 * 5 = 0 from rfl] at hx559_3); (try rw [Addr.add_zero'] at hx559_3); (try rw [show ((0 : Int)).toNat = 0 from rfl] at hx559_4); (try rw [show 0 * 5 = 0 from rfl] at hx559_4); (try rw [Addr.add_zero'] at hx559_4); replace hx559_0 := cX HB hx559_0; replace hx559_1 := cX HB hx559_1; replace hx559_2 := cX HB hx559_2; replace hx559_3 := cX HB hx559_3; replace hx559_4 := cX HB hx559_4
                        have HR559_3 := am hi559_3; have HC559_3 := am hl559_3; clear hi559_3 hl559_3; have HR559_4 := am hi559_4; have HC559_4 := am hl559_4; clear hi559_4 hl559_4; replace p559 := eq_true p559; replace q559 := eq_true q559; obtain ⟨Ao77, co77, eo77⟩ := Kd.R_slice HO558.out; (first | subst eo77 | (injection eo77 with f1_ f2_ f3_; have f4_ := f1_.symm; have f5_ := f3_.symm; clear f1_ f2_ f3_; subst f4_; subst f5_)); refine sS 17 (k5 BK532 (eW5 HB hw559_0 hw559_1 hw559_2 hw559_3 hw559_4)) fun hHeld => ?_
                        refine with_tabW sequiturref14_claim.tab28 sequiturref14_claim.bits28 (fun HT_ HW_ => ?_); generalize w75.drew = w76 at HO551 HO558 BK532 HB HR559_3 HR559_4 hx559_0 hx559_1 hx559_2 hx559_3 hx559_4 hHeld ⊢
                        refine pS 0 104 ?_; refine pS 1 105 ?_; refine pS 2 106 ?_; refine pS 3 107 ?_; refine pS 4 108 ?_; refine pS 8 112 ?_; refine pS 12 116 ?_; refine pS 13 117 ?_; refine tS 5 109 ?_; refine pS 6 110 ?_; refine pS 7 111 ?_; refine tS 9 113 ?_; refine pS 10 114 ?_; refine tS 11 115 ?_; refine oS 14 118 fun K hK => ?_
                        refine goS Tryd.func54 #[.agg #[.int .i64 ((rd_T30 l0_4 0).f0), .string ((rd_T30 l0_4 0).f1), .string ((rd_T30 l0_4 0).f2), .slice A559_3 ((rd_T30 l0_4 0).f3).length c559_3, .slice A559_4 ((rd_T30 l0_4 0).f4).length c559_4], .slice A1 l1.length c1, .slice Ao77 y556.length co77, .int .i64 1, .bool true] ?_; (with_reducible refine (ih kj53 (by have := HJ47.out; have := HJ53.out; omega) ((rd_T30 l0_4 0).f0) ((rd_T30 l0_4 0).f1) ((rd_T30 l0_4 0).f2) _ _ ((rd_T30 l0_4 0).f3) _ _ ((rd_T30 l0_4 0).f4) _ _ l1 _ _ y556 1 true t560 _ ?side1 HC559_3.out ?side3 HC559_4.out ?side5 HC1.out ?side7 ?side8 A67.out).mono ?_); (case side1 => exact cB HR559_3); (case side3 => exact cB HR559_4); (case side5 => exact cB HR1); (case side7 => repeat (first | exact (Kd.R_reads' HO558.out).2.2 | (with_reducible refine Kd.C_alloc ?_ _) | (with_reducible refine Kd.C_drewN ?_ _) | (with_reducible refine Kd.C_drew ?_)))
                        (case side8 => exact (Kd.R_reads' HO558.out).2.1); rintro e w78 ⟨rfl, hb⟩; refine ⟨_, rfl, ?_⟩; replace HO551 := am (Kd.R_below (d6 HO551) hb); replace HO558 := am (Kd.R_below (d6 HO558) hb); replace BK532 := bK BK532 hb; replace HB := bH hb; clear hb; refine hK.out _ _ (k5 BK532 (eW5 HB hw559_0 hw559_1 hw559_2 hw559_3 hw559_4)) fun hHeld => ?_
                        clear hK K; refine nS 118 ?_; refine pS 15 119 ?_; refine pS 16 10 ?_; refine done_ (done_of HT_.out (by kernel_rfl)) ?_
                        try go_wp2
                        go_ret; exact ⟨eW, bB⟩
                       ·rw [if_neg c68] at H
                        exact absurd H (by simp)
                      ·rw [if_neg c66] at H
                       exact absurd H (by simp)
                     ·rw [if_neg c65] at H
                      exact absurd H (by simp)
                    ·rw [if_neg c64] at H
                     exact absurd H (by simp)
                   ·rw [if_neg c63] at H
                    exact absurd H (by simp)
                  ·rw [if_neg c62] at H
                   exact absurd H (by simp)
                 ·rw [if_neg c61] at H
                  exact absurd H (by simp)
                ·rw [if_neg c60] at H
                 exact absurd H (by simp)
               ·rw [if_neg c58] at H
                exact absurd H (by simp)
              ·rw [if_neg c57] at H
               exact absurd H (by simp)
           ·replace c53 := Bool.eq_false_iff.mpr c53
            subst c53; rw [if_neg (show ¬ (false = true) by decide)] at H; obtain ⟨t544, A79, H⟩ := bO H; obtain ⟨t545, A80, H⟩ := bO H; obtain rfl := Option.some.inj H; obtain ⟨z81_0, z81_1, z81_2, z81_3, z81_4, y81_0, y81_1, y81_2, y81_3, y81_4⟩ := y5 BK532
            go_wp2_with (first | ((with_reducible refine gate_callee (f := 54) rfl ?_); refine gL 82 Tryd.func54 #[.agg #[.int .i64 a0_0, .string a0_1, .string a0_2, .slice A0_3 l0_3.length c0_3, .slice A0_4 l0_4.length c0_4], .slice A1 l1.length c1, .slice A2 l2.length c2, .int .i64 1, .bool true] ?_; (with_reducible refine (ih kj47 (by have := HJ47.out; omega) a0_0 a0_1 a0_2 _ _ l0_3 _ _ l0_4 _ _ l1 _ _ l2 1 true t544 _ ?side1 HC0_3.out ?side3 HC0_4.out ?side5 HC1.out ?side7 HC2.out A79.out).mono ?_); (case side1 => exact cB HR0_3); (case side3 => exact cB HR0_4); (case side5 => exact cB HR1); (case side7 => exact cB HR2); rintro e w82 ⟨rfl, hb⟩; refine ⟨_, rfl, ?_⟩; replace BK532 := bK BK532 hb; replace HB := bH hb; clear hb) | ((with_reducible refine gate_callee (f := 69) rfl ?_); refine gL 83 Tryd.func69 #[.string t544] ?_; (with_reducible refine (sequiturref14_brackets.calls t544 t545 _ A80.out).mono ?_); rintro e w' ⟨rfl, ⟨nd, rfl⟩⟩; refine ⟨_, rfl, ?_⟩))
            go_ret; exact ⟨eW, bB⟩
          ·replace c52 := Bool.eq_false_iff.mpr c52
           subst c52; rw [if_neg (show ¬ (false = true) by decide)] at H; obtain ⟨t561, A83, H⟩ := bO H
           by_cases c84 : t561 < a3
           ·rw [if_pos c84] at H
            have c84b0 : decide (t561 < a3) = true := decide_eq_true c84; clear c84; obtain ⟨t562, A85, H⟩ := bO H; obtain ⟨t563, A86, H⟩ := bO H; obtain rfl := Option.some.inj H; obtain ⟨z87_0, z87_1, z87_2, z87_3, z87_4, y87_0, y87_1, y87_2, y87_3, y87_4⟩ := y5 BK532
            go_wp2_with (first | ((with_reducible refine gate_callee (f := 71) rfl ?_); refine gL 122 Tryd.func71 #[.int .i64 a0_0] ?_; (with_reducible refine (sequiturref14_loose.calls a0_0 t561 _ A83.out).mono ?_); rintro e w' ⟨rfl, ⟨nd, rfl⟩⟩; refine ⟨_, rfl, ?_⟩) | ((with_reducible refine gate_callee (f := 54) rfl ?_); refine gL 129 Tryd.func54 #[.agg #[.int .i64 a0_0, .string a0_1, .string a0_2, .slice A0_3 l0_3.length c0_3, .slice A0_4 l0_4.length c0_4], .slice A1 l1.length c1, .slice A2 l2.length c2, .int .i64 1, .bool true] ?_; (with_reducible refine (ih kj47 (by have := HJ47.out; omega) a0_0 a0_1 a0_2 _ _ l0_3 _ _ l0_4 _ _ l1 _ _ l2 1 true t562 _ ?side1 HC0_3.out ?side3 HC0_4.out ?side5 HC1.out ?side7 HC2.out A85.out).mono ?_); (case side1 => repeat (first | exact (Kd.C_below HR0_3.out bB) | (with_reducible refine Kd.C_alloc ?_ _) | (with_reducible refine Kd.C_drewN ?_ _) | (with_reducible refine Kd.C_drew ?_))); (case side3 => repeat (first | exact (Kd.C_below HR0_4.out bB) | (with_reducible refine Kd.C_alloc ?_ _) | (with_reducible refine Kd.C_drewN ?_ _) | (with_reducible refine Kd.C_drew ?_))); (case side5 => repeat (first | exact (Kd.C_below HR1.out bB) | (with_reducible refine Kd.C_alloc ?_ _) | (with_reducible refine Kd.C_drewN ?_ _) | (with_reducible refine Kd.C_drew ?_))); (case side7 => repeat (first | exact (Kd.C_below HR2.out bB) | (with_reducible refine Kd.C_alloc ?_ _) | (with_reducible refine Kd.C_drewN ?_ _) | (with_reducible refine Kd.C_drew ?_))); rintro e w88 ⟨rfl, hb⟩; refine ⟨_, rfl, ?_⟩; replace BK532 := bK BK532 hb; replace HB := bH hb; clear hb) | ((with_reducible refine gate_callee (f := 69) rfl ?_); refine gL 130 Tryd.func69 #[.string t562] ?_; (with_reducible refine (sequiturref14_brackets.calls t562 t563 _ A86.out).mono ?_); rintro e w' ⟨rfl, ⟨nd, rfl⟩⟩; refine ⟨_, rfl, ?_⟩))
            go_ret; exact ⟨eW, bB⟩
           ·rw [if_neg c84] at H
            have c84b0 : decide (t561 < a3) = false := decide_eq_false c84; clear c84
            by_cases c89 : 0 < (l0_4.length : Int)
            ·rw [if_pos c89] at H
             have c89b0 : decide (0 < (l0_4.length : Int)) = true := decide_eq_true c89; have c89b1 : decide (0 < l0_4.length) = true := decide_eq_true (by omega); clear c89; obtain ⟨t565, A90, H⟩ := bO H; obtain ⟨t566, A91, H⟩ := bO H
             by_cases c92 : t565.size + t566.size ≤ 9223372036854775807
             ·rw [if_pos c92] at H
              have c92b0 := eq_true c92; have c92b1 := decide_eq_true c92
              try have c92b2 := eq_false (Nat.not_lt.2 c92)
              by_cases c93 : 1 < (l0_4.length : Int)
              ·rw [if_pos c93] at H
               have c93b0 : decide (1 < (l0_4.length : Int)) = true := decide_eq_true c93; have c93b1 : decide (1 < l0_4.length) = true := decide_eq_true (by omega); clear c93; obtain ⟨t568, A94, H⟩ := bO H
               by_cases c95 : (t565 ++ t566).size + t568.size ≤ 9223372036854775807
               ·rw [if_pos c95] at H
                have c95b0 := eq_true c95; have c95b1 := decide_eq_true c95; have c95n : t565.size + t566.size + t568.size ≤ 9223372036854775807 := by have h_ := c95; simp only [ByteArray.size_append] at h_; first | exact h_ | omega
                have c95b3 := eq_true c95n; have c95b4 : (9223372036854775807 < t565.size + t566.size + t568.size) = False := eq_false (Nat.not_lt.2 c95n)
                try have c95b2 := eq_false (Nat.not_lt.2 c95)
                obtain rfl := Option.some.inj H; obtain ⟨z96_0, z96_1, z96_2, z96_3, z96_4, y96_0, y96_1, y96_2, y96_3, y96_4⟩ := y5 BK532
                try go_wp2_with (first | ((with_reducible refine gate_callee (f := 71) rfl ?_); refine gL 122 Tryd.func71 #[.int .i64 a0_0] ?_; (with_reducible refine (sequiturref14_loose.calls a0_0 t561 _ A83.out).mono ?_); rintro e w' ⟨rfl, ⟨nd, rfl⟩⟩; refine ⟨_, rfl, ?_⟩))
                (try (rw [drewN_self wc]; generalize hq_ : World.drewN wc _ = wc; have n0_ : Aside0 (wc.heap[gb532]? = some (.cells #[.int .i64 a0_0, .string a0_1, .string a0_2, .slice A0_3 l0_3.length c0_3, .slice A0_4 l0_4.length c0_4] 30 (0, 0))) := ⟨by rw [← hq_]; exact (bD BK532)⟩; have n1_ : Aside0 (Below w.heap.size w wc) := ⟨by rw [← hq_]; exact bB⟩; clear BK532 HB hq_; have BK532 := n0_; have HB := n1_; clear n0_ n1_))
                replace BK532 := am (blk_drew BK532.out); replace HB := am (below_drew1 HB.out); have p564 : 0 ≤ (0 : Int) := (by omega); have q564 : 0 < (l0_4.length : Int) := of_decide_eq_true eA; obtain ⟨ad564, A564_3, c564_3, A564_4, c564_4, e564, hx564_0, hx564_1, hx564_2, hx564_3, hx564_4, hl564_3, hi564_3, hl564_4, hi564_4⟩ := at_T30 HR0_4.out 0 p564 q564; have hw564_4 := hx564_4; (try rw [show ((0 : Int)).toNat = 0 from rfl] at hw564_4); (try rw [show 0 * 5 = 0 from rfl] at hw564_4); (try rw [Addr.add_zero'] at hw564_4); have hw564_3 := hx564_3; (try rw [show ((0 : Int)).toNat = 0 from rfl] at hw564_3); (try rw [show 0 * 5 = 0 from rfl] at hw564_3); (try rw [Addr.add_zero'] at hw564_3); have hw564_2 := hx564_2; (try rw [show ((0 : Int)).toNat = 0 from rfl] at hw564_2); (try rw [show 0 * 5 = 0 from rfl] at hw564_2); (try rw [Addr.add_zero'] at hw564_2); have hw564_1 := hx564_1; (try rw [show ((0 : Int)).toNat = 0 from rfl] at hw564_1)
                (try rw [show 0 * 5 = 0 from rfl] at hw564_1); (try rw [Addr.add_zero'] at hw564_1); have hw564_0 := hx564_0; (try rw [show ((0 : Int)).toNat = 0 from rfl] at hw564_0); (try rw [show 0 * 5 = 0 from rfl] at hw564_0); (try rw [Addr.add_zero'] at hw564_0)
                cases e564
                have qi564 : (0 < l0_4.length) = True := eq_true (by omega); (try rw [show ((0 : Int)).toNat = 0 from rfl] at hx564_0); (try rw [show 0 * 5 = 0 from rfl] at hx564_0); (try rw [Addr.add_zero'] at hx564_0); (try rw [show ((0 : Int)).toNat = 0 from rfl] at hx564_1); (try rw [show 0 * 5 = 0 from rfl] at hx564_1); (try rw [Addr.add_zero'] at hx564_1); (try rw [show ((0 : Int)).toNat = 0 from rfl] at hx564_2); (try rw [show 0 * 5 = 0 from rfl] at hx564_2); (try rw [Addr.add_zero'] at hx564_2); (try rw [show ((0 : Int)).toNat = 0 from rfl] at hx564_3); (try rw [show 0 * 5 = 0 from rfl] at hx564_3); (try rw [Addr.add_zero'] at hx564_3); (try rw [show ((0 : Int)).toNat = 0 from rfl] at hx564_4); (try rw [show 0 * 5 = 0 from rfl] at hx564_4); (try rw [Addr.add_zero'] at hx564_4); replace hx564_0 := cX HB hx564_0; replace hx564_1 := cX HB hx564_1; replace hx564_2 := cX HB hx564_2; replace hx564_3 := cX HB hx564_3; replace hx564_4 := cX HB hx564_4
                have HR564_3 := am hi564_3; have HC564_3 := am hl564_3; clear hi564_3 hl564_3; have HR564_4 := am hi564_4; have HC564_4 := am hl564_4; clear hi564_4 hl564_4; replace p564 := eq_true p564; replace q564 := eq_true q564; have p567 : 0 ≤ (1 : Int) := (by omega); have q567 : 1 < (l0_4.length : Int) := of_decide_eq_true eA; obtain ⟨ad567, A567_3, c567_3, A567_4, c567_4, e567, hx567_0, hx567_1, hx567_2, hx567_3, hx567_4, hl567_3, hi567_3, hl567_4, hi567_4⟩ := at_T30 HR0_4.out 1 p567 q567; have hw567_4 := hx567_4; (try rw [show ((1 : Int)).toNat = 1 from rfl] at hw567_4); (try rw [show 1 * 5 = 5 from rfl] at hw567_4); (try simp only [Nat.reduceMul, Nat.reduceEqDiff, Go.Addr.add, ↓reduceIte] at hw567_4); have hw567_3 := hx567_3; (try rw [show ((1 : Int)).toNat = 1 from rfl] at hw567_3); (try rw [show 1 * 5 = 5 from rfl] at hw567_3); (try simp only [Nat.reduceMul, Nat.reduceEqDiff, Go.Addr.add, ↓reduceIte] at hw567_3)
                have hw567_2 := hx567_2; (try rw [show ((1 : Int)).toNat = 1 from rfl] at hw567_2); (try rw [show 1 * 5 = 5 from rfl] at hw567_2); (try simp only [Nat.reduceMul, Nat.reduceEqDiff, Go.Addr.add, ↓reduceIte] at hw567_2); have hw567_1 := hx567_1; (try rw [show ((1 : Int)).toNat = 1 from rfl] at hw567_1); (try rw [show 1 * 5 = 5 from rfl] at hw567_1); (try simp only [Nat.reduceMul, Nat.reduceEqDiff, Go.Addr.add, ↓reduceIte] at hw567_1); have hw567_0 := hx567_0; (try rw [show ((1 : Int)).toNat = 1 from rfl] at hw567_0); (try rw [show 1 * 5 = 5 from rfl] at hw567_0); (try simp only [Nat.reduceMul, Nat.reduceEqDiff, Go.Addr.add, ↓reduceIte] at hw567_0); obtain rfl : ad564 = ad567 := (by injection e567); (try simp only [show (1 : Int).toNat = 1 from rfl, Nat.reduceMul, Nat.reduceEqDiff, Go.Addr.add, ↓reduceIte] at hx567_0); (try simp only [show (1 : Int).toNat = 1 from rfl, Nat.reduceMul, Nat.reduceEqDiff, Go.Addr.add, ↓reduceIte] at hx567_1)
                (try simp only [show (1 : Int).toNat = 1 from rfl, Nat.reduceMul, Nat.reduceEqDiff, Go.Addr.add, ↓reduceIte] at hx567_2); (try simp only [show (1 : Int).toNat = 1 from rfl, Nat.reduceMul, Nat.reduceEqDiff, Go.Addr.add, ↓reduceIte] at hx567_3); (try simp only [show (1 : Int).toNat = 1 from rfl, Nat.reduceMul, Nat.reduceEqDiff, Go.Addr.add, ↓reduceIte] at hx567_4); have qi567 : (1 < l0_4.length) = True := eq_true (by omega); (try rw [show ((1 : Int)).toNat = 1 from rfl] at hx567_0); (try rw [show 1 * 5 = 5 from rfl] at hx567_0); (try rw [show ((1 : Int)).toNat = 1 from rfl] at hx567_1); (try rw [show 1 * 5 = 5 from rfl] at hx567_1); (try rw [show ((1 : Int)).toNat = 1 from rfl] at hx567_2); (try rw [show 1 * 5 = 5 from rfl] at hx567_2); (try rw [show ((1 : Int)).toNat = 1 from rfl] at hx567_3); (try rw [show 1 * 5 = 5 from rfl] at hx567_3); (try rw [show ((1 : Int)).toNat = 1 from rfl] at hx567_4); (try rw [show 1 * 5 = 5 from rfl] at hx567_4)
                replace hx567_0 := cX HB hx567_0; replace hx567_1 := cX HB hx567_1; replace hx567_2 := cX HB hx567_2; replace hx567_3 := cX HB hx567_3; replace hx567_4 := cX HB hx567_4; have HR567_3 := am hi567_3; have HC567_3 := am hl567_3; clear hi567_3 hl567_3; have HR567_4 := am hi567_4; have HC567_4 := am hl567_4; clear hi567_4 hl567_4; replace p567 := eq_true p567; replace q567 := eq_true q567; refine sS 24 (k5 BK532 (kW8 HB hw564_0 hw564_1 hw564_2 hw564_3 hw564_4 hw567_0 hw567_1 hw567_2 (eW2 HB hw567_3 hw567_4))) fun hHeld => ?_
                refine with_tabW sequiturref14_claim.tab32 sequiturref14_claim.bits32 (fun HT_ HW_ => ?_); generalize wc.drew = w97 at BK532 HB HR564_3 HR564_4 HR567_3 HR567_4 hx564_0 hx564_1 hx564_2 hx564_3 hx564_4 hx567_0 hx567_1 hx567_2 hx567_3 hx567_4 hHeld ⊢
                refine pS 0 131 ?_; refine pS 4 135 ?_; refine pS 5 136 ?_; refine pS 6 137 ?_; refine pS 7 138 ?_; refine pS 9 140 ?_; refine pS 13 144 ?_; refine pS 17 148 ?_; refine pS 18 149 ?_; refine pS 19 150 ?_; refine pS 20 151 ?_; refine tS 1 132 ?_; refine pS 2 133 ?_; refine tS 3 134 ?_; refine tS 10 141 ?_; refine tS 14 145 ?_; refine pS 15 146 ?_; refine tS 16 147 ?_; refine oS 8 139 fun K hK => ?_
                refine goS Tryd.func54 #[.agg #[.int .i64 ((rd_T30 l0_4 0).f0), .string ((rd_T30 l0_4 0).f1), .string ((rd_T30 l0_4 0).f2), .slice A564_3 ((rd_T30 l0_4 0).f3).length c564_3, .slice A564_4 ((rd_T30 l0_4 0).f4).length c564_4], .slice A1 l1.length c1, .slice A2 l2.length c2, .int .i64 (wrap64 (t561 + 1)), .bool false] ?_; (with_reducible refine (ih kj47 (by have := HJ47.out; omega) ((rd_T30 l0_4 0).f0) ((rd_T30 l0_4 0).f1) ((rd_T30 l0_4 0).f2) _ _ ((rd_T30 l0_4 0).f3) _ _ ((rd_T30 l0_4 0).f4) _ _ l1 _ _ l2 (wrap64 (t561 + 1)) false t565 _ ?side1 HC564_3.out ?side3 HC564_4.out ?side5 HC1.out ?side7 HC2.out A90.out).mono ?_); (case side1 => exact cB HR564_3); (case side3 => exact cB HR564_4); (case side5 => exact cB HR1); (case side7 => exact cB HR2); rintro e w98 ⟨rfl, hb⟩; refine ⟨_, rfl, ?_⟩; replace BK532 := bK BK532 hb
                replace HB := bH hb; clear hb; refine hK.out _ _ (k5 BK532 (kW8 HB hw564_0 hw564_1 hw564_2 hw564_3 hw564_4 hw567_0 hw567_1 hw567_2 (eW2 HB hw567_3 hw567_4))) fun hHeld => ?_
                clear hK K; refine nS 139 ?_; refine oS 11 142 fun K hK => ?_
                refine goS Tryd.func72 #[.int .i64 a0_0] ?_; (with_reducible refine (sequiturref14_sign.calls a0_0 t566 _ A91.out).mono ?_); rintro e w99 ⟨rfl, hb⟩; refine ⟨_, rfl, ?_⟩; replace BK532 := bK BK532 hb; replace HB := bH hb; clear hb; refine hK.out _ _ (k5 BK532 (kW8 HB hw564_0 hw564_1 hw564_2 hw564_3 hw564_4 hw567_0 hw567_1 hw567_2 (eW2 HB hw567_3 hw567_4))) fun hHeld => ?_
                clear hK K; refine nS 142 ?_; refine pS 12 143 ?_; refine oS 21 152 fun K hK => ?_
                refine goS Tryd.func54 #[.agg #[.int .i64 ((rd_T30 l0_4 1).f0), .string ((rd_T30 l0_4 1).f1), .string ((rd_T30 l0_4 1).f2), .slice A567_3 ((rd_T30 l0_4 1).f3).length c567_3, .slice A567_4 ((rd_T30 l0_4 1).f4).length c567_4], .slice A1 l1.length c1, .slice A2 l2.length c2, .int .i64 t561, .bool a4] ?_; (with_reducible refine (ih kj47 (by have := HJ47.out; omega) ((rd_T30 l0_4 1).f0) ((rd_T30 l0_4 1).f1) ((rd_T30 l0_4 1).f2) _ _ ((rd_T30 l0_4 1).f3) _ _ ((rd_T30 l0_4 1).f4) _ _ l1 _ _ l2 t561 a4 t568 _ ?side1 HC567_3.out ?side3 HC567_4.out ?side5 HC1.out ?side7 HC2.out A94.out).mono ?_); (case side1 => exact cB HR567_3); (case side3 => exact cB HR567_4); (case side5 => exact cB HR1); (case side7 => exact cB HR2); rintro e w100 ⟨rfl, hb⟩; refine ⟨_, rfl, ?_⟩; replace BK532 := bK BK532 hb; replace HB := bH hb
                clear hb; refine hK.out _ _ (k5 BK532 (kW8 HB hw564_0 hw564_1 hw564_2 hw564_3 hw564_4 hw567_0 hw567_1 hw567_2 (eW2 HB hw567_3 hw567_4))) fun hHeld => ?_
                clear hK K; refine nS 152 ?_; refine pS 22 153 ?_; refine pS 23 10 ?_; refine done_ (done_of HT_.out (by kernel_rfl)) ?_
                try go_wp2
                go_ret; exact ⟨eW, bB⟩
               ·rw [if_neg c95] at H
                exact absurd H (by simp)
              ·rw [if_neg c93] at H
               exact absurd H (by simp)
             ·rw [if_neg c92] at H
              exact absurd H (by simp)
            ·rw [if_neg c89] at H
             exact absurd H (by simp)
end Go.Proofs.YtmlkllbaehegjaaDoor.PAll
end
