-- Words of the kit's print, walks printed by a program of this session (wip/prt) in shorter words, and texts of this session, merged (pack.py).
import Derived.Test.YtmlkllbaehegjaaDoorShowBrackets3
section
namespace Go.Proofs.YtmlkllbaehegjaaDoor.PAll
open Go.RowKit Go.Proofs.YtmlkllbaehegjaaDoorW.PrintWords Go.Proofs.YtmlkllbaehegjaaDoorW.PrintLast Go.Proofs.YtmlkllbaehegjaaDoorW.PrintMore
attribute [local go_sem] max2_int min2_int max_two min_two max_three min_three max_four min_four   -- for this text's walks alone
set_option linter.unusedVariables false
set_option linter.unusedSimpArgs false
/-! ### sequiturref08_size: function 62 -/
mutual
def sequiturref08_size.l0 : Nat → Int → Int → Int → Int → ByteArray → Int → List (S53) → Option (Int)
  | 0, _, _, _, _, _, _, _ => none
  | k + 1, x1, x5, x6, x342000, x342001, x342002, x342003 => if x6 < (x342003.length : Int) then (if x5 ≤ x1 then (if 0 ≤ x6 then ((sequiturref08_size.f k ((rd_T53 x342003 x6).f0) ((rd_T53 x342003 x6).f1) ((rd_T53 x342003 x6).f2) ((rd_T53 x342003 x6).f3) (wrap64 (x1 - x5))).bind fun t343 => (sequiturref08_size.l0 k x1 (wrap64 (x5 + t343)) (wrap64 (x6 + 1)) x342000 x342001 x342002 x342003)) else (none)) else (some x5)) else (some x5)
def sequiturref08_size.f : Nat → Int → ByteArray → Int → List (S53) → Int → Option (Int)
  | 0, _, _, _, _, _ => none
  | k + 1, a0_0, a0_1, a0_2, l0_3, a1 => sequiturref08_size.l0 k a1 1 0 a0_0 a0_1 a0_2 l0_3
end
set_option maxHeartbeats 8000000 in
set_option maxRecDepth 100000 in
theorem sequiturref08_size.calls (k : Nat) : ∀ (a0_0 : Int) (a0_1 : ByteArray) (a0_2 : Int) (A0_3 : Option Addr) (c0_3 : Nat) (l0_3 : List (S53)) (a1 : Int) (r : Int) (w : World) (hr0_3 : Kd.C k53 w A0_3 l0_3.length l0_3) (hc0_3 : l0_3.length ≤ c0_3) (h : sequiturref08_size.f k a0_0 a0_1 a0_2 l0_3 a1 = some r),
    Calls Tryd.prog 62 #[.agg #[.int .i64 a0_0, .string a0_1, .int .i64 a0_2, .slice A0_3 l0_3.length c0_3], .int .i64 a1] w fun e w' => e = .returned (.int .i64 r) ∧ Below w.heap.size w w' := by
  induction k using Nat.strongRecOn with
  | _ k ih =>
  intro a0_0 a0_1 a0_2 A0_3 c0_3 l0_3 a1 r w hr0_3 hc0_3 h
  cases k with
  | zero => exact absurd h (by simp [sequiturref08_size.f])
  | succ k =>
  simp only [sequiturref08_size.f] at h; have hu53 := Tryd.underlying53; have HR0_3 := am hr0_3; have HC0_3 := am hc0_3; clear hr0_3 hc0_3; have HB := am (Below.refl w.heap.size w); have H := h; clear h; have H' := am H; clear H
  go_enter Tryd.func62, Tryd.ntmps62
  go_wp2_with (first | ((with_reducible refine gate_dst (N := 2) rfl ?_); refine bE 2 #[.int .i64 a0_0, .string a0_1, .int .i64 a0_2, .slice A0_3 l0_3.length c0_3] 53 ?_; intro gb341 w3 BK341 hg hb; have GW341 := bZ hg; have GE341 := bZ hg; replace HB := bH hb; clear hb hg))
  go_loopg [5, 6] k (fun kq v5 v6 w' => ∃ (x5_1 : Int) (x6_1 : Int), v5 = .int .i64 x5_1 ∧ v6 = .int .i64 x6_1 ∧ Aside0 (sequiturref08_size.l0 kq a1 x5_1 x6_1 a0_0 a0_1 a0_2 l0_3 = some r) ∧ Aside0 (kq ≤ k) ∧ Aside0 (w'.heap[gb341]? = some (.cells #[.int .i64 a0_0, .string a0_1, .int .i64 a0_2, (.slice A0_3 l0_3.length c0_3)] 53 (0, 0))) ∧ Aside0 (Below w.heap.size w w'))
  case atStart => exact ⟨(1), (0), eS, eS, H', ⟨Nat.le_refl _⟩, ⟨bD BK341⟩, ⟨bB⟩⟩
  case round =>
   clear H'; (try clear p2); obtain ⟨x5_1, x6_1, rfl, rfl, HA, HK1, BK341, HB⟩ := hrel
   cases gk with
   | zero => exact absurd HA.out (by simp [sequiturref08_size.l0])
   | succ k1 =>
    have H := HA.out; clear HA; simp only [sequiturref08_size.l0] at H
    by_cases c4 : x6_1 < (l0_3.length : Int)
    ·rw [if_pos c4] at H
     have c4b0 : decide (x6_1 < (l0_3.length : Int)) = true := decide_eq_true c4; clear c4
     by_cases c5 : x5_1 ≤ a1
     ·rw [if_pos c5] at H
      have c5b0 : decide (x5_1 ≤ a1) = true := decide_eq_true c5; clear c5
      by_cases c6 : 0 ≤ x6_1
      ·rw [if_pos c6] at H
       have c6b0 : decide (0 ≤ x6_1) = true := decide_eq_true c6; clear c6; obtain ⟨t343, A7, H⟩ := bO H; have H' := am H; clear H; obtain ⟨z8_0, z8_1, z8_2, z8_3, y8_0, y8_1, y8_2, y8_3⟩ := y4 BK341; have p342 : 0 ≤ (x6_1 : Int) := of_decide_eq_true eA; have q342 : x6_1 < (l0_3.length : Int) := of_decide_eq_true eA; obtain ⟨ad342, A342_3, c342_3, e342, hx342_0, hx342_1, hx342_2, hx342_3, hl342_3, hi342_3⟩ := at_T53 HR0_3.out x6_1 p342 q342
       cases e342
       replace hx342_0 := cX HB hx342_0; replace hx342_1 := cX HB hx342_1; replace hx342_2 := cX HB hx342_2; replace hx342_3 := cX HB hx342_3; have HR342_3 := am hi342_3; have HC342_3 := am hl342_3; clear hi342_3 hl342_3; replace p342 := eq_true p342; replace q342 := eq_true q342
       go_wp2_with (first | ((with_reducible refine gate_callee (f := 62) rfl ?_); refine gL 28 Tryd.func62 #[.agg #[.int .i64 ((rd_T53 l0_3 x6_1).f0), .string ((rd_T53 l0_3 x6_1).f1), .int .i64 ((rd_T53 l0_3 x6_1).f2), .slice A342_3 ((rd_T53 l0_3 x6_1).f3).length c342_3], .int .i64 (wrap64 (a1 - x5_1))] ?_; (with_reducible refine (ih k1 (by have := HK1.out; omega) ((rd_T53 l0_3 x6_1).f0) ((rd_T53 l0_3 x6_1).f1) ((rd_T53 l0_3 x6_1).f2) _ _ ((rd_T53 l0_3 x6_1).f3) (wrap64 (a1 - x5_1)) t343 _ ?side1 HC342_3.out A7.out).mono ?_); (case side1 => exact cB HR342_3); rintro e w9 ⟨rfl, hb⟩; refine ⟨_, rfl, ?_⟩; replace BK341 := bK BK341 hb; replace HB := bH hb; clear hb))
       go_roundg k1
       case measure => have := HK1.out; omega
       case rel => exact ⟨(wrap64 (x5_1 + t343)), (wrap64 (x6_1 + 1)), eS, eS, H', ⟨by have := HK1.out; omega⟩, ⟨bD BK341⟩, ⟨bB⟩⟩
      ·rw [if_neg c6] at H
       exact absurd H (by simp)
     ·rw [if_neg c5] at H
      have c5b0 : decide (x5_1 ≤ a1) = false := decide_eq_false c5; clear c5; obtain rfl := Option.some.inj H; obtain ⟨z10_0, z10_1, z10_2, z10_3, y10_0, y10_1, y10_2, y10_3⟩ := y4 BK341; go_wp2; go_ret; exact ⟨eW, bB⟩
    ·rw [if_neg c4] at H
     have c4b0 : decide (x6_1 < (l0_3.length : Int)) = false := decide_eq_false c4; clear c4; obtain rfl := Option.some.inj H; obtain ⟨z11_0, z11_1, z11_2, z11_3, y11_0, y11_1, y11_2, y11_3⟩ := y4 BK341; go_wp2; go_ret; exact ⟨eW, bB⟩
end Go.Proofs.YtmlkllbaehegjaaDoor.PAll
end
section
namespace Go.Proofs.YtmlkllbaehegjaaDoor.PAll
open Go.RowKit Go.Proofs.YtmlkllbaehegjaaDoorW.PrintWords Go.Proofs.YtmlkllbaehegjaaDoorW.PrintLast Go.Proofs.YtmlkllbaehegjaaDoorW.PrintMore
attribute [local go_sem] max2_int min2_int max_two min_two max_three min_three max_four min_four   -- for this text's walks alone
set_option linter.unusedVariables false
set_option linter.unusedSimpArgs false
/-! ### sequiturref08_weigh: function 45 -/
mutual
def sequiturref08_weigh.j1 : Nat → Int → Int → Int → ByteArray → ByteArray → List (S53) → List (S30) → Option (Int)
  | 0, _, _, _, _, _, _, _ => none
  | k + 1, x1, x5, x345000, x345001, x345002, x345003, x345004 => sequiturref08_weigh.l1 k x1 x5 0 x345000 x345001 x345002 x345003 x345004
def sequiturref08_weigh.l1 : Nat → Int → Int → Int → Int → ByteArray → ByteArray → List (S53) → List (S30) → Option (Int)
  | 0, _, _, _, _, _, _, _, _ => none
  | k + 1, x1, x5, x7, x345000, x345001, x345002, x345003, x345004 => if x7 < (x345004.length : Int) then (if x5 ≤ x1 then (if 0 ≤ x7 then ((sequiturref08_weigh.f k ((rd_T30 x345004 x7).f0) ((rd_T30 x345004 x7).f1) ((rd_T30 x345004 x7).f2) ((rd_T30 x345004 x7).f3) ((rd_T30 x345004 x7).f4) (wrap64 (x1 - x5))).bind fun t348 => (sequiturref08_weigh.l1 k x1 (wrap64 (x5 + t348)) (wrap64 (x7 + 1)) x345000 x345001 x345002 x345003 x345004)) else (none)) else (some x5)) else (some x5)
def sequiturref08_weigh.l0 : Nat → Int → Int → Int → Int → ByteArray → ByteArray → List (S53) → List (S30) → Option (Int)
  | 0, _, _, _, _, _, _, _, _ => none
  | k + 1, x1, x5, x6, x345000, x345001, x345002, x345003, x345004 => if x6 < (x345003.length : Int) then (if x5 ≤ x1 then (if 0 ≤ x6 then ((sequiturref08_size.f k ((rd_T53 x345003 x6).f0) ((rd_T53 x345003 x6).f1) ((rd_T53 x345003 x6).f2) ((rd_T53 x345003 x6).f3) (wrap64 (x1 - x5))).bind fun t346 => (sequiturref08_weigh.l0 k x1 (wrap64 (x5 + t346)) (wrap64 (x6 + 1)) x345000 x345001 x345002 x345003 x345004)) else (none)) else (sequiturref08_weigh.j1 k x1 x5 x345000 x345001 x345002 x345003 x345004)) else (sequiturref08_weigh.j1 k x1 x5 x345000 x345001 x345002 x345003 x345004)
def sequiturref08_weigh.f : Nat → Int → ByteArray → ByteArray → List (S53) → List (S30) → Int → Option (Int)
  | 0, _, _, _, _, _, _ => none
  | k + 1, a0_0, a0_1, a0_2, l0_3, l0_4, a1 => sequiturref08_weigh.l0 k a1 1 0 a0_0 a0_1 a0_2 l0_3 l0_4
end
set_option maxHeartbeats 8000000 in
set_option maxRecDepth 100000 in
theorem sequiturref08_weigh.calls (k : Nat) : ∀ (a0_0 : Int) (a0_1 : ByteArray) (a0_2 : ByteArray) (A0_3 : Option Addr) (c0_3 : Nat) (l0_3 : List (S53)) (A0_4 : Option Addr) (c0_4 : Nat) (l0_4 : List (S30)) (a1 : Int) (r : Int) (w : World) (hr0_3 : Kd.C k53 w A0_3 l0_3.length l0_3) (hc0_3 : l0_3.length ≤ c0_3) (hr0_4 : Kd.C k30 w A0_4 l0_4.length l0_4) (hc0_4 : l0_4.length ≤ c0_4) (h : sequiturref08_weigh.f k a0_0 a0_1 a0_2 l0_3 l0_4 a1 = some r),
    Calls Tryd.prog 45 #[.agg #[.int .i64 a0_0, .string a0_1, .string a0_2, .slice A0_3 l0_3.length c0_3, .slice A0_4 l0_4.length c0_4], .int .i64 a1] w fun e w' => e = .returned (.int .i64 r) ∧ Below w.heap.size w w' := by
  induction k using Nat.strongRecOn with
  | _ k ih =>
  intro a0_0 a0_1 a0_2 A0_3 c0_3 l0_3 A0_4 c0_4 l0_4 a1 r w hr0_3 hc0_3 hr0_4 hc0_4 h
  cases k with
  | zero => exact absurd h (by simp [sequiturref08_weigh.f])
  | succ k =>
  simp only [sequiturref08_weigh.f] at h; have hu30 := Tryd.underlying30; have hu53 := Tryd.underlying53; have HR0_3 := am hr0_3; have HC0_3 := am hc0_3; clear hr0_3 hc0_3; have HR0_4 := am hr0_4; have HC0_4 := am hc0_4; clear hr0_4 hc0_4; have HB := am (Below.refl w.heap.size w); have H := h; clear h; have HC3 := am H; clear H
  go_enter Tryd.func45, Tryd.ntmps45
  go_upto_block 0 with (first | ((with_reducible refine gate_dst (N := 2) rfl ?_); refine bE 2 #[.int .i64 a0_0, .string a0_1, .string a0_2, .slice A0_3 l0_3.length c0_3, .slice A0_4 l0_4.length c0_4] 30 ?_; intro gb344 w4 BK344 hg hb; have GW344 := bZ hg; have GE344 := bZ hg; replace HB := bH hb; clear hb hg))
  (try simp only [Act.put, List.setIfInBounds_toArray, List.set_cons_zero, List.set_cons_succ])
  go_cut [5] (fun v5 wc => ∃ (kq : Nat) (x5_2 : Int), v5 = .int .i64 x5_2 ∧ Aside0 (sequiturref08_weigh.j1 kq a1 x5_2 a0_0 a0_1 a0_2 l0_3 l0_4 = some r) ∧ Aside0 (kq ≤ k) ∧ Aside0 (wc.heap[gb344]? = some (.cells #[.int .i64 a0_0, .string a0_1, .string a0_2, (.slice A0_3 l0_3.length c0_3), (.slice A0_4 l0_4.length c0_4)] 30 (0, 0))) ∧ Aside0 (Below w.heap.size w wc))
  case first =>
   have H := HC3.out; clear HC3; have H' := am H; clear H; go_wp2
   go_loopg [5, 6] k (fun kq v5 v6 w' => ∃ (x5_1 : Int) (x6_1 : Int), v5 = .int .i64 x5_1 ∧ v6 = .int .i64 x6_1 ∧ Aside0 (sequiturref08_weigh.l0 kq a1 x5_1 x6_1 a0_0 a0_1 a0_2 l0_3 l0_4 = some r) ∧ Aside0 (kq ≤ k) ∧ Aside0 (w'.heap[gb344]? = some (.cells #[.int .i64 a0_0, .string a0_1, .string a0_2, (.slice A0_3 l0_3.length c0_3), (.slice A0_4 l0_4.length c0_4)] 30 (0, 0))) ∧ Aside0 (Below w.heap.size w w'))
   case atStart => exact ⟨(1), (0), eS, eS, H', ⟨Nat.le_refl _⟩, ⟨bD BK344⟩, ⟨bB⟩⟩
   case round =>
    clear H'; (try clear p2); (try clear c4); obtain ⟨x5_1, x6_1, rfl, rfl, HA, HK1, BK344, HB⟩ := hrel
    cases gk with
    | zero => exact absurd HA.out (by simp [sequiturref08_weigh.l0])
    | succ k1 =>
     have H := HA.out; clear HA; simp only [sequiturref08_weigh.l0] at H
     by_cases c5 : x6_1 < (l0_3.length : Int)
     ·rw [if_pos c5] at H
      have c5b0 : decide (x6_1 < (l0_3.length : Int)) = true := decide_eq_true c5; clear c5; (first | rw [c5b0] | (simp only [i64_w, i32_w]; rw [c5b0]) | skip)
      by_cases c6 : x5_1 ≤ a1
      ·rw [if_pos c6] at H
       have c6b0 : decide (x5_1 ≤ a1) = true := decide_eq_true c6; clear c6
       by_cases c7 : 0 ≤ x6_1
       ·rw [if_pos c7] at H
        have c7b0 : decide (0 ≤ x6_1) = true := decide_eq_true c7; clear c7; obtain ⟨t346, A8, H⟩ := bO H; have H' := am H; clear H; obtain ⟨z9_0, z9_1, z9_2, z9_3, z9_4, y9_0, y9_1, y9_2, y9_3, y9_4⟩ := y5 BK344; have p345 : 0 ≤ (x6_1 : Int) := of_decide_eq_true eA; have q345 : x6_1 < (l0_3.length : Int) := of_decide_eq_true eA; obtain ⟨ad345, A345_3, c345_3, e345, hx345_0, hx345_1, hx345_2, hx345_3, hl345_3, hi345_3⟩ := at_T53 HR0_3.out x6_1 p345 q345
        cases e345
        replace hx345_0 := cX HB hx345_0; replace hx345_1 := cX HB hx345_1; replace hx345_2 := cX HB hx345_2; replace hx345_3 := cX HB hx345_3; have HR345_3 := am hi345_3; have HC345_3 := am hl345_3; clear hi345_3 hl345_3; replace p345 := eq_true p345; replace q345 := eq_true q345
        go_wp2_with (first | ((with_reducible refine gate_callee (f := 62) rfl ?_); refine gL 29 Tryd.func62 #[.agg #[.int .i64 ((rd_T53 l0_3 x6_1).f0), .string ((rd_T53 l0_3 x6_1).f1), .int .i64 ((rd_T53 l0_3 x6_1).f2), .slice A345_3 ((rd_T53 l0_3 x6_1).f3).length c345_3], .int .i64 (wrap64 (a1 - x5_1))] ?_; (with_reducible refine (sequiturref08_size.calls k1 ((rd_T53 l0_3 x6_1).f0) ((rd_T53 l0_3 x6_1).f1) ((rd_T53 l0_3 x6_1).f2) _ _ ((rd_T53 l0_3 x6_1).f3) (wrap64 (a1 - x5_1)) t346 _ ?side1 HC345_3.out A8.out).mono ?_); (case side1 => exact cB HR345_3); rintro e w10 ⟨rfl, hb⟩; refine ⟨_, rfl, ?_⟩; replace BK344 := bK BK344 hb; replace HB := bH hb; clear hb))
        go_roundg k1
        case measure => have := HK1.out; omega
        case rel => exact ⟨(wrap64 (x5_1 + t346)), (wrap64 (x6_1 + 1)), eS, eS, H', ⟨by have := HK1.out; omega⟩, ⟨bD BK344⟩, ⟨bB⟩⟩
       ·rw [if_neg c7] at H
        exact absurd H (by simp)
      ·rw [if_neg c6] at H
       have c6b0 : decide (x5_1 ≤ a1) = false := decide_eq_false c6; clear c6; have H' := am H; clear H; obtain ⟨z11_0, z11_1, z11_2, z11_3, z11_4, y11_0, y11_1, y11_2, y11_3, y11_4⟩ := y5 BK344; go_wp2; go_meet
       case rel => exact ⟨_, (x5_1), eS, H', ⟨by have := HK1.out; first | omega | exact Nat.le_refl _⟩, ⟨bD BK344⟩, ⟨bB⟩⟩
     ·rw [if_neg c5] at H
      have c5b0 : decide (x6_1 < (l0_3.length : Int)) = false := decide_eq_false c5; clear c5; (first | rw [c5b0] | (simp only [i64_w, i32_w]; rw [c5b0]) | skip); have H' := am H; clear H; obtain ⟨z12_0, z12_1, z12_2, z12_3, z12_4, y12_0, y12_1, y12_2, y12_3, y12_4⟩ := y5 BK344; go_wp2; go_meet
      case rel => exact ⟨_, (x5_1), eS, H', ⟨by have := HK1.out; first | omega | exact Nat.le_refl _⟩, ⟨bD BK344⟩, ⟨bB⟩⟩
  case rest =>
   clear HC3; (try clear p2); (try clear c3); (try clear p3); (try clear q3); (try clear hx3); (try clear c4); (try clear c5); (try clear c5b0); (try clear c6); (try clear c6b0); (try clear p6); (try clear c7); (try clear c7b0); (try clear z11_0 z11_1 z11_2 z11_3 z11_4); (try clear z12_0 z12_1 z12_2 z12_3 z12_4); (try clear z9_0 z9_1 z9_2 z9_3 z9_4); (try clear y11_0 y11_1 y11_2 y11_3 y11_4); (try clear y12_0 y12_1 y12_2 y12_3 y12_4); (try clear y9_0 y9_1 y9_2 y9_3 y9_4); (try clear hx345_0); (try clear hx345_1); (try clear hx345_2); (try clear hx345_3); (try clear p2); (try clear p345); (try clear q345); obtain ⟨kq, x5_2, rfl, HA, HJ2, BK344, HB⟩ := hcut
   cases kq with
   | zero => exact absurd HA.out (by simp [sequiturref08_weigh.j1])
   | succ kj2 =>
    have H := HA.out; clear HA; simp only [sequiturref08_weigh.j1] at H; have H' := am H; clear H; go_wp2
    go_loopg [5, 7] kj2 (fun kq v5 v7 w' => ∃ (x5_2 : Int) (x7_2 : Int), v5 = .int .i64 x5_2 ∧ v7 = .int .i64 x7_2 ∧ Aside0 (sequiturref08_weigh.l1 kq a1 x5_2 x7_2 a0_0 a0_1 a0_2 l0_3 l0_4 = some r) ∧ Aside0 (kq ≤ kj2) ∧ Aside0 (w'.heap[gb344]? = some (.cells #[.int .i64 a0_0, .string a0_1, .string a0_2, (.slice A0_3 l0_3.length c0_3), (.slice A0_4 l0_4.length c0_4)] 30 (0, 0))) ∧ Aside0 (Below w.heap.size w w'))
    case atStart => exact ⟨(x5_2), (0), eS, eS, H', ⟨Nat.le_refl _⟩, ⟨bD BK344⟩, ⟨bB⟩⟩
    case round =>
     clear H'; (try clear p2); (try clear c3); (try clear p3); (try clear q3); (try clear hx3); (try clear c4); (try clear c5); (try clear c5b0); (try clear c6); (try clear c6b0); (try clear p6); (try clear c7); (try clear c7b0); (try clear z11_0 z11_1 z11_2 z11_3 z11_4); (try clear z12_0 z12_1 z12_2 z12_3 z12_4); (try clear z9_0 z9_1 z9_2 z9_3 z9_4); (try clear y11_0 y11_1 y11_2 y11_3 y11_4); (try clear y12_0 y12_1 y12_2 y12_3 y12_4); (try clear y9_0 y9_1 y9_2 y9_3 y9_4); (try clear hx345_0); (try clear hx345_1); (try clear hx345_2); (try clear hx345_3); (try clear p2); (try clear p3); (try clear p345); (try clear p6); (try clear q3); (try clear q345); obtain ⟨x5_2, x7_2, rfl, rfl, HA, HK2, BK344, HB⟩ := hrel
     cases gk with
     | zero => exact absurd HA.out (by simp [sequiturref08_weigh.l1])
     | succ k2 =>
      have H := HA.out; clear HA; simp only [sequiturref08_weigh.l1] at H
      by_cases c13 : x7_2 < (l0_4.length : Int)
      ·rw [if_pos c13] at H
       have c13b0 : decide (x7_2 < (l0_4.length : Int)) = true := decide_eq_true c13; clear c13
       by_cases c14 : x5_2 ≤ a1
       ·rw [if_pos c14] at H
        have c14b0 : decide (x5_2 ≤ a1) = true := decide_eq_true c14; clear c14
        by_cases c15 : 0 ≤ x7_2
        ·rw [if_pos c15] at H
         have c15b0 : decide (0 ≤ x7_2) = true := decide_eq_true c15; clear c15; obtain ⟨t348, A16, H⟩ := bO H; have H' := am H; clear H; obtain ⟨z17_0, z17_1, z17_2, z17_3, z17_4, y17_0, y17_1, y17_2, y17_3, y17_4⟩ := y5 BK344; have p347 : 0 ≤ (x7_2 : Int) := of_decide_eq_true eA; have q347 : x7_2 < (l0_4.length : Int) := of_decide_eq_true eA; obtain ⟨ad347, A347_3, c347_3, A347_4, c347_4, e347, hx347_0, hx347_1, hx347_2, hx347_3, hx347_4, hl347_3, hi347_3, hl347_4, hi347_4⟩ := at_T30 HR0_4.out x7_2 p347 q347
         cases e347
         replace hx347_0 := cX HB hx347_0; replace hx347_1 := cX HB hx347_1; replace hx347_2 := cX HB hx347_2; replace hx347_3 := cX HB hx347_3; replace hx347_4 := cX HB hx347_4; have HR347_3 := am hi347_3; have HC347_3 := am hl347_3; clear hi347_3 hl347_3; have HR347_4 := am hi347_4; have HC347_4 := am hl347_4; clear hi347_4 hl347_4; replace p347 := eq_true p347; replace q347 := eq_true q347
         go_wp2_with (first | ((with_reducible refine gate_callee (f := 45) rfl ?_); refine gL 52 Tryd.func45 #[.agg #[.int .i64 ((rd_T30 l0_4 x7_2).f0), .string ((rd_T30 l0_4 x7_2).f1), .string ((rd_T30 l0_4 x7_2).f2), .slice A347_3 ((rd_T30 l0_4 x7_2).f3).length c347_3, .slice A347_4 ((rd_T30 l0_4 x7_2).f4).length c347_4], .int .i64 (wrap64 (a1 - x5_2))] ?_; (with_reducible refine (ih k2 (by have := HJ2.out; have := HK2.out; omega) ((rd_T30 l0_4 x7_2).f0) ((rd_T30 l0_4 x7_2).f1) ((rd_T30 l0_4 x7_2).f2) _ _ ((rd_T30 l0_4 x7_2).f3) _ _ ((rd_T30 l0_4 x7_2).f4) (wrap64 (a1 - x5_2)) t348 _ ?side1 HC347_3.out ?side3 HC347_4.out A16.out).mono ?_); (case side1 => exact cB HR347_3); (case side3 => exact cB HR347_4); rintro e w18 ⟨rfl, hb⟩; refine ⟨_, rfl, ?_⟩; replace BK344 := bK BK344 hb; replace HB := bH hb; clear hb))
         go_roundg k2
         case measure => have := HJ2.out; have := HK2.out; omega
         case rel => exact ⟨(wrap64 (x5_2 + t348)), (wrap64 (x7_2 + 1)), eS, eS, H', ⟨by have := HJ2.out; have := HK2.out; omega⟩, ⟨bD BK344⟩, ⟨bB⟩⟩
        ·rw [if_neg c15] at H
         exact absurd H (by simp)
       ·rw [if_neg c14] at H
        have c14b0 : decide (x5_2 ≤ a1) = false := decide_eq_false c14; clear c14; obtain rfl := Option.some.inj H; obtain ⟨z19_0, z19_1, z19_2, z19_3, z19_4, y19_0, y19_1, y19_2, y19_3, y19_4⟩ := y5 BK344; go_wp2; go_ret; exact ⟨eW, bB⟩
      ·rw [if_neg c13] at H
       have c13b0 : decide (x7_2 < (l0_4.length : Int)) = false := decide_eq_false c13; clear c13; obtain rfl := Option.some.inj H; obtain ⟨z20_0, z20_1, z20_2, z20_3, z20_4, y20_0, y20_1, y20_2, y20_3, y20_4⟩ := y5 BK344; go_wp2; go_ret; exact ⟨eW, bB⟩
end Go.Proofs.YtmlkllbaehegjaaDoor.PAll
end
section
namespace Go.Proofs.YtmlkllbaehegjaaDoor.PAll
open Go.RowKit Go.Proofs.YtmlkllbaehegjaaDoorW.PrintWords Go.Proofs.YtmlkllbaehegjaaDoorW.PrintLast Go.Proofs.YtmlkllbaehegjaaDoorW.PrintMore
attribute [local go_sem] max2_int min2_int max_two min_two max_three min_three max_four min_four
set_option linter.unusedVariables false
set_option linter.unusedSimpArgs false
/-! ### sequiturref08_Size: function 30 -/
def sequiturref08_Size.f (k : Nat) (a0_0 : Int) (a0_1 : ByteArray) (a0_2 : ByteArray) (l0_3 : List (S53)) (l0_4 : List (S30)) : Option (Int) := (sequiturref08_weigh.f k a0_0 a0_1 a0_2 l0_3 l0_4 4096).bind fun t350 => (if t350 > 4097 then (some 4097) else (some t350))
set_option maxHeartbeats 8000000 in
set_option maxRecDepth 100000 in
theorem sequiturref08_Size.calls (k : Nat) (a0_0 : Int) (a0_1 : ByteArray) (a0_2 : ByteArray) (A0_3 : Option Addr) (c0_3 : Nat) (l0_3 : List (S53)) (A0_4 : Option Addr) (c0_4 : Nat) (l0_4 : List (S30)) (r : Int) (w : World) (hr0_3 : Kd.C k53 w A0_3 l0_3.length l0_3) (hc0_3 : l0_3.length ≤ c0_3) (hr0_4 : Kd.C k30 w A0_4 l0_4.length l0_4) (hc0_4 : l0_4.length ≤ c0_4) (h : sequiturref08_Size.f k a0_0 a0_1 a0_2 l0_3 l0_4 = some r) :
    Calls Tryd.prog 30 #[.agg #[.int .i64 a0_0, .string a0_1, .string a0_2, .slice A0_3 l0_3.length c0_3, .slice A0_4 l0_4.length c0_4]] w fun e w' => e = .returned (.int .i64 r) ∧ Below w.heap.size w w' := by
  have hu30 := Tryd.underlying30; have HR0_3 := am hr0_3; have HC0_3 := am hc0_3; clear hr0_3 hc0_3; have HR0_4 := am hr0_4; have HC0_4 := am hc0_4; clear hr0_4 hc0_4; have HB := am (Below.refl w.heap.size w); have H := h; unfold sequiturref08_Size.f at H; clear h; obtain ⟨t350, A2, H⟩ := bO H
  by_cases c3 : t350 > 4097
  ·rw [if_pos c3] at H
   have c3b0 : decide (4097 < t350) = true := decide_eq_true c3; clear c3; obtain rfl := Option.some.inj H
   go_enter Tryd.func30, Tryd.ntmps30
   go_wp2_with (first | ((with_reducible refine gate_dst (N := 1) rfl ?_); refine bE 1 #[.int .i64 a0_0, .string a0_1, .string a0_2, .slice A0_3 l0_3.length c0_3, .slice A0_4 l0_4.length c0_4] 30 ?_; intro gb349 w4 BK349 hg hb; have GW349 := bZ hg; have GE349 := bZ hg; replace HB := bH hb; clear hb hg; obtain ⟨z5_0, z5_1, z5_2, z5_3, z5_4, y5_0, y5_1, y5_2, y5_3, y5_4⟩ := y5 BK349) | ((with_reducible refine gate_callee (f := 45) rfl ?_); refine gL 5 Tryd.func45 #[.agg #[.int .i64 a0_0, .string a0_1, .string a0_2, .slice A0_3 l0_3.length c0_3, .slice A0_4 l0_4.length c0_4], .int .i64 4096] ?_; (with_reducible refine (sequiturref08_weigh.calls k a0_0 a0_1 a0_2 _ _ l0_3 _ _ l0_4 4096 t350 _ ?side1 HC0_3.out ?side3 HC0_4.out A2.out).mono ?_); (case side1 => exact cB HR0_3); (case side3 => exact cB HR0_4); rintro e w6 ⟨rfl, hb⟩; refine ⟨_, rfl, ?_⟩; replace BK349 := bK BK349 hb; replace HB := bH hb; clear hb))
   go_ret; exact ⟨eW, bB⟩
  ·rw [if_neg c3] at H
   have c3b0 : decide (4097 < t350) = false := decide_eq_false c3; clear c3; obtain rfl := Option.some.inj H
   go_enter Tryd.func30, Tryd.ntmps30
   go_wp2_with (first | ((with_reducible refine gate_dst (N := 1) rfl ?_); refine bE 1 #[.int .i64 a0_0, .string a0_1, .string a0_2, .slice A0_3 l0_3.length c0_3, .slice A0_4 l0_4.length c0_4] 30 ?_; intro gb349 w7 BK349 hg hb; have GW349 := bZ hg; have GE349 := bZ hg; replace HB := bH hb; clear hb hg; obtain ⟨z8_0, z8_1, z8_2, z8_3, z8_4, y8_0, y8_1, y8_2, y8_3, y8_4⟩ := y5 BK349) | ((with_reducible refine gate_callee (f := 45) rfl ?_); refine gL 5 Tryd.func45 #[.agg #[.int .i64 a0_0, .string a0_1, .string a0_2, .slice A0_3 l0_3.length c0_3, .slice A0_4 l0_4.length c0_4], .int .i64 4096] ?_; (with_reducible refine (sequiturref08_weigh.calls k a0_0 a0_1 a0_2 _ _ l0_3 _ _ l0_4 4096 t350 _ ?side1 HC0_3.out ?side3 HC0_4.out A2.out).mono ?_); (case side1 => exact cB HR0_3); (case side3 => exact cB HR0_4); rintro e w9 ⟨rfl, hb⟩; refine ⟨_, rfl, ?_⟩; replace BK349 := bK BK349 hb; replace HB := bH hb; clear hb))
   go_ret; exact ⟨eW, bB⟩
end Go.Proofs.YtmlkllbaehegjaaDoor.PAll
end
section
namespace Go.Proofs.YtmlkllbaehegjaaDoor.PAll
open Go.RowKit Go.Proofs.YtmlkllbaehegjaaDoorW.PrintWords Go.Proofs.YtmlkllbaehegjaaDoorW.PrintLast Go.Proofs.YtmlkllbaehegjaaDoorW.PrintMore
attribute [local go_sem] max2_int min2_int max_two min_two max_three min_three max_four min_four   -- for this text's walks alone
set_option linter.unusedVariables false
set_option linter.unusedSimpArgs false
/-! ### sequiturref08_wants: function 46 -/
mutual
def sequiturref08_wants.j0 : Nat → Int → Bool → Option (Int × Int)
  | 0, _, _ => none
  | k + 1, x4, x5 => if x5 = true then (some (2, 0)) else (if x4 = 6 then (sequiturref08_wants.j1 k x4 (x4 == 6)) else (if x4 = 11 then (sequiturref08_wants.j1 k x4 (x4 == 11)) else (sequiturref08_wants.j1 k x4 (x4 == 12))))
def sequiturref08_wants.j1 : Nat → Int → Bool → Option (Int × Int)
  | 0, _, _ => none
  | k + 1, x4, x8 => if x8 = true then (some (0, 1)) else (if x4 = 7 then (sequiturref08_wants.j2 k (x4 == 7)) else (if x4 = 8 then (sequiturref08_wants.j2 k (x4 == 8)) else (if x4 = 9 then (sequiturref08_wants.j2 k (x4 == 9)) else (sequiturref08_wants.j2 k (x4 == 10)))))
def sequiturref08_wants.j2 : Nat → Bool → Option (Int × Int)
  | 0, _ => none
  | k + 1, x12 => if x12 = true then (some (0, 2)) else (some (0, 0))
end
def sequiturref08_wants.f (k : Nat) (a0 : Int) : Option (Int × Int) := if a0 = 4 then (sequiturref08_wants.j0 k a0 (a0 == 4)) else (sequiturref08_wants.j0 k a0 (a0 == 5))
set_option maxHeartbeats 8000000 in
set_option maxRecDepth 100000 in
theorem sequiturref08_wants.calls (k : Nat) (a0 : Int) (r1 : Int) (r2 : Int) (w : World) (h : sequiturref08_wants.f k a0 = some (r1, r2)) :
    Calls Tryd.prog 46 #[.int .i64 a0] w fun e w' => e = .returned (.tuple #[.int .i64 r1, .int .i64 r2]) ∧ Drawn0 w w' := by
  have H := h; unfold sequiturref08_wants.f at H; clear h; have HC2 := am H; clear H
  go_enter Tryd.func46, Tryd.ntmps46
  go_upto_if 5 with (fail)
  go_cut [5] (fun v5 wc => ∃ (kq : Nat) (x5_1 : Bool), v5 = .bool x5_1 ∧ Aside0 (sequiturref08_wants.j0 kq a0 x5_1 = some (r1, r2)) ∧ Aside0 (kq ≤ k) ∧ Drawn0 w wc)
  case first =>
   have H := HC2.out; clear HC2
   by_cases c3 : a0 = 4
   ·rw [if_pos c3] at H
    have c3b0 := beq_iff_eq.mpr c3; have c3b1 := bne_eq_false_iff_eq.mpr c3; clear c3; (first | rw [c3b0] | (simp only [i64_w, i32_w]; rw [c3b0]) | skip); have H' := am H; clear H; go_wp2; go_meet
    case rel => exact ⟨_, ((a0 == 4)), eS, H', ⟨eO⟩, by repeat (first | exact Drawn0.refl _ | apply Drawn0.step)⟩
   ·rw [if_neg c3] at H
    have c3b0 := beq_eq_false_iff_ne.mpr c3; have c3b1 := bne_iff_ne.mpr c3; (first | rw [c3b0] | (simp only [i64_w, i32_w]; rw [c3b0]) | skip); have H' := am H; clear H; go_wp2; go_meet
    case rel => exact ⟨_, ((a0 == 5)), eS, H', ⟨eO⟩, by repeat (first | exact Drawn0.refl _ | apply Drawn0.step)⟩
  case rest =>
   clear HC2; (try clear p2); (try clear c3); (try clear c3b0); (try clear c3b1); obtain ⟨kq, x5_1, rfl, HA, HJ1, ⟨mc1, rfl⟩⟩ := hcut
   cases kq with
   | zero => exact absurd HA.out (by simp [sequiturref08_wants.j0])
   | succ kj1 =>
    have H := HA.out; clear HA; simp only [sequiturref08_wants.j0] at H
    by_cases c4 : x5_1 = true
    ·subst c4
     rw [if_pos rfl] at H; simp only [Option.some.injEq, Prod.mk.injEq] at H; obtain ⟨rfl, rfl⟩ := H; go_wp2; go_ret2; exact ⟨by first | rfl | (simp; done) | (simp [*]; done) | (simp [*, nel]; done), by repeat (first | exact Drawn0.refl _ | apply Drawn0.step)⟩
    ·replace c4 := Bool.eq_false_iff.mpr c4
     subst c4; rw [if_neg (show ¬ (false = true) by decide)] at H; have HC5 := am H; clear H
     go_upto_if 8 with (fail)
     go_cut [8] (fun v8 wc => ∃ (kq : Nat) (x8_4 : Bool), v8 = .bool x8_4 ∧ Aside0 (sequiturref08_wants.j1 kq a0 x8_4 = some (r1, r2)) ∧ Aside0 (kq ≤ kj1) ∧ Drawn0 w wc)
     case first =>
      have H := HC5.out; clear HC5
      by_cases c6 : a0 = 6
      ·rw [if_pos c6] at H
       have c6b0 := beq_iff_eq.mpr c6; have c6b1 := bne_eq_false_iff_eq.mpr c6; clear c6; (first | rw [c6b0] | (simp only [i64_w, i32_w]; rw [c6b0]) | skip); have H' := am H; clear H; go_wp2; go_meet
       case rel => exact ⟨_, ((a0 == 6)), eS, H', ⟨by have := HJ1.out; first | omega | exact Nat.le_refl _⟩, by repeat (first | exact Drawn0.refl _ | apply Drawn0.step)⟩
      ·rw [if_neg c6] at H
       have c6b0 := beq_eq_false_iff_ne.mpr c6; have c6b1 := bne_iff_ne.mpr c6; (first | rw [c6b0] | (simp only [i64_w, i32_w]; rw [c6b0]) | skip)
       by_cases c7 : a0 = 11
       ·rw [if_pos c7] at H
        have c7b0 := beq_iff_eq.mpr c7; have c7b1 := bne_eq_false_iff_eq.mpr c7; clear c7; have H' := am H; clear H; go_wp2; go_meet
        case rel => exact ⟨_, ((a0 == 11)), eS, H', ⟨by have := HJ1.out; first | omega | exact Nat.le_refl _⟩, by repeat (first | exact Drawn0.refl _ | apply Drawn0.step)⟩
       ·rw [if_neg c7] at H
        have c7b0 := beq_eq_false_iff_ne.mpr c7; have c7b1 := bne_iff_ne.mpr c7; have H' := am H; clear H; go_wp2; go_meet
        case rel => exact ⟨_, ((a0 == 12)), eS, H', ⟨by have := HJ1.out; first | omega | exact Nat.le_refl _⟩, by repeat (first | exact Drawn0.refl _ | apply Drawn0.step)⟩
     case rest =>
      clear HC5; (try clear c1); (try clear p2); (try clear c3); (try clear c3b0); (try clear c3b1); (try clear c4); (try clear c6); (try clear c6b0); (try clear c6b1); (try clear c7); (try clear c7b0); (try clear c7b1); (try clear p2); obtain ⟨kq, x8_4, rfl, HA, HJ4, ⟨mc4, rfl⟩⟩ := hcut
      cases kq with
      | zero => exact absurd HA.out (by simp [sequiturref08_wants.j1])
      | succ kj4 =>
       have H := HA.out; clear HA; simp only [sequiturref08_wants.j1] at H
       by_cases c8 : x8_4 = true
       ·subst c8
        rw [if_pos rfl] at H; simp only [Option.some.injEq, Prod.mk.injEq] at H; obtain ⟨rfl, rfl⟩ := H; go_wp2; go_ret2; exact ⟨by first | rfl | (simp; done) | (simp [*]; done) | (simp [*, nel]; done), by repeat (first | exact Drawn0.refl _ | apply Drawn0.step)⟩
       ·replace c8 := Bool.eq_false_iff.mpr c8
        subst c8; rw [if_neg (show ¬ (false = true) by decide)] at H; have HC9 := am H; clear H
        go_upto_if 12 with (fail)
        go_cut [12] (fun v12 wc => ∃ (kq : Nat) (x12_8 : Bool), v12 = .bool x12_8 ∧ Aside0 (sequiturref08_wants.j2 kq x12_8 = some (r1, r2)) ∧ Aside0 (kq ≤ kj4) ∧ Drawn0 w wc)
        case first =>
         have H := HC9.out; clear HC9
         by_cases c10 : a0 = 7
         ·rw [if_pos c10] at H
          have c10b0 := beq_iff_eq.mpr c10; have c10b1 := bne_eq_false_iff_eq.mpr c10; clear c10; (first | rw [c10b0] | (simp only [i64_w, i32_w]; rw [c10b0]) | skip); have H' := am H; clear H; go_wp2; go_meet
          case rel => exact ⟨_, ((a0 == 7)), eS, H', ⟨by have := HJ1.out; have := HJ4.out; first | omega | exact Nat.le_refl _⟩, by repeat (first | exact Drawn0.refl _ | apply Drawn0.step)⟩
         ·rw [if_neg c10] at H
          have c10b0 := beq_eq_false_iff_ne.mpr c10; have c10b1 := bne_iff_ne.mpr c10; (first | rw [c10b0] | (simp only [i64_w, i32_w]; rw [c10b0]) | skip)
          by_cases c11 : a0 = 8
          ·rw [if_pos c11] at H
           have c11b0 := beq_iff_eq.mpr c11; have c11b1 := bne_eq_false_iff_eq.mpr c11; clear c11; have H' := am H; clear H; go_wp2; go_meet
           case rel => exact ⟨_, ((a0 == 8)), eS, H', ⟨by have := HJ1.out; have := HJ4.out; first | omega | exact Nat.le_refl _⟩, by repeat (first | exact Drawn0.refl _ | apply Drawn0.step)⟩
          ·rw [if_neg c11] at H
           have c11b0 := beq_eq_false_iff_ne.mpr c11; have c11b1 := bne_iff_ne.mpr c11
           by_cases c12 : a0 = 9
           ·rw [if_pos c12] at H
            have c12b0 := beq_iff_eq.mpr c12; have c12b1 := bne_eq_false_iff_eq.mpr c12; clear c12; have H' := am H; clear H; go_wp2; go_meet
            case rel => exact ⟨_, ((a0 == 9)), eS, H', ⟨by have := HJ1.out; have := HJ4.out; first | omega | exact Nat.le_refl _⟩, by repeat (first | exact Drawn0.refl _ | apply Drawn0.step)⟩
           ·rw [if_neg c12] at H
            have c12b0 := beq_eq_false_iff_ne.mpr c12; have c12b1 := bne_iff_ne.mpr c12; have H' := am H; clear H; go_wp2; go_meet
            case rel => exact ⟨_, ((a0 == 10)), eS, H', ⟨by have := HJ1.out; have := HJ4.out; first | omega | exact Nat.le_refl _⟩, by repeat (first | exact Drawn0.refl _ | apply Drawn0.step)⟩
        case rest =>
         clear HC9; (try clear c1); (try clear p2); (try clear c3); (try clear c3b0); (try clear c3b1); (try clear c4); (try clear c6); (try clear c6b0); (try clear c6b1); (try clear c7); (try clear c7b0); (try clear c7b1); (try clear c8); (try clear c10); (try clear c10b0); (try clear c10b1); (try clear c11); (try clear c11b0); (try clear c11b1); (try clear c12); (try clear c12b0); (try clear c12b1); (try clear p2); obtain ⟨kq, x12_8, rfl, HA, HJ8, ⟨mc8, rfl⟩⟩ := hcut
         cases kq with
         | zero => exact absurd HA.out (by simp [sequiturref08_wants.j2])
         | succ kj8 =>
          have H := HA.out; clear HA; simp only [sequiturref08_wants.j2] at H
          by_cases c13 : x12_8 = true
          ·subst c13
           rw [if_pos rfl] at H; simp only [Option.some.injEq, Prod.mk.injEq] at H; obtain ⟨rfl, rfl⟩ := H; go_wp2; go_ret2; exact ⟨by first | rfl | (simp; done) | (simp [*]; done) | (simp [*, nel]; done), by repeat (first | exact Drawn0.refl _ | apply Drawn0.step)⟩
          ·replace c13 := Bool.eq_false_iff.mpr c13
           subst c13; rw [if_neg (show ¬ (false = true) by decide)] at H; simp only [Option.some.injEq, Prod.mk.injEq] at H; obtain ⟨rfl, rfl⟩ := H; go_wp2; go_ret2; exact ⟨by first | rfl | (simp; done) | (simp [*]; done) | (simp [*, nel]; done), by repeat (first | exact Drawn0.refl _ | apply Drawn0.step)⟩
end Go.Proofs.YtmlkllbaehegjaaDoor.PAll
end
section
namespace Go.Proofs.YtmlkllbaehegjaaDoor.PAll
open Go.RowKit Go.Proofs.YtmlkllbaehegjaaDoorW.PrintWords Go.Proofs.YtmlkllbaehegjaaDoorW.PrintLast Go.Proofs.YtmlkllbaehegjaaDoorW.PrintMore
attribute [local go_sem] max2_int min2_int max_two min_two max_three min_three max_four min_four   -- for this text's walks alone
set_option linter.unusedVariables false
set_option linter.unusedSimpArgs false
/-! ### sequiturref08_tall: function 63 -/
mutual
def sequiturref08_tall.l0 : Nat → Int → Int → Int → Int → ByteArray → Int → List (S53) → Option (Int)
  | 0, _, _, _, _, _, _, _ => none
  | k + 1, x1, x5, x6, x352000, x352001, x352002, x352003 => if x6 < (x352003.length : Int) then (if 0 ≤ x6 then ((sequiturref08_tall.f k ((rd_T53 x352003 x6).f0) ((rd_T53 x352003 x6).f1) ((rd_T53 x352003 x6).f2) ((rd_T53 x352003 x6).f3) (wrap64 (x1 - 1))).bind fun t353 => (if t353 > x5 then (sequiturref08_tall.l0 k x1 t353 (wrap64 (x6 + 1)) x352000 x352001 x352002 x352003) else (sequiturref08_tall.l0 k x1 x5 (wrap64 (x6 + 1)) x352000 x352001 x352002 x352003))) else (none)) else (some (wrap64 (x5 + 1)))
def sequiturref08_tall.f : Nat → Int → ByteArray → Int → List (S53) → Int → Option (Int)
  | 0, _, _, _, _, _ => none
  | k + 1, a0_0, a0_1, a0_2, l0_3, a1 => if a1 ≤ 1 then (some 1) else (sequiturref08_tall.l0 k a1 0 0 a0_0 a0_1 a0_2 l0_3)
end
set_option maxHeartbeats 8000000 in
set_option maxRecDepth 100000 in
theorem sequiturref08_tall.calls (k : Nat) : ∀ (a0_0 : Int) (a0_1 : ByteArray) (a0_2 : Int) (A0_3 : Option Addr) (c0_3 : Nat) (l0_3 : List (S53)) (a1 : Int) (r : Int) (w : World) (hr0_3 : Kd.C k53 w A0_3 l0_3.length l0_3) (hc0_3 : l0_3.length ≤ c0_3) (h : sequiturref08_tall.f k a0_0 a0_1 a0_2 l0_3 a1 = some r),
    Calls Tryd.prog 63 #[.agg #[.int .i64 a0_0, .string a0_1, .int .i64 a0_2, .slice A0_3 l0_3.length c0_3], .int .i64 a1] w fun e w' => e = .returned (.int .i64 r) ∧ Below w.heap.size w w' := by
  induction k using Nat.strongRecOn with
  | _ k ih =>
  intro a0_0 a0_1 a0_2 A0_3 c0_3 l0_3 a1 r w hr0_3 hc0_3 h
  cases k with
  | zero => exact absurd h (by simp [sequiturref08_tall.f])
  | succ k =>
  simp only [sequiturref08_tall.f] at h; have hu53 := Tryd.underlying53; have HR0_3 := am hr0_3; have HC0_3 := am hc0_3; clear hr0_3 hc0_3; have HB := am (Below.refl w.heap.size w); have H := h; clear h
  by_cases c3 : a1 ≤ 1
  ·rw [if_pos c3] at H
   have c3b0 : decide (a1 ≤ 1) = true := decide_eq_true c3; clear c3; obtain rfl := Option.some.inj H
   go_enter Tryd.func63, Tryd.ntmps63
   go_wp2_with (first | ((with_reducible refine gate_dst (N := 2) rfl ?_); refine bE 2 #[.int .i64 a0_0, .string a0_1, .int .i64 a0_2, .slice A0_3 l0_3.length c0_3] 53 ?_; intro gb351 w4 BK351 hg hb; have GW351 := bZ hg; have GE351 := bZ hg; replace HB := bH hb; clear hb hg))
   go_ret; exact ⟨eW, bB⟩
  ·rw [if_neg c3] at H
   have c3b0 : decide (a1 ≤ 1) = false := decide_eq_false c3; clear c3; have H' := am H; clear H
   go_enter Tryd.func63, Tryd.ntmps63
   go_wp2_with (first | ((with_reducible refine gate_dst (N := 2) rfl ?_); refine bE 2 #[.int .i64 a0_0, .string a0_1, .int .i64 a0_2, .slice A0_3 l0_3.length c0_3] 53 ?_; intro gb351 w5 BK351 hg hb; have GW351 := bZ hg; have GE351 := bZ hg; replace HB := bH hb; clear hb hg))
   go_loopg [5, 6] k (fun kq v5 v6 w' => ∃ (x5_1 : Int) (x6_1 : Int), v5 = .int .i64 x5_1 ∧ v6 = .int .i64 x6_1 ∧ Aside0 (sequiturref08_tall.l0 kq a1 x5_1 x6_1 a0_0 a0_1 a0_2 l0_3 = some r) ∧ Aside0 (kq ≤ k) ∧ Aside0 (w'.heap[gb351]? = some (.cells #[.int .i64 a0_0, .string a0_1, .int .i64 a0_2, (.slice A0_3 l0_3.length c0_3)] 53 (0, 0))) ∧ Aside0 (Below w.heap.size w w'))
   case atStart => exact ⟨(0), (0), eS, eS, H', ⟨Nat.le_refl _⟩, ⟨bD BK351⟩, ⟨bB⟩⟩
   case round =>
    clear H'; (try clear p2); (try clear c3); (try clear c3b0); obtain ⟨x5_1, x6_1, rfl, rfl, HA, HK1, BK351, HB⟩ := hrel
    cases gk with
    | zero => exact absurd HA.out (by simp [sequiturref08_tall.l0])
    | succ k1 =>
     have H := HA.out; clear HA; simp only [sequiturref08_tall.l0] at H
     by_cases c6 : x6_1 < (l0_3.length : Int)
     ·rw [if_pos c6] at H
      have c6b0 : decide (x6_1 < (l0_3.length : Int)) = true := decide_eq_true c6; clear c6
      by_cases c7 : 0 ≤ x6_1
      ·rw [if_pos c7] at H
       have c7b0 : decide (0 ≤ x6_1) = true := decide_eq_true c7; clear c7; obtain ⟨t353, A8, H⟩ := bO H
       by_cases c9 : t353 > x5_1
       ·rw [if_pos c9] at H
        have c9b0 : decide (x5_1 < t353) = true := decide_eq_true c9; clear c9; have H' := am H; clear H; obtain ⟨z10_0, z10_1, z10_2, z10_3, y10_0, y10_1, y10_2, y10_3⟩ := y4 BK351; have p352 : 0 ≤ (x6_1 : Int) := of_decide_eq_true eA; have q352 : x6_1 < (l0_3.length : Int) := of_decide_eq_true eA; obtain ⟨ad352, A352_3, c352_3, e352, hx352_0, hx352_1, hx352_2, hx352_3, hl352_3, hi352_3⟩ := at_T53 HR0_3.out x6_1 p352 q352
        cases e352
        replace hx352_0 := cX HB hx352_0; replace hx352_1 := cX HB hx352_1; replace hx352_2 := cX HB hx352_2; replace hx352_3 := cX HB hx352_3; have HR352_3 := am hi352_3; have HC352_3 := am hl352_3; clear hi352_3 hl352_3; replace p352 := eq_true p352; replace q352 := eq_true q352
        go_wp2_with (first | ((with_reducible refine gate_callee (f := 63) rfl ?_); refine gL 24 Tryd.func63 #[.agg #[.int .i64 ((rd_T53 l0_3 x6_1).f0), .string ((rd_T53 l0_3 x6_1).f1), .int .i64 ((rd_T53 l0_3 x6_1).f2), .slice A352_3 ((rd_T53 l0_3 x6_1).f3).length c352_3], .int .i64 (wrap64 (a1 - 1))] ?_; (with_reducible refine (ih k1 (by have := HK1.out; omega) ((rd_T53 l0_3 x6_1).f0) ((rd_T53 l0_3 x6_1).f1) ((rd_T53 l0_3 x6_1).f2) _ _ ((rd_T53 l0_3 x6_1).f3) (wrap64 (a1 - 1)) t353 _ ?side1 HC352_3.out A8.out).mono ?_); (case side1 => exact cB HR352_3); rintro e w11 ⟨rfl, hb⟩; refine ⟨_, rfl, ?_⟩; replace BK351 := bK BK351 hb; replace HB := bH hb; clear hb))
        go_roundg k1
        case measure => have := HK1.out; omega
        case rel => exact ⟨(t353), (wrap64 (x6_1 + 1)), eS, eS, H', ⟨by have := HK1.out; omega⟩, ⟨bD BK351⟩, ⟨bB⟩⟩
       ·rw [if_neg c9] at H
        have c9b0 : decide (x5_1 < t353) = false := decide_eq_false c9; clear c9; have H' := am H; clear H; obtain ⟨z12_0, z12_1, z12_2, z12_3, y12_0, y12_1, y12_2, y12_3⟩ := y4 BK351; have p352 : 0 ≤ (x6_1 : Int) := of_decide_eq_true eA; have q352 : x6_1 < (l0_3.length : Int) := of_decide_eq_true eA; obtain ⟨ad352, A352_3, c352_3, e352, hx352_0, hx352_1, hx352_2, hx352_3, hl352_3, hi352_3⟩ := at_T53 HR0_3.out x6_1 p352 q352
        cases e352
        replace hx352_0 := cX HB hx352_0; replace hx352_1 := cX HB hx352_1; replace hx352_2 := cX HB hx352_2; replace hx352_3 := cX HB hx352_3; have HR352_3 := am hi352_3; have HC352_3 := am hl352_3; clear hi352_3 hl352_3; replace p352 := eq_true p352; replace q352 := eq_true q352
        go_wp2_with (first | ((with_reducible refine gate_callee (f := 63) rfl ?_); refine gL 24 Tryd.func63 #[.agg #[.int .i64 ((rd_T53 l0_3 x6_1).f0), .string ((rd_T53 l0_3 x6_1).f1), .int .i64 ((rd_T53 l0_3 x6_1).f2), .slice A352_3 ((rd_T53 l0_3 x6_1).f3).length c352_3], .int .i64 (wrap64 (a1 - 1))] ?_; (with_reducible refine (ih k1 (by have := HK1.out; omega) ((rd_T53 l0_3 x6_1).f0) ((rd_T53 l0_3 x6_1).f1) ((rd_T53 l0_3 x6_1).f2) _ _ ((rd_T53 l0_3 x6_1).f3) (wrap64 (a1 - 1)) t353 _ ?side1 HC352_3.out A8.out).mono ?_); (case side1 => exact cB HR352_3); rintro e w13 ⟨rfl, hb⟩; refine ⟨_, rfl, ?_⟩; replace BK351 := bK BK351 hb; replace HB := bH hb; clear hb))
        go_roundg k1
        case measure => have := HK1.out; omega
        case rel => exact ⟨(x5_1), (wrap64 (x6_1 + 1)), eS, eS, H', ⟨by have := HK1.out; omega⟩, ⟨bD BK351⟩, ⟨bB⟩⟩
      ·rw [if_neg c7] at H
       exact absurd H (by simp)
     ·rw [if_neg c6] at H
      have c6b0 : decide (x6_1 < (l0_3.length : Int)) = false := decide_eq_false c6; clear c6; obtain rfl := Option.some.inj H; obtain ⟨z14_0, z14_1, z14_2, z14_3, y14_0, y14_1, y14_2, y14_3⟩ := y4 BK351; go_wp2; go_ret; exact ⟨eW, bB⟩
end Go.Proofs.YtmlkllbaehegjaaDoor.PAll
end
