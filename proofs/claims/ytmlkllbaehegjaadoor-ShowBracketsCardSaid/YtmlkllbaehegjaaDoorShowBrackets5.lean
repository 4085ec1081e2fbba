-- Words of the kit's print, walks printed by a program of this session (wip/prt) in shorter words, and texts of this session, merged (pack.py).
import Derived.Test.YtmlkllbaehegjaaDoorShowBrackets3
import Derived.Test.YtmlkllbaehegjaaDoorShowBrackets4
section
namespace Go.Proofs.YtmlkllbaehegjaaDoor.PAll
open Go.RowKit Go.Proofs.YtmlkllbaehegjaaDoorW.PrintWords Go.Proofs.YtmlkllbaehegjaaDoorW.PrintLast Go.Proofs.YtmlkllbaehegjaaDoorW.PrintMore
attribute [local go_sem] max2_int min2_int max_two min_two max_three min_three max_four min_four   -- for this text's walks alone
set_option linter.unusedVariables false
set_option linter.unusedSimpArgs false
/-! ### sequiturref08_termParts: function 64 -/
mutual
def sequiturref08_termParts.j0 : Nat → Bool → Int → ByteArray → Int → List (S53) → Option (Int)
  | 0, _, _, _, _, _ => none
  | k + 1, x3, x355000, x355001, x355002, x355003 => if x355000 = 2 then (sequiturref08_termParts.j1 k x3 true x355000 x355001 x355002 x355003) else (if x355000 = 4 then (sequiturref08_termParts.j1 k x3 true x355000 x355001 x355002 x355003) else (sequiturref08_termParts.j1 k x3 (x355000 == 8) x355000 x355001 x355002 x355003))
def sequiturref08_termParts.j1 : Nat → Bool → Bool → Int → ByteArray → Int → List (S53) → Option (Int)
  | 0, _, _, _, _, _, _ => none
  | k + 1, x3, x4, x355000, x355001, x355002, x355003 => if x355000 < 1 then (sequiturref08_termParts.j2 k true x355000 x355001 x355002 x355003) else (if x355000 > 8 then (sequiturref08_termParts.j2 k true x355000 x355001 x355002 x355003) else (if x3 = true then (if x4 = true then (if x355000 = 2 then (sequiturref08_termParts.j2 k (decide (x355002 < 0)) x355000 x355001 x355002 x355003) else (sequiturref08_termParts.j2 k false x355000 x355001 x355002 x355003)) else (if x355002 = 0 then (if x355000 = 2 then (sequiturref08_termParts.j2 k (decide (x355002 < 0)) x355000 x355001 x355002 x355003) else (sequiturref08_termParts.j2 k false x355000 x355001 x355002 x355003)) else (sequiturref08_termParts.j2 k true x355000 x355001 x355002 x355003))) else (if x355001.toList = ([] : List UInt8) then (if x4 = true then (if x355000 = 2 then (sequiturref08_termParts.j2 k (decide (x355002 < 0)) x355000 x355001 x355002 x355003) else (sequiturref08_termParts.j2 k false x355000 x355001 x355002 x355003)) else (if x355002 = 0 then (if x355000 = 2 then (sequiturref08_termParts.j2 k (decide (x355002 < 0)) x355000 x355001 x355002 x355003) else (sequiturref08_termParts.j2 k false x355000 x355001 x355002 x355003)) else (sequiturref08_termParts.j2 k true x355000 x355001 x355002 x355003))) else (sequiturref08_termParts.j2 k true x355000 x355001 x355002 x355003))))
def sequiturref08_termParts.j2 : Nat → Bool → Int → ByteArray → Int → List (S53) → Option (Int)
  | 0, _, _, _, _, _ => none
  | k + 1, x64, x355000, x355001, x355002, x355003 => if x64 = true then (some 7) else (if x355000 = 5 then (sequiturref08_termParts.j3 k 0 x355000 (x355000 == 5) x355000 x355001 x355002 x355003) else (sequiturref08_termParts.j3 k 0 x355000 (x355000 == 6) x355000 x355001 x355002 x355003))
def sequiturref08_termParts.j5 : Nat → Int → Int → ByteArray → Int → List (S53) → Option (Int)
  | 0, _, _, _, _, _ => none
  | k + 1, x5, x355000, x355001, x355002, x355003 => if x355000 = 3 then (if (x355003.length : Int) > 8 then (sequiturref08_termParts.j6 k true x355000 x355001 x355002 x355003) else (sequiturref08_termParts.j6 k false x355000 x355001 x355002 x355003)) else (sequiturref08_termParts.j6 k ((x355003.length : Int) != x5) x355000 x355001 x355002 x355003)
def sequiturref08_termParts.j6 : Nat → Bool → Int → ByteArray → Int → List (S53) → Option (Int)
  | 0, _, _, _, _, _ => none
  | k + 1, x93, x355000, x355001, x355002, x355003 => if x93 = true then (some 12) else (sequiturref08_termParts.l0 k 0 x355000 x355001 x355002 x355003)
def sequiturref08_termParts.l0 : Nat → Int → Int → ByteArray → Int → List (S53) → Option (Int)
  | 0, _, _, _, _, _ => none
  | k + 1, x6, x355000, x355001, x355002, x355003 => if x6 < (x355003.length : Int) then (if 0 ≤ x6 then ((sequiturref08_termParts.f k ((rd_T53 x355003 x6).f0) ((rd_T53 x355003 x6).f1) ((rd_T53 x355003 x6).f2) ((rd_T53 x355003 x6).f3)).bind fun t356 => (if t356 = 0 then (sequiturref08_termParts.l0 k (wrap64 (x6 + 1)) x355000 x355001 x355002 x355003) else (some t356))) else (none)) else (some 0)
def sequiturref08_termParts.j3 : Nat → Int → Int → Bool → Int → ByteArray → Int → List (S53) → Option (Int)
  | 0, _, _, _, _, _, _, _ => none
  | k + 1, x5, x66, x67, x355000, x355001, x355002, x355003 => if x67 = true then (sequiturref08_termParts.j5 k 2 x355000 x355001 x355002 x355003) else (if x66 = 7 then (sequiturref08_termParts.j4 k x5 (x66 == 7) x355000 x355001 x355002 x355003) else (sequiturref08_termParts.j4 k x5 (x66 == 8) x355000 x355001 x355002 x355003))
def sequiturref08_termParts.j4 : Nat → Int → Bool → Int → ByteArray → Int → List (S53) → Option (Int)
  | 0, _, _, _, _, _, _ => none
  | k + 1, x5, x70, x355000, x355001, x355002, x355003 => if x70 = true then (sequiturref08_termParts.j5 k 1 x355000 x355001 x355002 x355003) else (sequiturref08_termParts.j5 k x5 x355000 x355001 x355002 x355003)
def sequiturref08_termParts.f : Nat → Int → ByteArray → Int → List (S53) → Option (Int)
  | 0, _, _, _, _ => none
  | k + 1, a0_0, a0_1, a0_2, l0_3 => if a0_0 = 1 then (sequiturref08_termParts.j0 k true a0_0 a0_1 a0_2 l0_3) else (sequiturref08_termParts.j0 k (a0_0 == 3) a0_0 a0_1 a0_2 l0_3)
end
set_option maxHeartbeats 8000000 in
set_option maxRecDepth 100000 in
theorem sequiturref08_termParts.calls (k : Nat) : ∀ (a0_0 : Int) (a0_1 : ByteArray) (a0_2 : Int) (A0_3 : Option Addr) (c0_3 : Nat) (l0_3 : List (S53)) (r : Int) (w : World) (hr0_3 : Kd.C k53 w A0_3 l0_3.length l0_3) (hc0_3 : l0_3.length ≤ c0_3) (h : sequiturref08_termParts.f k a0_0 a0_1 a0_2 l0_3 = some r),
    Calls Tryd.prog 64 #[.agg #[.int .i64 a0_0, .string a0_1, .int .i64 a0_2, .slice A0_3 l0_3.length c0_3]] w fun e w' => e = .returned (.int .i64 r) ∧ Below w.heap.size w w' := by
  induction k using Nat.strongRecOn with
  | _ k ih =>
  intro a0_0 a0_1 a0_2 A0_3 c0_3 l0_3 r w hr0_3 hc0_3 h
  cases k with
  | zero => exact absurd h (by simp [sequiturref08_termParts.f])
  | succ k =>
  simp only [sequiturref08_termParts.f] at h; have hu53 := Tryd.underlying53; have HR0_3 := am hr0_3; have HC0_3 := am hc0_3; clear hr0_3 hc0_3; have HB := am (Below.refl w.heap.size w); have H := h; clear h; have HC2 := am H; clear H
  go_enter Tryd.func64, Tryd.ntmps64
  go_upto_region 1 with (first | ((with_reducible refine gate_dst (N := 1) rfl ?_); (try (refine gate_guard (by rfl) ?_; dsimp only)); refine bE 1 #[.int .i64 a0_0, .string a0_1, .int .i64 a0_2, .slice A0_3 l0_3.length c0_3] 53 ?_; intro gb354 w3 BK354 hg hb; have GW354 := bZ hg; have GE354 := bZ hg; replace HB := bH hb; clear hb hg))
  (try simp only [Act.put, List.setIfInBounds_toArray, List.set_cons_zero, List.set_cons_succ])
  go_cut [3] (fun v3 wc => ∃ (kq : Nat) (x3_1 : Bool), v3 = .bool x3_1 ∧ Aside0 (sequiturref08_termParts.j0 kq x3_1 a0_0 a0_1 a0_2 l0_3 = some r) ∧ Aside0 (kq ≤ k) ∧ Aside0 (wc.heap[gb354]? = some (.cells #[.int .i64 a0_0, .string a0_1, .int .i64 a0_2, (.slice A0_3 l0_3.length c0_3)] 53 (0, 0))) ∧ Aside0 (Below w.heap.size w wc))
  case first =>
   have H := HC2.out; clear HC2
   by_cases c4 : a0_0 = 1
   ·rw [if_pos c4] at H
    have c4b0 := beq_iff_eq.mpr c4; have c4b1 := bne_eq_false_iff_eq.mpr c4; clear c4; (first | rw [c4b0] | (simp only [i64_w, i32_w]; rw [c4b0]) | skip); have H' := am H; clear H; obtain ⟨z5_0, z5_1, z5_2, z5_3, y5_0, y5_1, y5_2, y5_3⟩ := y4 BK354; go_wp2; go_meet
    case rel => exact ⟨_, (true), eS, H', ⟨eO⟩, ⟨bD BK354⟩, ⟨bB⟩⟩
   ·rw [if_neg c4] at H
    have c4b0 := beq_eq_false_iff_ne.mpr c4; have c4b1 := bne_iff_ne.mpr c4; (first | rw [c4b0] | (simp only [i64_w, i32_w]; rw [c4b0]) | skip); have H' := am H; clear H; obtain ⟨z6_0, z6_1, z6_2, z6_3, y6_0, y6_1, y6_2, y6_3⟩ := y4 BK354; go_wp2; go_meet
    case rel => exact ⟨_, ((a0_0 == 3)), eS, H', ⟨eO⟩, ⟨bD BK354⟩, ⟨bB⟩⟩
  case rest =>
   clear HC2; (try clear p2); (try clear c4); (try clear c4b0); (try clear c4b1); (try clear c6); (try clear z5_0 z5_1 z5_2 z5_3); (try clear z6_0 z6_1 z6_2 z6_3); (try clear y5_0 y5_1 y5_2 y5_3); (try clear y6_0 y6_1 y6_2 y6_3); obtain ⟨kq, x3_1, rfl, HA, HJ1, BK354, HB⟩ := hcut
   cases kq with
   | zero => exact absurd HA.out (by simp [sequiturref08_termParts.j0])
   | succ kj1 =>
    have H := HA.out; clear HA; simp only [sequiturref08_termParts.j0] at H; have HC7 := am H; clear H
    go_upto_region 2 with (fail)
    go_cut [4] (fun v4 wc => ∃ (kq : Nat) (x4_6 : Bool), v4 = .bool x4_6 ∧ Aside0 (sequiturref08_termParts.j1 kq x3_1 x4_6 a0_0 a0_1 a0_2 l0_3 = some r) ∧ Aside0 (kq ≤ kj1) ∧ Aside0 (wc.heap[gb354]? = some (.cells #[.int .i64 a0_0, .string a0_1, .int .i64 a0_2, (.slice A0_3 l0_3.length c0_3)] 53 (0, 0))) ∧ Aside0 (Below w.heap.size w wc))
    case first =>
     have H := HC7.out; clear HC7
     by_cases c8 : a0_0 = 2
     ·rw [if_pos c8] at H
      have c8b0 := beq_iff_eq.mpr c8; have c8b1 := bne_eq_false_iff_eq.mpr c8; clear c8; (first | rw [c8b0] | (simp only [i64_w, i32_w]; rw [c8b0]) | skip); have H' := am H; clear H; obtain ⟨z9_0, z9_1, z9_2, z9_3, y9_0, y9_1, y9_2, y9_3⟩ := y4 BK354; go_wp2; go_meet
      case rel => exact ⟨_, (true), eS, H', ⟨by have := HJ1.out; first | omega | exact Nat.le_refl _⟩, ⟨bD BK354⟩, ⟨bB⟩⟩
     ·rw [if_neg c8] at H
      have c8b0 := beq_eq_false_iff_ne.mpr c8; have c8b1 := bne_iff_ne.mpr c8; (first | rw [c8b0] | (simp only [i64_w, i32_w]; rw [c8b0]) | skip)
      by_cases c10 : a0_0 = 4
      ·rw [if_pos c10] at H
       have c10b0 := beq_iff_eq.mpr c10; have c10b1 := bne_eq_false_iff_eq.mpr c10; clear c10; have H' := am H; clear H; obtain ⟨z11_0, z11_1, z11_2, z11_3, y11_0, y11_1, y11_2, y11_3⟩ := y4 BK354; go_wp2; go_meet
       case rel => exact ⟨_, (true), eS, H', ⟨by have := HJ1.out; first | omega | exact Nat.le_refl _⟩, ⟨bD BK354⟩, ⟨bB⟩⟩
      ·rw [if_neg c10] at H
       have c10b0 := beq_eq_false_iff_ne.mpr c10; have c10b1 := bne_iff_ne.mpr c10; have H' := am H; clear H; obtain ⟨z12_0, z12_1, z12_2, z12_3, y12_0, y12_1, y12_2, y12_3⟩ := y4 BK354; go_wp2; go_meet
       case rel => exact ⟨_, ((a0_0 == 8)), eS, H', ⟨by have := HJ1.out; first | omega | exact Nat.le_refl _⟩, ⟨bD BK354⟩, ⟨bB⟩⟩
    case rest =>
     clear HC7; (try clear c1); (try clear p2); (try clear c4); (try clear c4b0); (try clear c4b1); (try clear c6); (try clear c8); (try clear c8b0); (try clear c8b1); (try clear c10); (try clear c10b0); (try clear c10b1); (try clear z11_0 z11_1 z11_2 z11_3); (try clear z12_0 z12_1 z12_2 z12_3); (try clear z5_0 z5_1 z5_2 z5_3); (try clear z6_0 z6_1 z6_2 z6_3); (try clear z9_0 z9_1 z9_2 z9_3); (try clear y11_0 y11_1 y11_2 y11_3); (try clear y12_0 y12_1 y12_2 y12_3); (try clear y5_0 y5_1 y5_2 y5_3); (try clear y6_0 y6_1 y6_2 y6_3); (try clear y9_0 y9_1 y9_2 y9_3); (try clear p2); obtain ⟨kq, x4_6, rfl, HA, HJ6, BK354, HB⟩ := hcut
     cases kq with
     | zero => exact absurd HA.out (by simp [sequiturref08_termParts.j1])
     | succ kj6 =>
      have H := HA.out; clear HA; simp only [sequiturref08_termParts.j1] at H; have HC13 := am H; clear H
      go_upto_region 3 with (fail)
      go_cut [64] (fun v64 wc => ∃ (kq : Nat) (x64_12 : Bool), v64 = .bool x64_12 ∧ Aside0 (sequiturref08_termParts.j2 kq x64_12 a0_0 a0_1 a0_2 l0_3 = some r) ∧ Aside0 (kq ≤ kj6) ∧ Aside0 (wc.heap[gb354]? = some (.cells #[.int .i64 a0_0, .string a0_1, .int .i64 a0_2, (.slice A0_3 l0_3.length c0_3)] 53 (0, 0))) ∧ Aside0 (Below w.heap.size w wc))
      case first =>
       have H := HC13.out; clear HC13
       by_cases c14 : a0_0 < 1
       ·rw [if_pos c14] at H
        have c14b0 : decide (a0_0 < 1) = true := decide_eq_true c14; clear c14; (first | rw [c14b0] | (simp only [i64_w, i32_w]; rw [c14b0]) | skip); have H' := am H; clear H; obtain ⟨z15_0, z15_1, z15_2, z15_3, y15_0, y15_1, y15_2, y15_3⟩ := y4 BK354; go_wp2; go_meet
        case rel => exact ⟨_, (true), eS, H', ⟨by have := HJ1.out; have := HJ6.out; first | omega | exact Nat.le_refl _⟩, ⟨bD BK354⟩, ⟨bB⟩⟩
       ·rw [if_neg c14] at H
        have c14b0 : decide (a0_0 < 1) = false := decide_eq_false c14; clear c14; (first | rw [c14b0] | (simp only [i64_w, i32_w]; rw [c14b0]) | skip)
        by_cases c16 : a0_0 > 8
        ·rw [if_pos c16] at H
         have c16b0 : decide (8 < a0_0) = true := decide_eq_true c16; clear c16; have H' := am H; clear H; obtain ⟨z17_0, z17_1, z17_2, z17_3, y17_0, y17_1, y17_2, y17_3⟩ := y4 BK354; go_wp2; go_meet
         case rel => exact ⟨_, (true), eS, H', ⟨by have := HJ1.out; have := HJ6.out; first | omega | exact Nat.le_refl _⟩, ⟨bD BK354⟩, ⟨bB⟩⟩
        ·rw [if_neg c16] at H
         have c16b0 : decide (8 < a0_0) = false := decide_eq_false c16; clear c16
         by_cases c18 : x3_1 = true
         ·subst c18
          rw [if_pos rfl] at H
          by_cases c19 : x4_6 = true
          ·subst c19
           rw [if_pos rfl] at H
           by_cases c20 : a0_0 = 2
           ·rw [if_pos c20] at H
            have c20b0 := beq_iff_eq.mpr c20; have c20b1 := bne_eq_false_iff_eq.mpr c20; clear c20; have H' := am H; clear H; obtain ⟨z21_0, z21_1, z21_2, z21_3, y21_0, y21_1, y21_2, y21_3⟩ := y4 BK354; go_wp2; go_meet
            case rel => exact ⟨_, (decide (a0_2 < 0)), eS, H', ⟨by have := HJ1.out; have := HJ6.out; first | omega | exact Nat.le_refl _⟩, ⟨bD BK354⟩, ⟨bB⟩⟩
           ·rw [if_neg c20] at H
            have c20b0 := beq_eq_false_iff_ne.mpr c20; have c20b1 := bne_iff_ne.mpr c20; have H' := am H; clear H; obtain ⟨z22_0, z22_1, z22_2, z22_3, y22_0, y22_1, y22_2, y22_3⟩ := y4 BK354; go_wp2; go_meet
            case rel => exact ⟨_, (false), eS, H', ⟨by have := HJ1.out; have := HJ6.out; first | omega | exact Nat.le_refl _⟩, ⟨bD BK354⟩, ⟨bB⟩⟩
          ·replace c19 := Bool.eq_false_iff.mpr c19
           subst c19; rw [if_neg (show ¬ (false = true) by decide)] at H
           by_cases c23 : a0_2 = 0
           ·rw [if_pos c23] at H
            have c23b0 := beq_iff_eq.mpr c23; have c23b1 := bne_eq_false_iff_eq.mpr c23; clear c23
            by_cases c24 : a0_0 = 2
            ·rw [if_pos c24] at H
             have c24b0 := beq_iff_eq.mpr c24; have c24b1 := bne_eq_false_iff_eq.mpr c24; clear c24; have H' := am H; clear H; obtain ⟨z25_0, z25_1, z25_2, z25_3, y25_0, y25_1, y25_2, y25_3⟩ := y4 BK354; go_wp2; go_meet
             case rel => exact ⟨_, (decide (a0_2 < 0)), eS, H', ⟨by have := HJ1.out; have := HJ6.out; first | omega | exact Nat.le_refl _⟩, ⟨bD BK354⟩, ⟨bB⟩⟩
            ·rw [if_neg c24] at H
             have c24b0 := beq_eq_false_iff_ne.mpr c24; have c24b1 := bne_iff_ne.mpr c24; have H' := am H; clear H; obtain ⟨z26_0, z26_1, z26_2, z26_3, y26_0, y26_1, y26_2, y26_3⟩ := y4 BK354; go_wp2; go_meet
             case rel => exact ⟨_, (false), eS, H', ⟨by have := HJ1.out; have := HJ6.out; first | omega | exact Nat.le_refl _⟩, ⟨bD BK354⟩, ⟨bB⟩⟩
           ·rw [if_neg c23] at H
            have c23b0 := beq_eq_false_iff_ne.mpr c23; have c23b1 := bne_iff_ne.mpr c23; have H' := am H; clear H; obtain ⟨z27_0, z27_1, z27_2, z27_3, y27_0, y27_1, y27_2, y27_3⟩ := y4 BK354; go_wp2; go_meet
            case rel => exact ⟨_, (true), eS, H', ⟨by have := HJ1.out; have := HJ6.out; first | omega | exact Nat.le_refl _⟩, ⟨bD BK354⟩, ⟨bB⟩⟩
         ·replace c18 := Bool.eq_false_iff.mpr c18
          subst c18; rw [if_neg (show ¬ (false = true) by decide)] at H
          by_cases c28 : a0_1.toList = ([] : List UInt8)
          ·rw [if_pos c28] at H
           have c28b0 := beq_iff_eq.mpr c28; have c28b1 := bne_eq_false_iff_eq.mpr c28; clear c28
           by_cases c29 : x4_6 = true
           ·subst c29
            rw [if_pos rfl] at H
            by_cases c30 : a0_0 = 2
            ·rw [if_pos c30] at H
             have c30b0 := beq_iff_eq.mpr c30; have c30b1 := bne_eq_false_iff_eq.mpr c30; clear c30; have H' := am H; clear H; obtain ⟨z31_0, z31_1, z31_2, z31_3, y31_0, y31_1, y31_2, y31_3⟩ := y4 BK354; go_wp2; go_meet
             case rel => exact ⟨_, (decide (a0_2 < 0)), eS, H', ⟨by have := HJ1.out; have := HJ6.out; first | omega | exact Nat.le_refl _⟩, ⟨bD BK354⟩, ⟨bB⟩⟩
            ·rw [if_neg c30] at H
             have c30b0 := beq_eq_false_iff_ne.mpr c30; have c30b1 := bne_iff_ne.mpr c30; have H' := am H; clear H; obtain ⟨z32_0, z32_1, z32_2, z32_3, y32_0, y32_1, y32_2, y32_3⟩ := y4 BK354; go_wp2; go_meet
             case rel => exact ⟨_, (false), eS, H', ⟨by have := HJ1.out; have := HJ6.out; first | omega | exact Nat.le_refl _⟩, ⟨bD BK354⟩, ⟨bB⟩⟩
           ·replace c29 := Bool.eq_false_iff.mpr c29
            subst c29; rw [if_neg (show ¬ (false = true) by decide)] at H
            by_cases c33 : a0_2 = 0
            ·rw [if_pos c33] at H
             have c33b0 := beq_iff_eq.mpr c33; have c33b1 := bne_eq_false_iff_eq.mpr c33; clear c33
             by_cases c34 : a0_0 = 2
             ·rw [if_pos c34] at H
              have c34b0 := beq_iff_eq.mpr c34; have c34b1 := bne_eq_false_iff_eq.mpr c34; clear c34; have H' := am H; clear H; obtain ⟨z35_0, z35_1, z35_2, z35_3, y35_0, y35_1, y35_2, y35_3⟩ := y4 BK354; go_wp2; go_meet
              case rel => exact ⟨_, (decide (a0_2 < 0)), eS, H', ⟨by have := HJ1.out; have := HJ6.out; first | omega | exact Nat.le_refl _⟩, ⟨bD BK354⟩, ⟨bB⟩⟩
             ·rw [if_neg c34] at H
              have c34b0 := beq_eq_false_iff_ne.mpr c34; have c34b1 := bne_iff_ne.mpr c34; have H' := am H; clear H; obtain ⟨z36_0, z36_1, z36_2, z36_3, y36_0, y36_1, y36_2, y36_3⟩ := y4 BK354; go_wp2; go_meet
              case rel => exact ⟨_, (false), eS, H', ⟨by have := HJ1.out; have := HJ6.out; first | omega | exact Nat.le_refl _⟩, ⟨bD BK354⟩, ⟨bB⟩⟩
            ·rw [if_neg c33] at H
             have c33b0 := beq_eq_false_iff_ne.mpr c33; have c33b1 := bne_iff_ne.mpr c33; have H' := am H; clear H; obtain ⟨z37_0, z37_1, z37_2, z37_3, y37_0, y37_1, y37_2, y37_3⟩ := y4 BK354; go_wp2; go_meet
             case rel => exact ⟨_, (true), eS, H', ⟨by have := HJ1.out; have := HJ6.out; first | omega | exact Nat.le_refl _⟩, ⟨bD BK354⟩, ⟨bB⟩⟩
          ·rw [if_neg c28] at H
           have c28b0 := beq_eq_false_iff_ne.mpr c28; have c28b1 := bne_iff_ne.mpr c28; have H' := am H; clear H; obtain ⟨z38_0, z38_1, z38_2, z38_3, y38_0, y38_1, y38_2, y38_3⟩ := y4 BK354; go_wp2; go_meet
           case rel => exact ⟨_, (true), eS, H', ⟨by have := HJ1.out; have := HJ6.out; first | omega | exact Nat.le_refl _⟩, ⟨bD BK354⟩, ⟨bB⟩⟩
      case rest =>
       clear HC13; (try clear c1); (try clear c2); (try clear p2); (try clear c3); (try clear c4); (try clear c4b0); (try clear c4b1); (try clear c6); (try clear c8); (try clear c8b0); (try clear c8b1); (try clear c10); (try clear c10b0); (try clear c10b1); (try clear c14); (try clear c14b0); (try clear c16); (try clear c16b0); (try clear c18); (try clear c19); (try clear c20); (try clear c20b0); (try clear c20b1); (try clear c23); (try clear c23b0); (try clear c23b1); (try clear c24); (try clear c24b0); (try clear c24b1); (try clear c28); (try clear c28b0); (try clear c28b1); (try clear c29); (try clear c30); (try clear c30b0); (try clear c30b1); (try clear c33); (try clear c33b0); (try clear c33b1); (try clear c34); (try clear c34b0); (try clear c34b1); (try clear z11_0 z11_1 z11_2 z11_3); (try clear z12_0 z12_1 z12_2 z12_3); (try clear z15_0 z15_1 z15_2 z15_3); (try clear z17_0 z17_1 z17_2 z17_3); (try clear z21_0 z21_1 z21_2 z21_3); (try clear z22_0 z22_1 z22_2 z22_3); (try clear z25_0 z25_1 z25_2 z25_3); try clear z26_0 z26_1 z26_2 z26_3
       (try clear z27_0 z27_1 z27_2 z27_3); (try clear z31_0 z31_1 z31_2 z31_3); (try clear z32_0 z32_1 z32_2 z32_3); (try clear z35_0 z35_1 z35_2 z35_3); (try clear z36_0 z36_1 z36_2 z36_3); (try clear z37_0 z37_1 z37_2 z37_3); (try clear z38_0 z38_1 z38_2 z38_3); (try clear z5_0 z5_1 z5_2 z5_3); (try clear z6_0 z6_1 z6_2 z6_3); (try clear z9_0 z9_1 z9_2 z9_3); (try clear y11_0 y11_1 y11_2 y11_3); (try clear y12_0 y12_1 y12_2 y12_3); (try clear y15_0 y15_1 y15_2 y15_3); (try clear y17_0 y17_1 y17_2 y17_3); (try clear y21_0 y21_1 y21_2 y21_3); (try clear y22_0 y22_1 y22_2 y22_3); (try clear y25_0 y25_1 y25_2 y25_3); (try clear y26_0 y26_1 y26_2 y26_3); (try clear y27_0 y27_1 y27_2 y27_3); (try clear y31_0 y31_1 y31_2 y31_3); (try clear y32_0 y32_1 y32_2 y32_3); (try clear y35_0 y35_1 y35_2 y35_3); try clear y36_0 y36_1 y36_2 y36_3
       (try clear y37_0 y37_1 y37_2 y37_3); (try clear y38_0 y38_1 y38_2 y38_3); (try clear y5_0 y5_1 y5_2 y5_3); (try clear y6_0 y6_1 y6_2 y6_3); (try clear y9_0 y9_1 y9_2 y9_3); (try clear p2); obtain ⟨kq, x64_12, rfl, HA, HJ12, BK354, HB⟩ := hcut
       cases kq with
       | zero => exact absurd HA.out (by simp [sequiturref08_termParts.j2])
       | succ kj12 =>
        have H := HA.out; clear HA; simp only [sequiturref08_termParts.j2] at H
        by_cases c39 : x64_12 = true
        ·subst c39
         rw [if_pos rfl] at H; obtain rfl := Option.some.inj H; go_wp2; go_ret; exact ⟨eW, bB⟩
        ·replace c39 := Bool.eq_false_iff.mpr c39
         subst c39; rw [if_neg (show ¬ (false = true) by decide)] at H; have HC40 := am H; clear H; obtain ⟨z41_0, z41_1, z41_2, z41_3, y41_0, y41_1, y41_2, y41_3⟩ := y4 BK354
         go_upto_block 0 with (fail)
         go_cut [5] (fun v5 wc => ∃ (kq : Nat) (x5_39 : Int), v5 = .int .i64 x5_39 ∧ Aside0 (sequiturref08_termParts.j5 kq x5_39 a0_0 a0_1 a0_2 l0_3 = some r) ∧ Aside0 (kq ≤ kj12) ∧ Aside0 (wc.heap[gb354]? = some (.cells #[.int .i64 a0_0, .string a0_1, .int .i64 a0_2, (.slice A0_3 l0_3.length c0_3)] 53 (0, 0))) ∧ Aside0 (Below w.heap.size w wc))
         case first =>
          have H := HC40.out; clear HC40; have HC42 := am H; clear H
          go_upto_if 67 with (fail)
          go_cut [67] (fun v67 wc => ∃ (kq : Nat) (x67_41 : Bool), v67 = .bool x67_41 ∧ Aside0 (sequiturref08_termParts.j3 kq 0 a0_0 x67_41 a0_0 a0_1 a0_2 l0_3 = some r) ∧ Aside0 (kq ≤ kj12) ∧ Aside0 (wc.heap[gb354]? = some (.cells #[.int .i64 a0_0, .string a0_1, .int .i64 a0_2, (.slice A0_3 l0_3.length c0_3)] 53 (0, 0))) ∧ Aside0 (Below w.heap.size w wc))
          case first =>
           have H := HC42.out; clear HC42
           by_cases c43 : a0_0 = 5
           ·rw [if_pos c43] at H
            have c43b0 := beq_iff_eq.mpr c43; have c43b1 := bne_eq_false_iff_eq.mpr c43; clear c43; (first | rw [c43b0] | (simp only [i64_w, i32_w]; rw [c43b0]) | skip); have H' := am H; clear H; go_wp2; go_meet
            case rel => exact ⟨_, ((a0_0 == 5)), eS, H', ⟨by have := HJ1.out; have := HJ6.out; have := HJ12.out; first | omega | exact Nat.le_refl _⟩, ⟨bD BK354⟩, ⟨bB⟩⟩
           ·rw [if_neg c43] at H
            have c43b0 := beq_eq_false_iff_ne.mpr c43; have c43b1 := bne_iff_ne.mpr c43; (first | rw [c43b0] | (simp only [i64_w, i32_w]; rw [c43b0]) | skip); have H' := am H; clear H; go_wp2; go_meet
            case rel => exact ⟨_, ((a0_0 == 6)), eS, H', ⟨by have := HJ1.out; have := HJ6.out; have := HJ12.out; first | omega | exact Nat.le_refl _⟩, ⟨bD BK354⟩, ⟨bB⟩⟩
          case rest =>
           clear HC42; (try clear c1); (try clear c2); (try clear p2); (try clear c3); (try clear c4); (try clear c4b0); (try clear c4b1); (try clear c6); (try clear c8); (try clear c8b0); (try clear c8b1); (try clear c10); (try clear c10b0); (try clear c10b1); (try clear c14); (try clear c14b0); (try clear c16); (try clear c16b0); (try clear c18); (try clear c19); (try clear c20); (try clear c20b0); (try clear c20b1); (try clear c23); (try clear c23b0); (try clear c23b1); (try clear c24); (try clear c24b0); (try clear c24b1); (try clear c28); (try clear c28b0); (try clear c28b1); (try clear c29); (try clear c30); (try clear c30b0); (try clear c30b1); (try clear c33); (try clear c33b0); (try clear c33b1); (try clear c34); (try clear c34b0); (try clear c34b1); (try clear c39); (try clear c43); (try clear c43b0); (try clear c43b1); (try clear z11_0 z11_1 z11_2 z11_3); (try clear z12_0 z12_1 z12_2 z12_3); (try clear z15_0 z15_1 z15_2 z15_3); (try clear z17_0 z17_1 z17_2 z17_3); (try clear z21_0 z21_1 z21_2 z21_3); (try clear z22_0 z22_1 z22_2 z22_3); try clear z25_0 z25_1 z25_2 z25_3
           (try clear z26_0 z26_1 z26_2 z26_3); (try clear z27_0 z27_1 z27_2 z27_3); (try clear z31_0 z31_1 z31_2 z31_3); (try clear z32_0 z32_1 z32_2 z32_3); (try clear z35_0 z35_1 z35_2 z35_3); (try clear z36_0 z36_1 z36_2 z36_3); (try clear z37_0 z37_1 z37_2 z37_3); (try clear z38_0 z38_1 z38_2 z38_3); (try clear z41_0 z41_1 z41_2 z41_3); (try clear z5_0 z5_1 z5_2 z5_3); (try clear z6_0 z6_1 z6_2 z6_3); (try clear z9_0 z9_1 z9_2 z9_3); (try clear y11_0 y11_1 y11_2 y11_3); (try clear y12_0 y12_1 y12_2 y12_3); (try clear y15_0 y15_1 y15_2 y15_3); (try clear y17_0 y17_1 y17_2 y17_3); (try clear y21_0 y21_1 y21_2 y21_3); (try clear y22_0 y22_1 y22_2 y22_3); (try clear y25_0 y25_1 y25_2 y25_3); (try clear y26_0 y26_1 y26_2 y26_3); (try clear y27_0 y27_1 y27_2 y27_3); (try clear y31_0 y31_1 y31_2 y31_3); try clear y32_0 y32_1 y32_2 y32_3
           (try clear y35_0 y35_1 y35_2 y35_3); (try clear y36_0 y36_1 y36_2 y36_3); (try clear y37_0 y37_1 y37_2 y37_3); (try clear y38_0 y38_1 y38_2 y38_3); (try clear y41_0 y41_1 y41_2 y41_3); (try clear y5_0 y5_1 y5_2 y5_3); (try clear y6_0 y6_1 y6_2 y6_3); (try clear y9_0 y9_1 y9_2 y9_3); (try clear p2); obtain ⟨kq, x67_41, rfl, HA, HJ41, BK354, HB⟩ := hcut
           cases kq with
           | zero => exact absurd HA.out (by simp [sequiturref08_termParts.j3])
           | succ kj41 =>
            have H := HA.out; clear HA; simp only [sequiturref08_termParts.j3] at H
            by_cases c44 : x67_41 = true
            ·subst c44
             rw [if_pos rfl] at H; have H' := am H; clear H; go_wp2; go_meet
             case rel => exact ⟨_, (2), eS, H', ⟨by have := HJ1.out; have := HJ6.out; have := HJ12.out; have := HJ41.out; first | omega | exact Nat.le_refl _⟩, ⟨bD BK354⟩, ⟨bB⟩⟩
            ·replace c44 := Bool.eq_false_iff.mpr c44
             subst c44; rw [if_neg (show ¬ (false = true) by decide)] at H; have HC45 := am H; clear H
             go_upto_if 70 with (fail)
             go_cut [70] (fun v70 wc => ∃ (kq : Nat) (x70_44 : Bool), v70 = .bool x70_44 ∧ Aside0 (sequiturref08_termParts.j4 kq 0 x70_44 a0_0 a0_1 a0_2 l0_3 = some r) ∧ Aside0 (kq ≤ kj41) ∧ Aside0 (wc.heap[gb354]? = some (.cells #[.int .i64 a0_0, .string a0_1, .int .i64 a0_2, (.slice A0_3 l0_3.length c0_3)] 53 (0, 0))) ∧ Aside0 (Below w.heap.size w wc))
             case first =>
              have H := HC45.out; clear HC45
              by_cases c46 : a0_0 = 7
              ·rw [if_pos c46] at H
               have c46b0 := beq_iff_eq.mpr c46; have c46b1 := bne_eq_false_iff_eq.mpr c46; clear c46; (first | rw [c46b0] | (simp only [i64_w, i32_w]; rw [c46b0]) | skip); have H' := am H; clear H; go_wp2; go_meet
               case rel => exact ⟨_, ((a0_0 == 7)), eS, H', ⟨by have := HJ1.out; have := HJ6.out; have := HJ12.out; have := HJ41.out; first | omega | exact Nat.le_refl _⟩, ⟨bD BK354⟩, ⟨bB⟩⟩
              ·rw [if_neg c46] at H
               have c46b0 := beq_eq_false_iff_ne.mpr c46; have c46b1 := bne_iff_ne.mpr c46; (first | rw [c46b0] | (simp only [i64_w, i32_w]; rw [c46b0]) | skip); have H' := am H; clear H; go_wp2; go_meet
               case rel => exact ⟨_, ((a0_0 == 8)), eS, H', ⟨by have := HJ1.out; have := HJ6.out; have := HJ12.out; have := HJ41.out; first | omega | exact Nat.le_refl _⟩, ⟨bD BK354⟩, ⟨bB⟩⟩
             case rest =>
              clear HC45; (try clear c1); (try clear c2); (try clear p2); (try clear c3); (try clear c4); (try clear c4b0); (try clear c4b1); (try clear c6); (try clear c8); (try clear c8b0); (try clear c8b1); (try clear c10); (try clear c10b0); (try clear c10b1); (try clear c14); (try clear c14b0); (try clear c16); (try clear c16b0); (try clear c18); (try clear c19); (try clear c20); (try clear c20b0); (try clear c20b1); (try clear c23); (try clear c23b0); (try clear c23b1); (try clear c24); (try clear c24b0); (try clear c24b1); (try clear c28); (try clear c28b0); (try clear c28b1); (try clear c29); (try clear c30); (try clear c30b0); (try clear c30b1); (try clear c33); (try clear c33b0); (try clear c33b1); (try clear c34); (try clear c34b0); (try clear c34b1); (try clear c39); (try clear c43); (try clear c43b0); (try clear c43b1); (try clear c44); (try clear c46); (try clear c46b0); (try clear c46b1); (try clear z11_0 z11_1 z11_2 z11_3); (try clear z12_0 z12_1 z12_2 z12_3); (try clear z15_0 z15_1 z15_2 z15_3); (try clear z17_0 z17_1 z17_2 z17_3); try clear z21_0 z21_1 z21_2 z21_3
              (try clear z22_0 z22_1 z22_2 z22_3); (try clear z25_0 z25_1 z25_2 z25_3); (try clear z26_0 z26_1 z26_2 z26_3); (try clear z27_0 z27_1 z27_2 z27_3); (try clear z31_0 z31_1 z31_2 z31_3); (try clear z32_0 z32_1 z32_2 z32_3); (try clear z35_0 z35_1 z35_2 z35_3); (try clear z36_0 z36_1 z36_2 z36_3); (try clear z37_0 z37_1 z37_2 z37_3); (try clear z38_0 z38_1 z38_2 z38_3); (try clear z41_0 z41_1 z41_2 z41_3); (try clear z5_0 z5_1 z5_2 z5_3); (try clear z6_0 z6_1 z6_2 z6_3); (try clear z9_0 z9_1 z9_2 z9_3); (try clear y11_0 y11_1 y11_2 y11_3); (try clear y12_0 y12_1 y12_2 y12_3); (try clear y15_0 y15_1 y15_2 y15_3); (try clear y17_0 y17_1 y17_2 y17_3); (try clear y21_0 y21_1 y21_2 y21_3); (try clear y22_0 y22_1 y22_2 y22_3); (try clear y25_0 y25_1 y25_2 y25_3); (try clear y26_0 y26_1 y26_2 y26_3); try clear y27_0 y27_1 y27_2 y27_3
              (try clear y31_0 y31_1 y31_2 y31_3); (try clear y32_0 y32_1 y32_2 y32_3); (try clear y35_0 y35_1 y35_2 y35_3); (try clear y36_0 y36_1 y36_2 y36_3); (try clear y37_0 y37_1 y37_2 y37_3); (try clear y38_0 y38_1 y38_2 y38_3); (try clear y41_0 y41_1 y41_2 y41_3); (try clear y5_0 y5_1 y5_2 y5_3); (try clear y6_0 y6_1 y6_2 y6_3); (try clear y9_0 y9_1 y9_2 y9_3); (try clear p2); obtain ⟨kq, x70_44, rfl, HA, HJ44, BK354, HB⟩ := hcut
              cases kq with
              | zero => exact absurd HA.out (by simp [sequiturref08_termParts.j4])
              | succ kj44 =>
               have H := HA.out; clear HA; simp only [sequiturref08_termParts.j4] at H
               by_cases c47 : x70_44 = true
               ·subst c47
                rw [if_pos rfl] at H; have H' := am H; clear H; go_wp2; go_meet
                case rel => exact ⟨_, (1), eS, H', ⟨by have := HJ1.out; have := HJ6.out; have := HJ12.out; have := HJ41.out; have := HJ44.out; first | omega | exact Nat.le_refl _⟩, ⟨bD BK354⟩, ⟨bB⟩⟩
               ·replace c47 := Bool.eq_false_iff.mpr c47
                subst c47; rw [if_neg (show ¬ (false = true) by decide)] at H; have H' := am H; clear H; go_wp2; go_meet
                case rel => exact ⟨_, (0), eS, H', ⟨by have := HJ1.out; have := HJ6.out; have := HJ12.out; have := HJ41.out; have := HJ44.out; first | omega | exact Nat.le_refl _⟩, ⟨bD BK354⟩, ⟨bB⟩⟩
         case rest =>
          clear HC40; (try clear c1); (try clear c2); (try clear p2); (try clear c3); (try clear c4); (try clear c4b0); (try clear c4b1); (try clear c6); (try clear c8); (try clear c8b0); (try clear c8b1); (try clear c10); (try clear c10b0); (try clear c10b1); (try clear c14); (try clear c14b0); (try clear c16); (try clear c16b0); (try clear c18); (try clear c19); (try clear c20); (try clear c20b0); (try clear c20b1); (try clear c23); (try clear c23b0); (try clear c23b1); (try clear c24); (try clear c24b0); (try clear c24b1); (try clear c28); (try clear c28b0); (try clear c28b1); (try clear c29); (try clear c30); (try clear c30b0); (try clear c30b1); (try clear c33); (try clear c33b0); (try clear c33b1); (try clear c34); (try clear c34b0); (try clear c34b1); (try clear c39); (try clear c43); (try clear c43b0); (try clear c43b1); (try clear c44); (try clear c46); (try clear c46b0); (try clear c46b1); (try clear c47); (try clear z11_0 z11_1 z11_2 z11_3); (try clear z12_0 z12_1 z12_2 z12_3); (try clear z15_0 z15_1 z15_2 z15_3); (try clear z17_0 z17_1 z17_2 z17_3); try clear z21_0 z21_1 z21_2 z21_3
          (try clear z22_0 z22_1 z22_2 z22_3); (try clear z25_0 z25_1 z25_2 z25_3); (try clear z26_0 z26_1 z26_2 z26_3); (try clear z27_0 z27_1 z27_2 z27_3); (try clear z31_0 z31_1 z31_2 z31_3); (try clear z32_0 z32_1 z32_2 z32_3); (try clear z35_0 z35_1 z35_2 z35_3); (try clear z36_0 z36_1 z36_2 z36_3); (try clear z37_0 z37_1 z37_2 z37_3); (try clear z38_0 z38_1 z38_2 z38_3); (try clear z41_0 z41_1 z41_2 z41_3); (try clear z5_0 z5_1 z5_2 z5_3); (try clear z6_0 z6_1 z6_2 z6_3); (try clear z9_0 z9_1 z9_2 z9_3); (try clear y11_0 y11_1 y11_2 y11_3); (try clear y12_0 y12_1 y12_2 y12_3); (try clear y15_0 y15_1 y15_2 y15_3); (try clear y17_0 y17_1 y17_2 y17_3); (try clear y21_0 y21_1 y21_2 y21_3); (try clear y22_0 y22_1 y22_2 y22_3); (try clear y25_0 y25_1 y25_2 y25_3); (try clear y26_0 y26_1 y26_2 y26_3); try clear y27_0 y27_1 y27_2 y27_3
          (try clear y31_0 y31_1 y31_2 y31_3); (try clear y32_0 y32_1 y32_2 y32_3); (try clear y35_0 y35_1 y35_2 y35_3); (try clear y36_0 y36_1 y36_2 y36_3); (try clear y37_0 y37_1 y37_2 y37_3); (try clear y38_0 y38_1 y38_2 y38_3); (try clear y41_0 y41_1 y41_2 y41_3); (try clear y5_0 y5_1 y5_2 y5_3); (try clear y6_0 y6_1 y6_2 y6_3); (try clear y9_0 y9_1 y9_2 y9_3); (try clear p2); obtain ⟨kq, x5_39, rfl, HA, HJ39, BK354, HB⟩ := hcut
          cases kq with
          | zero => exact absurd HA.out (by simp [sequiturref08_termParts.j5])
          | succ kj39 =>
           have H := HA.out; clear HA; simp only [sequiturref08_termParts.j5] at H; have HC48 := am H; clear H
           go_upto_region 13 with (fail)
           go_cut [93] (fun v93 wc => ∃ (kq : Nat) (x93_47 : Bool), v93 = .bool x93_47 ∧ Aside0 (sequiturref08_termParts.j6 kq x93_47 a0_0 a0_1 a0_2 l0_3 = some r) ∧ Aside0 (kq ≤ kj39) ∧ Aside0 (wc.heap[gb354]? = some (.cells #[.int .i64 a0_0, .string a0_1, .int .i64 a0_2, (.slice A0_3 l0_3.length c0_3)] 53 (0, 0))) ∧ Aside0 (Below w.heap.size w wc))
           case first =>
            have H := HC48.out; clear HC48
            by_cases c49 : a0_0 = 3
            ·rw [if_pos c49] at H
             have c49b0 := beq_iff_eq.mpr c49; have c49b1 := bne_eq_false_iff_eq.mpr c49; clear c49; (first | rw [c49b0] | (simp only [i64_w, i32_w]; rw [c49b0]) | skip)
             by_cases c50 : (l0_3.length : Int) > 8
             ·rw [if_pos c50] at H
              have c50b0 : decide (8 < (l0_3.length : Int)) = true := decide_eq_true c50; have c50b1 : decide (8 < l0_3.length) = true := decide_eq_true (by omega); clear c50; have H' := am H; clear H; obtain ⟨z51_0, z51_1, z51_2, z51_3, y51_0, y51_1, y51_2, y51_3⟩ := y4 BK354; go_wp2; go_meet
              case rel => exact ⟨_, (true), eS, H', ⟨by have := HJ1.out; have := HJ6.out; have := HJ12.out; have := HJ39.out; first | omega | exact Nat.le_refl _⟩, ⟨bD BK354⟩, ⟨bB⟩⟩
             ·rw [if_neg c50] at H
              have c50b0 : decide (8 < (l0_3.length : Int)) = false := decide_eq_false c50; have c50b1 : decide (8 < l0_3.length) = false := decide_eq_false (by omega); clear c50; have H' := am H; clear H; obtain ⟨z52_0, z52_1, z52_2, z52_3, y52_0, y52_1, y52_2, y52_3⟩ := y4 BK354; go_wp2; go_meet
              case rel => exact ⟨_, (false), eS, H', ⟨by have := HJ1.out; have := HJ6.out; have := HJ12.out; have := HJ39.out; first | omega | exact Nat.le_refl _⟩, ⟨bD BK354⟩, ⟨bB⟩⟩
            ·rw [if_neg c49] at H
             have c49b0 := beq_eq_false_iff_ne.mpr c49; have c49b1 := bne_iff_ne.mpr c49; (first | rw [c49b0] | (simp only [i64_w, i32_w]; rw [c49b0]) | skip); have H' := am H; clear H; obtain ⟨z53_0, z53_1, z53_2, z53_3, y53_0, y53_1, y53_2, y53_3⟩ := y4 BK354; go_wp2; go_meet
             case rel => exact ⟨_, (((l0_3.length : Int) != x5_39)), eS, H', ⟨by have := HJ1.out; have := HJ6.out; have := HJ12.out; have := HJ39.out; first | omega | exact Nat.le_refl _⟩, ⟨bD BK354⟩, ⟨bB⟩⟩
           case rest =>
            clear HC48; (try clear c1); (try clear c2); (try clear p2); (try clear c3); (try clear c4); (try clear c4b0); (try clear c4b1); (try clear c5); (try clear c6); (try clear c8); (try clear c8b0); (try clear c8b1); (try clear c10); (try clear c10b0); (try clear c10b1); (try clear c14); (try clear c14b0); (try clear c16); (try clear c16b0); (try clear c18); (try clear c19); (try clear c20); (try clear c20b0); (try clear c20b1); (try clear c23); (try clear c23b0); (try clear c23b1); (try clear c24); (try clear c24b0); (try clear c24b1); (try clear c28); (try clear c28b0); (try clear c28b1); (try clear c29); (try clear c30); (try clear c30b0); (try clear c30b1); (try clear c33); (try clear c33b0); (try clear c33b1); (try clear c34); (try clear c34b0); (try clear c34b1); (try clear c39); (try clear c43); (try clear c43b0); (try clear c43b1); (try clear c44); (try clear c46); (try clear c46b0); (try clear c46b1); (try clear c47); (try clear c49); (try clear c49b0); (try clear c49b1); (try clear c50); (try clear c50b0); (try clear c50b1); (try clear z11_0 z11_1 z11_2 z11_3); (try clear z12_0 z12_1 z12_2 z12_3); try clear z15_0 z15_1 z15_2 z15_3
            (try clear z17_0 z17_1 z17_2 z17_3); (try clear z21_0 z21_1 z21_2 z21_3); (try clear z22_0 z22_1 z22_2 z22_3); (try clear z25_0 z25_1 z25_2 z25_3); (try clear z26_0 z26_1 z26_2 z26_3); (try clear z27_0 z27_1 z27_2 z27_3); (try clear z31_0 z31_1 z31_2 z31_3); (try clear z32_0 z32_1 z32_2 z32_3); (try clear z35_0 z35_1 z35_2 z35_3); (try clear z36_0 z36_1 z36_2 z36_3); (try clear z37_0 z37_1 z37_2 z37_3); (try clear z38_0 z38_1 z38_2 z38_3); (try clear z41_0 z41_1 z41_2 z41_3); (try clear z51_0 z51_1 z51_2 z51_3); (try clear z52_0 z52_1 z52_2 z52_3); (try clear z53_0 z53_1 z53_2 z53_3); (try clear z5_0 z5_1 z5_2 z5_3); (try clear z6_0 z6_1 z6_2 z6_3); (try clear z9_0 z9_1 z9_2 z9_3); (try clear y11_0 y11_1 y11_2 y11_3); (try clear y12_0 y12_1 y12_2 y12_3); (try clear y15_0 y15_1 y15_2 y15_3); try clear y17_0 y17_1 y17_2 y17_3
            (try clear y21_0 y21_1 y21_2 y21_3); (try clear y22_0 y22_1 y22_2 y22_3); (try clear y25_0 y25_1 y25_2 y25_3); (try clear y26_0 y26_1 y26_2 y26_3); (try clear y27_0 y27_1 y27_2 y27_3); (try clear y31_0 y31_1 y31_2 y31_3); (try clear y32_0 y32_1 y32_2 y32_3); (try clear y35_0 y35_1 y35_2 y35_3); (try clear y36_0 y36_1 y36_2 y36_3); (try clear y37_0 y37_1 y37_2 y37_3); (try clear y38_0 y38_1 y38_2 y38_3); (try clear y41_0 y41_1 y41_2 y41_3); (try clear y51_0 y51_1 y51_2 y51_3); (try clear y52_0 y52_1 y52_2 y52_3); (try clear y53_0 y53_1 y53_2 y53_3); (try clear y5_0 y5_1 y5_2 y5_3); (try clear y6_0 y6_1 y6_2 y6_3); (try clear y9_0 y9_1 y9_2 y9_3); (try clear p2); obtain ⟨kq, x93_47, rfl, HA, HJ47, BK354, HB⟩ := hcut
            cases kq with
            | zero => exact absurd HA.out (by simp [sequiturref08_termParts.j6])
            | succ kj47 =>
             have H := HA.out; clear HA; simp only [sequiturref08_termParts.j6] at H
             by_cases c54 : x93_47 = true
             ·subst c54
              rw [if_pos rfl] at H; obtain rfl := Option.some.inj H; go_wp2; go_ret; exact ⟨eW, bB⟩
             ·replace c54 := Bool.eq_false_iff.mpr c54
              subst c54; rw [if_neg (show ¬ (false = true) by decide)] at H; have H' := am H; clear H; go_wp2
              go_loopg [6] kj47 (fun kq v6 w' => ∃ (x6_6 : Int), v6 = .int .i64 x6_6 ∧ Aside0 (sequiturref08_termParts.l0 kq x6_6 a0_0 a0_1 a0_2 l0_3 = some r) ∧ Aside0 (kq ≤ kj47) ∧ Aside0 (w'.heap[gb354]? = some (.cells #[.int .i64 a0_0, .string a0_1, .int .i64 a0_2, (.slice A0_3 l0_3.length c0_3)] 53 (0, 0))) ∧ Aside0 (Below w.heap.size w w'))
              case atStart => exact ⟨(0), eS, H', ⟨Nat.le_refl _⟩, ⟨bD BK354⟩, ⟨bB⟩⟩
              case round =>
               clear H'; (try clear c1); (try clear c2); (try clear p2); (try clear c3); (try clear c4); (try clear c4b0); (try clear c4b1); (try clear c5); (try clear c6); (try clear c8); (try clear c8b0); (try clear c8b1); (try clear c10); (try clear c10b0); (try clear c10b1); (try clear c14); (try clear c14b0); (try clear c16); (try clear c16b0); (try clear c18); (try clear c19); (try clear c20); (try clear c20b0); (try clear c20b1); (try clear c23); (try clear c23b0); (try clear c23b1); (try clear c24); (try clear c24b0); (try clear c24b1); (try clear c28); (try clear c28b0); (try clear c28b1); (try clear c29); (try clear c30); (try clear c30b0); (try clear c30b1); (try clear c33); (try clear c33b0); (try clear c33b1); (try clear c34); (try clear c34b0); (try clear c34b1); (try clear c39); (try clear c43); (try clear c43b0); (try clear c43b1); (try clear c44); (try clear c46); (try clear c46b0); (try clear c46b1); (try clear c47); (try clear c49); (try clear c49b0); (try clear c49b1); (try clear c50); (try clear c50b0); (try clear c50b1); (try clear c54); (try clear z11_0 z11_1 z11_2 z11_3); try clear z12_0 z12_1 z12_2 z12_3
               (try clear z15_0 z15_1 z15_2 z15_3); (try clear z17_0 z17_1 z17_2 z17_3); (try clear z21_0 z21_1 z21_2 z21_3); (try clear z22_0 z22_1 z22_2 z22_3); (try clear z25_0 z25_1 z25_2 z25_3); (try clear z26_0 z26_1 z26_2 z26_3); (try clear z27_0 z27_1 z27_2 z27_3); (try clear z31_0 z31_1 z31_2 z31_3); (try clear z32_0 z32_1 z32_2 z32_3); (try clear z35_0 z35_1 z35_2 z35_3); (try clear z36_0 z36_1 z36_2 z36_3); (try clear z37_0 z37_1 z37_2 z37_3); (try clear z38_0 z38_1 z38_2 z38_3); (try clear z41_0 z41_1 z41_2 z41_3); (try clear z51_0 z51_1 z51_2 z51_3); (try clear z52_0 z52_1 z52_2 z52_3); (try clear z53_0 z53_1 z53_2 z53_3); (try clear z5_0 z5_1 z5_2 z5_3); (try clear z6_0 z6_1 z6_2 z6_3); (try clear z9_0 z9_1 z9_2 z9_3); (try clear y11_0 y11_1 y11_2 y11_3); (try clear y12_0 y12_1 y12_2 y12_3); try clear y15_0 y15_1 y15_2 y15_3
               (try clear y17_0 y17_1 y17_2 y17_3); (try clear y21_0 y21_1 y21_2 y21_3); (try clear y22_0 y22_1 y22_2 y22_3); (try clear y25_0 y25_1 y25_2 y25_3); (try clear y26_0 y26_1 y26_2 y26_3); (try clear y27_0 y27_1 y27_2 y27_3); (try clear y31_0 y31_1 y31_2 y31_3); (try clear y32_0 y32_1 y32_2 y32_3); (try clear y35_0 y35_1 y35_2 y35_3); (try clear y36_0 y36_1 y36_2 y36_3); (try clear y37_0 y37_1 y37_2 y37_3); (try clear y38_0 y38_1 y38_2 y38_3); (try clear y41_0 y41_1 y41_2 y41_3); (try clear y51_0 y51_1 y51_2 y51_3); (try clear y52_0 y52_1 y52_2 y52_3); (try clear y53_0 y53_1 y53_2 y53_3); (try clear y5_0 y5_1 y5_2 y5_3); (try clear y6_0 y6_1 y6_2 y6_3); (try clear y9_0 y9_1 y9_2 y9_3); (try clear p2); obtain ⟨x6_6, rfl, HA, HK6, BK354, HB⟩ := hrel
               cases gk with
               | zero => exact absurd HA.out (by simp [sequiturref08_termParts.l0])
               | succ k6 =>
                have H := HA.out; clear HA; simp only [sequiturref08_termParts.l0] at H
                by_cases c55 : x6_6 < (l0_3.length : Int)
                ·rw [if_pos c55] at H
                 have c55b0 : decide (x6_6 < (l0_3.length : Int)) = true := decide_eq_true c55; clear c55
                 by_cases c56 : 0 ≤ x6_6
                 ·rw [if_pos c56] at H
                  have c56b0 : decide (0 ≤ x6_6) = true := decide_eq_true c56; clear c56; obtain ⟨t356, A57, H⟩ := bO H
                  by_cases c58 : t356 = 0
                  ·rw [if_pos c58] at H
                   have c58b0 := beq_iff_eq.mpr c58; have c58b1 := bne_eq_false_iff_eq.mpr c58; clear c58; have H' := am H; clear H; obtain ⟨z59_0, z59_1, z59_2, z59_3, y59_0, y59_1, y59_2, y59_3⟩ := y4 BK354; have p355 : 0 ≤ (x6_6 : Int) := of_decide_eq_true eA; have q355 : x6_6 < (l0_3.length : Int) := of_decide_eq_true eA; obtain ⟨ad355, A355_3, c355_3, e355, hx355_0, hx355_1, hx355_2, hx355_3, hl355_3, hi355_3⟩ := at_T53 HR0_3.out x6_6 p355 q355
                   cases e355
                   replace hx355_0 := cX HB hx355_0; replace hx355_1 := cX HB hx355_1; replace hx355_2 := cX HB hx355_2; replace hx355_3 := cX HB hx355_3; have HR355_3 := am hi355_3; have HC355_3 := am hl355_3; clear hi355_3 hl355_3; replace p355 := eq_true p355; replace q355 := eq_true q355
                   go_wp2_with (first | ((with_reducible refine gate_callee (f := 64) rfl ?_); refine gL 106 Tryd.func64 #[.agg #[.int .i64 ((rd_T53 l0_3 x6_6).f0), .string ((rd_T53 l0_3 x6_6).f1), .int .i64 ((rd_T53 l0_3 x6_6).f2), .slice A355_3 ((rd_T53 l0_3 x6_6).f3).length c355_3]] ?_; (with_reducible refine (ih k6 (by have := HJ1.out; have := HJ6.out; have := HJ12.out; have := HJ39.out; have := HJ47.out; have := HK6.out; omega) ((rd_T53 l0_3 x6_6).f0) ((rd_T53 l0_3 x6_6).f1) ((rd_T53 l0_3 x6_6).f2) _ _ ((rd_T53 l0_3 x6_6).f3) t356 _ ?side1 HC355_3.out A57.out).mono ?_); (case side1 => exact cB HR355_3); rintro e w60 ⟨rfl, hb⟩; refine ⟨_, rfl, ?_⟩; replace BK354 := bK BK354 hb; replace HB := bH hb; clear hb))
                   go_roundg k6
                   case measure => have := HJ1.out; have := HJ6.out; have := HJ12.out; have := HJ39.out; have := HJ47.out; have := HK6.out; omega
                   case rel => exact ⟨(wrap64 (x6_6 + 1)), eS, H', ⟨by have := HJ1.out; have := HJ6.out; have := HJ12.out; have := HJ39.out; have := HJ47.out; have := HK6.out; omega⟩, ⟨bD BK354⟩, ⟨bB⟩⟩
                  ·rw [if_neg c58] at H
                   have c58b0 := beq_eq_false_iff_ne.mpr c58; have c58b1 := bne_iff_ne.mpr c58; obtain rfl := Option.some.inj H; obtain ⟨z61_0, z61_1, z61_2, z61_3, y61_0, y61_1, y61_2, y61_3⟩ := y4 BK354; have p355 : 0 ≤ (x6_6 : Int) := of_decide_eq_true eA; have q355 : x6_6 < (l0_3.length : Int) := of_decide_eq_true eA; obtain ⟨ad355, A355_3, c355_3, e355, hx355_0, hx355_1, hx355_2, hx355_3, hl355_3, hi355_3⟩ := at_T53 HR0_3.out x6_6 p355 q355
                   cases e355
                   replace hx355_0 := cX HB hx355_0; replace hx355_1 := cX HB hx355_1; replace hx355_2 := cX HB hx355_2; replace hx355_3 := cX HB hx355_3; have HR355_3 := am hi355_3; have HC355_3 := am hl355_3; clear hi355_3 hl355_3; replace p355 := eq_true p355; replace q355 := eq_true q355
                   go_wp2_with (first | ((with_reducible refine gate_callee (f := 64) rfl ?_); refine gL 106 Tryd.func64 #[.agg #[.int .i64 ((rd_T53 l0_3 x6_6).f0), .string ((rd_T53 l0_3 x6_6).f1), .int .i64 ((rd_T53 l0_3 x6_6).f2), .slice A355_3 ((rd_T53 l0_3 x6_6).f3).length c355_3]] ?_; (with_reducible refine (ih k6 (by have := HJ1.out; have := HJ6.out; have := HJ12.out; have := HJ39.out; have := HJ47.out; have := HK6.out; omega) ((rd_T53 l0_3 x6_6).f0) ((rd_T53 l0_3 x6_6).f1) ((rd_T53 l0_3 x6_6).f2) _ _ ((rd_T53 l0_3 x6_6).f3) t356 _ ?side1 HC355_3.out A57.out).mono ?_); (case side1 => exact cB HR355_3); rintro e w62 ⟨rfl, hb⟩; refine ⟨_, rfl, ?_⟩; replace BK354 := bK BK354 hb; replace HB := bH hb; clear hb))
                   go_ret; exact ⟨eW, bB⟩
                 ·rw [if_neg c56] at H
                  exact absurd H (by simp)
                ·rw [if_neg c55] at H
                 have c55b0 : decide (x6_6 < (l0_3.length : Int)) = false := decide_eq_false c55; clear c55; obtain rfl := Option.some.inj H; obtain ⟨z63_0, z63_1, z63_2, z63_3, y63_0, y63_1, y63_2, y63_3⟩ := y4 BK354; go_wp2; go_ret; exact ⟨eW, bB⟩
end Go.Proofs.YtmlkllbaehegjaaDoor.PAll
end
section
namespace Go.Proofs.YtmlkllbaehegjaaDoor.PAll
open Go.RowKit Go.Proofs.YtmlkllbaehegjaaDoorW.PrintWords Go.Proofs.YtmlkllbaehegjaaDoorW.PrintLast Go.Proofs.YtmlkllbaehegjaaDoorW.PrintMore
attribute [local go_sem] max2_int min2_int max_two min_two max_three min_three max_four min_four
set_option linter.unusedVariables false
set_option linter.unusedSimpArgs false
/-! ### sequiturref08_TermRight: function 47 -/
def sequiturref08_TermRight.f (k : Nat) (a0_0 : Int) (a0_1 : ByteArray) (a0_2 : Int) (l0_3 : List (S53)) : Option (Int) := (sequiturref08_tall.f k a0_0 a0_1 a0_2 l0_3 65).bind fun t358 => (if t358 > 64 then (some 6) else ((sequiturref08_size.f k a0_0 a0_1 a0_2 l0_3 4096).bind fun t359 => (if t359 > 4096 then (some 2) else ((sequiturref08_termParts.f k a0_0 a0_1 a0_2 l0_3).bind fun t360 => (some t360)))))
set_option maxHeartbeats 8000000 in
set_option maxRecDepth 100000 in
theorem sequiturref08_TermRight.calls (k : Nat) (a0_0 : Int) (a0_1 : ByteArray) (a0_2 : Int) (A0_3 : Option Addr) (c0_3 : Nat) (l0_3 : List (S53)) (r : Int) (w : World) (hr0_3 : Kd.C k53 w A0_3 l0_3.length l0_3) (hc0_3 : l0_3.length ≤ c0_3) (h : sequiturref08_TermRight.f k a0_0 a0_1 a0_2 l0_3 = some r) :
    Calls Tryd.prog 47 #[.agg #[.int .i64 a0_0, .string a0_1, .int .i64 a0_2, .slice A0_3 l0_3.length c0_3]] w fun e w' => e = .returned (.int .i64 r) ∧ Below w.heap.size w w' := by
  have hu53 := Tryd.underlying53; have HR0_3 := am hr0_3; have HC0_3 := am hc0_3; clear hr0_3 hc0_3; have HB := am (Below.refl w.heap.size w); have H := h; unfold sequiturref08_TermRight.f at H; clear h; obtain ⟨t358, A2, H⟩ := bO H
  by_cases c3 : t358 > 64
  ·rw [if_pos c3] at H
   have c3b0 : decide (64 < t358) = true := decide_eq_true c3; clear c3; obtain rfl := Option.some.inj H
   go_enter Tryd.func47, Tryd.ntmps47
   go_wp2_with (first | ((with_reducible refine gate_dst (N := 1) rfl ?_); refine bE 1 #[.int .i64 a0_0, .string a0_1, .int .i64 a0_2, .slice A0_3 l0_3.length c0_3] 53 ?_; intro gb357 w4 BK357 hg hb; have GW357 := bZ hg; have GE357 := bZ hg; replace HB := bH hb; clear hb hg; obtain ⟨z5_0, z5_1, z5_2, z5_3, y5_0, y5_1, y5_2, y5_3⟩ := y4 BK357) | ((with_reducible refine gate_callee (f := 63) rfl ?_); refine gL 4 Tryd.func63 #[.agg #[.int .i64 a0_0, .string a0_1, .int .i64 a0_2, .slice A0_3 l0_3.length c0_3], .int .i64 65] ?_; (with_reducible refine (sequiturref08_tall.calls k a0_0 a0_1 a0_2 _ _ l0_3 65 t358 _ ?side1 HC0_3.out A2.out).mono ?_); (case side1 => exact cB HR0_3); rintro e w6 ⟨rfl, hb⟩; refine ⟨_, rfl, ?_⟩; replace BK357 := bK BK357 hb; replace HB := bH hb; clear hb))
   go_ret; exact ⟨eW, bB⟩
  ·rw [if_neg c3] at H
   have c3b0 : decide (64 < t358) = false := decide_eq_false c3; clear c3; obtain ⟨t359, A7, H⟩ := bO H
   by_cases c8 : t359 > 4096
   ·rw [if_pos c8] at H
    have c8b0 : decide (4096 < t359) = true := decide_eq_true c8; clear c8; obtain rfl := Option.some.inj H
    go_enter Tryd.func47, Tryd.ntmps47
    go_wp2_with (first | ((with_reducible refine gate_dst (N := 1) rfl ?_); refine bE 1 #[.int .i64 a0_0, .string a0_1, .int .i64 a0_2, .slice A0_3 l0_3.length c0_3] 53 ?_; intro gb357 w9 BK357 hg hb; have GW357 := bZ hg; have GE357 := bZ hg; replace HB := bH hb; clear hb hg; obtain ⟨z10_0, z10_1, z10_2, z10_3, y10_0, y10_1, y10_2, y10_3⟩ := y4 BK357) | ((with_reducible refine gate_callee (f := 63) rfl ?_); refine gL 4 Tryd.func63 #[.agg #[.int .i64 a0_0, .string a0_1, .int .i64 a0_2, .slice A0_3 l0_3.length c0_3], .int .i64 65] ?_; (with_reducible refine (sequiturref08_tall.calls k a0_0 a0_1 a0_2 _ _ l0_3 65 t358 _ ?side1 ?side2 A2.out).mono ?_); (case side1 => exact cB HR0_3); (case side2 => exact HC0_3.out); rintro e w11 ⟨rfl, hb⟩; refine ⟨_, rfl, ?_⟩; replace BK357 := bK BK357 hb; replace HB := bH hb; clear hb; obtain ⟨z12_0, z12_1, z12_2, z12_3, y12_0, y12_1, y12_2, y12_3⟩ := y4 BK357) | ((with_reducible refine gate_callee (f := 62) rfl ?_); refine gL 7 Tryd.func62 #[.agg #[.int .i64 a0_0, .string a0_1, .int .i64 a0_2, .slice A0_3 l0_3.length c0_3], .int .i64 4096] ?_; (with_reducible refine (sequiturref08_size.calls k a0_0 a0_1 a0_2 _ _ l0_3 4096 t359 _ ?side1 ?side2 A7.out).mono ?_); (case side1 => exact cB HR0_3); (case side2 => exact HC0_3.out); rintro e w13 ⟨rfl, hb⟩; refine ⟨_, rfl, ?_⟩; replace BK357 := bK BK357 hb; replace HB := bH hb; clear hb))
    go_ret; exact ⟨eW, bB⟩
   ·rw [if_neg c8] at H
    have c8b0 : decide (4096 < t359) = false := decide_eq_false c8; clear c8; obtain ⟨t360, A14, H⟩ := bO H; obtain rfl := Option.some.inj H
    go_enter Tryd.func47, Tryd.ntmps47
    go_wp2_with (first | ((with_reducible refine gate_dst (N := 1) rfl ?_); refine bE 1 #[.int .i64 a0_0, .string a0_1, .int .i64 a0_2, .slice A0_3 l0_3.length c0_3] 53 ?_; intro gb357 w15 BK357 hg hb; have GW357 := bZ hg; have GE357 := bZ hg; replace HB := bH hb; clear hb hg; obtain ⟨z16_0, z16_1, z16_2, z16_3, y16_0, y16_1, y16_2, y16_3⟩ := y4 BK357) | ((with_reducible refine gate_callee (f := 63) rfl ?_); refine gL 4 Tryd.func63 #[.agg #[.int .i64 a0_0, .string a0_1, .int .i64 a0_2, .slice A0_3 l0_3.length c0_3], .int .i64 65] ?_; (with_reducible refine (sequiturref08_tall.calls k a0_0 a0_1 a0_2 _ _ l0_3 65 t358 _ ?side1 ?side2 A2.out).mono ?_); (case side1 => exact cB HR0_3); (case side2 => exact HC0_3.out); rintro e w17 ⟨rfl, hb⟩; refine ⟨_, rfl, ?_⟩; replace BK357 := bK BK357 hb; replace HB := bH hb; clear hb; obtain ⟨z18_0, z18_1, z18_2, z18_3, y18_0, y18_1, y18_2, y18_3⟩ := y4 BK357) | ((with_reducible refine gate_callee (f := 62) rfl ?_); refine gL 7 Tryd.func62 #[.agg #[.int .i64 a0_0, .string a0_1, .int .i64 a0_2, .slice A0_3 l0_3.length c0_3], .int .i64 4096] ?_; (with_reducible refine (sequiturref08_size.calls k a0_0 a0_1 a0_2 _ _ l0_3 4096 t359 _ ?side1 ?side2 A7.out).mono ?_); (case side1 => exact cB HR0_3); (case side2 => exact HC0_3.out); rintro e w19 ⟨rfl, hb⟩; refine ⟨_, rfl, ?_⟩; replace BK357 := bK BK357 hb; replace HB := bH hb; clear hb; obtain ⟨z20_0, z20_1, z20_2, z20_3, y20_0, y20_1, y20_2, y20_3⟩ := y4 BK357) | ((with_reducible refine gate_callee (f := 64) rfl ?_); refine gL 10 Tryd.func64 #[.agg #[.int .i64 a0_0, .string a0_1, .int .i64 a0_2, .slice A0_3 l0_3.length c0_3]] ?_; (with_reducible refine (sequiturref08_termParts.calls k a0_0 a0_1 a0_2 _ _ l0_3 t360 _ ?side1 ?side2 A14.out).mono ?_); (case side1 => exact cB HR0_3); (case side2 => exact HC0_3.out); rintro e w21 ⟨rfl, hb⟩; refine ⟨_, rfl, ?_⟩; replace BK357 := bK BK357 hb; replace HB := bH hb; clear hb))
    go_ret; exact ⟨eW, bB⟩
end Go.Proofs.YtmlkllbaehegjaaDoor.PAll
end
