import Derived.Test.YtmlkllbaehegjaaDoorShowSeqs2
import Derived.Test.YtmlkllbaehegjaaDoorShowSeqs3
import Derived.Test.YtmlkllbaehegjaaDoorShowSeqs11
section
namespace Go.Proofs.YtmlkllbaehegjaaDoor.PAll
open Go.RowKit Go.Proofs.YtmlkllbaehegjaaDoorW.PrintWords Go.Proofs.YtmlkllbaehegjaaDoorW.PrintLast Go.Proofs.YtmlkllbaehegjaaDoorW.PrintMore
attribute [local go_sem] max2_int min2_int max_two min_two max_three min_three max_four min_four   -- for this text's walks alone
set_option linter.unusedVariables false
set_option linter.unusedSimpArgs false
/-! ### sequiturbase_Name: function 83 -/
mutual
def sequiturbase_Name.l0 : Nat → ByteArray → Int → Option (Bool)
  | 0, _, _ => none
  | k + 1, x0, x3 => if x3 < (x0.size : Int) then (if 0 ≤ x3 then (if (bt x0 x3) ≥ 65 then (if (bt x0 x3) ≤ 90 then (sequiturbase_Name.j1 k x0 x3 true) else (if (bt x0 x3) ≥ 97 then (if (bt x0 x3) ≤ 122 then (sequiturbase_Name.j1 k x0 x3 true) else (sequiturbase_Name.j1 k x0 x3 ((bt x0 x3) == 95))) else (sequiturbase_Name.j1 k x0 x3 ((bt x0 x3) == 95)))) else (if (bt x0 x3) ≥ 97 then (if (bt x0 x3) ≤ 122 then (sequiturbase_Name.j1 k x0 x3 true) else (sequiturbase_Name.j1 k x0 x3 ((bt x0 x3) == 95))) else (sequiturbase_Name.j1 k x0 x3 ((bt x0 x3) == 95)))) else (none)) else (if (x0.size : Int) > 0 then (some (decide ((x0.size : Int) ≤ 32))) else (some false))
def sequiturbase_Name.j1 : Nat → ByteArray → Int → Bool → Option (Bool)
  | 0, _, _, _ => none
  | k + 1, x0, x3, x4 => if x4 = true then (sequiturbase_Name.j2 k x0 x3 false) else (if x3 = 0 then (sequiturbase_Name.j2 k x0 x3 true) else (if 0 ≤ x3 then (if x3 < (x0.size : Int) then (if (bt x0 x3) = 39 then (sequiturbase_Name.j2 k x0 x3 false) else (if (bt x0 x3) < 48 then (sequiturbase_Name.j2 k x0 x3 true) else (sequiturbase_Name.j2 k x0 x3 (decide ((bt x0 x3) > 57))))) else (none)) else (none)))
def sequiturbase_Name.j2 : Nat → ByteArray → Int → Bool → Option (Bool)
  | 0, _, _, _ => none
  | k + 1, x0, x3, x62 => if x62 = true then (some false) else (sequiturbase_Name.l0 k x0 (wrap64 (x3 + 1)))
end
def sequiturbase_Name.f (k : Nat) (a0 : ByteArray) : Option (Bool) := sequiturbase_Name.l0 k a0 0
set_option maxHeartbeats 8000000 in
set_option maxRecDepth 100000 in
theorem sequiturbase_Name.calls (k : Nat) (a0 : ByteArray) (r : Bool) (w : World) (h : sequiturbase_Name.f k a0 = some r) :
    Calls Tryd.prog 83 #[.string a0] w fun e w' => e = .returned (.bool r) ∧ Drawn0 w w' := by
  have H := h; unfold sequiturbase_Name.f at H; clear h; have H' := am H; clear H
  go_enter Tryd.func83, Tryd.ntmps83
  go_wp2
  go_loopg [3] k (fun kq v3 w' => ∃ (x3_1 : Int), v3 = .int .i64 x3_1 ∧ Aside0 (sequiturbase_Name.l0 kq a0 x3_1 = some r) ∧ Aside0 (kq ≤ k) ∧ Drawn0 w w')
  case atStart => exact ⟨(0), eS, H', ⟨Nat.le_refl _⟩, by repeat (first | exact Drawn0.refl _ | apply Drawn0.step)⟩
  case round =>
   clear H'; obtain ⟨x3_1, rfl, HA, HK1, ⟨m1, rfl⟩⟩ := hrel
   cases gk with
   | zero => exact absurd HA.out (by simp [sequiturbase_Name.l0])
   | succ k1 =>
    have H := HA.out; clear HA; simp only [sequiturbase_Name.l0] at H
    by_cases c2 : x3_1 < (a0.size : Int)
    ·rw [if_pos c2] at H
     have c2b0 : decide (x3_1 < (a0.size : Int)) = true := decide_eq_true c2; clear c2; have HC3 := am H; clear H
     go_upto_region 4 with (fail)
     go_cut [4] (fun v4 wc => ∃ (kq : Nat) (x4_2 : Bool), v4 = .bool x4_2 ∧ Aside0 (sequiturbase_Name.j1 kq a0 x3_1 x4_2 = some r) ∧ Aside0 (kq ≤ k1) ∧ Drawn0 w wc)
     case first =>
      have H := HC3.out; clear HC3
      by_cases c4 : 0 ≤ x3_1
      ·rw [if_pos c4] at H
       have c4b0 : decide (0 ≤ x3_1) = true := decide_eq_true c4; clear c4; (first | rw [c4b0] | (simp only [i64_w, i32_w]; rw [c4b0]) | skip)
       by_cases c6 : (bt a0 x3_1) ≥ 65
       ·rw [if_pos c6] at H
        have c6b0 : decide (65 ≤ (bt a0 x3_1)) = true := decide_eq_true c6; clear c6
        by_cases c8 : (bt a0 x3_1) ≤ 90
        ·rw [if_pos c8] at H
         have c8b0 : decide ((bt a0 x3_1) ≤ 90) = true := decide_eq_true c8; clear c8; have H' := am H; clear H; have p5 : 0 ≤ (x3_1 : Int) := of_decide_eq_true eA; have q5 : x3_1 < (a0.size : Int) := of_decide_eq_true eA; have hx5 := bt_at a0 x3_1; replace p5 := eq_true p5; replace q5 := eq_true q5; have p7 : 0 ≤ (x3_1 : Int) := of_decide_eq_true eA; have q7 : x3_1 < (a0.size : Int) := of_decide_eq_true eA; have hx7 := bt_at a0 x3_1; replace p7 := eq_true p7; replace q7 := eq_true q7; go_wp2; go_meet
         case rel => exact ⟨_, (true), eS, H', ⟨by have := HK1.out; first | omega | exact Nat.le_refl _⟩, by repeat (first | exact Drawn0.refl _ | apply Drawn0.step)⟩
        ·rw [if_neg c8] at H
         have c8b0 : decide ((bt a0 x3_1) ≤ 90) = false := decide_eq_false c8; clear c8
         by_cases c10 : (bt a0 x3_1) ≥ 97
         ·rw [if_pos c10] at H
          have c10b0 : decide (97 ≤ (bt a0 x3_1)) = true := decide_eq_true c10; clear c10
          by_cases c12 : (bt a0 x3_1) ≤ 122
          ·rw [if_pos c12] at H
           have c12b0 : decide ((bt a0 x3_1) ≤ 122) = true := decide_eq_true c12; clear c12; have H' := am H; clear H; have p5 : 0 ≤ (x3_1 : Int) := of_decide_eq_true eA; have q5 : x3_1 < (a0.size : Int) := of_decide_eq_true eA; have hx5 := bt_at a0 x3_1; replace p5 := eq_true p5; replace q5 := eq_true q5; have p7 : 0 ≤ (x3_1 : Int) := of_decide_eq_true eA; have q7 : x3_1 < (a0.size : Int) := of_decide_eq_true eA; have hx7 := bt_at a0 x3_1; replace p7 := eq_true p7; replace q7 := eq_true q7; have p9 : 0 ≤ (x3_1 : Int) := of_decide_eq_true eA; have q9 : x3_1 < (a0.size : Int) := of_decide_eq_true eA; have hx9 := bt_at a0 x3_1; replace p9 := eq_true p9; replace q9 := eq_true q9; have p11 : 0 ≤ (x3_1 : Int) := of_decide_eq_true eA; have q11 : x3_1 < (a0.size : Int) := of_decide_eq_true eA; have hx11 := bt_at a0 x3_1; replace p11 := eq_true p11; replace q11 := eq_true q11; go_wp2; go_meet
           case rel => exact ⟨_, (true), eS, H', ⟨by have := HK1.out; first | omega | exact Nat.le_refl _⟩, by repeat (first | exact Drawn0.refl _ | apply Drawn0.step)⟩
          ·rw [if_neg c12] at H
           have c12b0 : decide ((bt a0 x3_1) ≤ 122) = false := decide_eq_false c12; clear c12; have H' := am H; clear H; have p5 : 0 ≤ (x3_1 : Int) := of_decide_eq_true eA; have q5 : x3_1 < (a0.size : Int) := of_decide_eq_true eA; have hx5 := bt_at a0 x3_1; replace p5 := eq_true p5; replace q5 := eq_true q5; have p7 : 0 ≤ (x3_1 : Int) := of_decide_eq_true eA; have q7 : x3_1 < (a0.size : Int) := of_decide_eq_true eA; have hx7 := bt_at a0 x3_1; replace p7 := eq_true p7; replace q7 := eq_true q7; have p9 : 0 ≤ (x3_1 : Int) := of_decide_eq_true eA; have q9 : x3_1 < (a0.size : Int) := of_decide_eq_true eA; have hx9 := bt_at a0 x3_1; replace p9 := eq_true p9; replace q9 := eq_true q9; have p11 : 0 ≤ (x3_1 : Int) := of_decide_eq_true eA; have q11 : x3_1 < (a0.size : Int) := of_decide_eq_true eA; have hx11 := bt_at a0 x3_1; replace p11 := eq_true p11; replace q11 := eq_true q11; have p13 : 0 ≤ (x3_1 : Int) := of_decide_eq_true eA; have q13 : x3_1 < (a0.size : Int) := of_decide_eq_true eA
           have hx13 := bt_at a0 x3_1; replace p13 := eq_true p13; replace q13 := eq_true q13; go_wp2; go_meet
           case rel => exact ⟨_, (((bt a0 x3_1) == 95)), eS, H', ⟨by have := HK1.out; first | omega | exact Nat.le_refl _⟩, by repeat (first | exact Drawn0.refl _ | apply Drawn0.step)⟩
         ·rw [if_neg c10] at H
          have c10b0 : decide (97 ≤ (bt a0 x3_1)) = false := decide_eq_false c10; clear c10; have H' := am H; clear H; have p5 : 0 ≤ (x3_1 : Int) := of_decide_eq_true eA; have q5 : x3_1 < (a0.size : Int) := of_decide_eq_true eA; have hx5 := bt_at a0 x3_1; replace p5 := eq_true p5; replace q5 := eq_true q5; have p7 : 0 ≤ (x3_1 : Int) := of_decide_eq_true eA; have q7 : x3_1 < (a0.size : Int) := of_decide_eq_true eA; have hx7 := bt_at a0 x3_1; replace p7 := eq_true p7; replace q7 := eq_true q7; have p9 : 0 ≤ (x3_1 : Int) := of_decide_eq_true eA; have q9 : x3_1 < (a0.size : Int) := of_decide_eq_true eA; have hx9 := bt_at a0 x3_1; replace p9 := eq_true p9; replace q9 := eq_true q9; have p14 : 0 ≤ (x3_1 : Int) := of_decide_eq_true eA; have q14 : x3_1 < (a0.size : Int) := of_decide_eq_true eA; have hx14 := bt_at a0 x3_1; replace p14 := eq_true p14; replace q14 := eq_true q14; go_wp2; go_meet
          case rel => exact ⟨_, (((bt a0 x3_1) == 95)), eS, H', ⟨by have := HK1.out; first | omega | exact Nat.le_refl _⟩, by repeat (first | exact Drawn0.refl _ | apply Drawn0.step)⟩
       ·rw [if_neg c6] at H
        have c6b0 : decide (65 ≤ (bt a0 x3_1)) = false := decide_eq_false c6; clear c6
        by_cases c16 : (bt a0 x3_1) ≥ 97
        ·rw [if_pos c16] at H
         have c16b0 : decide (97 ≤ (bt a0 x3_1)) = true := decide_eq_true c16; clear c16
         by_cases c18 : (bt a0 x3_1) ≤ 122
         ·rw [if_pos c18] at H
          have c18b0 : decide ((bt a0 x3_1) ≤ 122) = true := decide_eq_true c18; clear c18; have H' := am H; clear H; have p5 : 0 ≤ (x3_1 : Int) := of_decide_eq_true eA; have q5 : x3_1 < (a0.size : Int) := of_decide_eq_true eA; have hx5 := bt_at a0 x3_1; replace p5 := eq_true p5; replace q5 := eq_true q5; have p15 : 0 ≤ (x3_1 : Int) := of_decide_eq_true eA; have q15 : x3_1 < (a0.size : Int) := of_decide_eq_true eA; have hx15 := bt_at a0 x3_1; replace p15 := eq_true p15; replace q15 := eq_true q15; have p17 : 0 ≤ (x3_1 : Int) := of_decide_eq_true eA; have q17 : x3_1 < (a0.size : Int) := of_decide_eq_true eA; have hx17 := bt_at a0 x3_1; replace p17 := eq_true p17; replace q17 := eq_true q17; go_wp2; go_meet
          case rel => exact ⟨_, (true), eS, H', ⟨by have := HK1.out; first | omega | exact Nat.le_refl _⟩, by repeat (first | exact Drawn0.refl _ | apply Drawn0.step)⟩
         ·rw [if_neg c18] at H
          have c18b0 : decide ((bt a0 x3_1) ≤ 122) = false := decide_eq_false c18; clear c18; have H' := am H; clear H; have p5 : 0 ≤ (x3_1 : Int) := of_decide_eq_true eA; have q5 : x3_1 < (a0.size : Int) := of_decide_eq_true eA; have hx5 := bt_at a0 x3_1; replace p5 := eq_true p5; replace q5 := eq_true q5; have p15 : 0 ≤ (x3_1 : Int) := of_decide_eq_true eA; have q15 : x3_1 < (a0.size : Int) := of_decide_eq_true eA; have hx15 := bt_at a0 x3_1; replace p15 := eq_true p15; replace q15 := eq_true q15; have p17 : 0 ≤ (x3_1 : Int) := of_decide_eq_true eA; have q17 : x3_1 < (a0.size : Int) := of_decide_eq_true eA; have hx17 := bt_at a0 x3_1; replace p17 := eq_true p17; replace q17 := eq_true q17; have p19 : 0 ≤ (x3_1 : Int) := of_decide_eq_true eA; have q19 : x3_1 < (a0.size : Int) := of_decide_eq_true eA; have hx19 := bt_at a0 x3_1; replace p19 := eq_true p19; replace q19 := eq_true q19; go_wp2; go_meet
          case rel => exact ⟨_, (((bt a0 x3_1) == 95)), eS, H', ⟨by have := HK1.out; first | omega | exact Nat.le_refl _⟩, by repeat (first | exact Drawn0.refl _ | apply Drawn0.step)⟩
        ·rw [if_neg c16] at H
         have c16b0 : decide (97 ≤ (bt a0 x3_1)) = false := decide_eq_false c16; clear c16; have H' := am H; clear H; have p5 : 0 ≤ (x3_1 : Int) := of_decide_eq_true eA; have q5 : x3_1 < (a0.size : Int) := of_decide_eq_true eA; have hx5 := bt_at a0 x3_1; replace p5 := eq_true p5; replace q5 := eq_true q5; have p15 : 0 ≤ (x3_1 : Int) := of_decide_eq_true eA; have q15 : x3_1 < (a0.size : Int) := of_decide_eq_true eA; have hx15 := bt_at a0 x3_1; replace p15 := eq_true p15; replace q15 := eq_true q15; have p20 : 0 ≤ (x3_1 : Int) := of_decide_eq_true eA; have q20 : x3_1 < (a0.size : Int) := of_decide_eq_true eA; have hx20 := bt_at a0 x3_1; replace p20 := eq_true p20; replace q20 := eq_true q20; go_wp2; go_meet
         case rel => exact ⟨_, (((bt a0 x3_1) == 95)), eS, H', ⟨by have := HK1.out; first | omega | exact Nat.le_refl _⟩, by repeat (first | exact Drawn0.refl _ | apply Drawn0.step)⟩
      ·rw [if_neg c4] at H
       exact absurd H (by simp)
     case rest =>
      clear HC3; (try clear c1); (try clear p1); (try clear q1); (try clear hx1); (try clear c2); (try clear c2b0); (try clear p2); (try clear q2); (try clear hx2); (try clear c4); (try clear c4b0); (try clear p5); (try clear q5); (try clear hx5); (try clear c6); (try clear c6b0); (try clear p7); (try clear q7); (try clear hx7); (try clear c8); (try clear c8b0); (try clear p9); (try clear q9); (try clear hx9); (try clear c10); (try clear c10b0); (try clear p11); (try clear q11); (try clear hx11); (try clear c12); (try clear c12b0); (try clear p13); (try clear q13); (try clear hx13); (try clear p14); (try clear q14); (try clear hx14); (try clear p15); (try clear q15); (try clear hx15); (try clear c16); (try clear c16b0); (try clear p17); (try clear q17); (try clear hx17); (try clear c18); (try clear c18b0); (try clear p19); (try clear q19); (try clear hx19); (try clear p20); (try clear q20); (try clear hx20); (try clear p11); (try clear p13); (try clear p14); (try clear p15); (try clear p17); (try clear p19); (try clear p20); (try clear p5); (try clear p7); (try clear p9); (try clear q11); (try clear q13); (try clear q14); (try clear q15); (try clear q17); try clear q19
      (try clear q20); (try clear q5); (try clear q7); (try clear q9); obtain ⟨kq, x4_2, rfl, HA, HJ2, ⟨mc2, rfl⟩⟩ := hcut
      cases kq with
      | zero => exact absurd HA.out (by simp [sequiturbase_Name.j1])
      | succ kj2 =>
       have H := HA.out; clear HA; simp only [sequiturbase_Name.j1] at H; have HC21 := am H; clear H
       go_upto_region 5 with (fail)
       go_cut [62] (fun v62 wc => ∃ (kq : Nat) (x62_20 : Bool), v62 = .bool x62_20 ∧ Aside0 (sequiturbase_Name.j2 kq a0 x3_1 x62_20 = some r) ∧ Aside0 (kq ≤ kj2) ∧ Drawn0 w wc)
       case first =>
        have H := HC21.out; clear HC21
        by_cases c22 : x4_2 = true
        ·subst c22
         rw [if_pos rfl] at H; have H' := am H; clear H; go_wp2; go_meet
         case rel => exact ⟨_, (false), eS, H', ⟨by have := HK1.out; have := HJ2.out; first | omega | exact Nat.le_refl _⟩, by repeat (first | exact Drawn0.refl _ | apply Drawn0.step)⟩
        ·replace c22 := Bool.eq_false_iff.mpr c22
         subst c22; rw [if_neg (show ¬ (false = true) by decide)] at H
         by_cases c23 : x3_1 = 0
         ·rw [if_pos c23] at H
          have c23b0 := beq_iff_eq.mpr c23; have c23b1 := bne_eq_false_iff_eq.mpr c23; clear c23; (first | rw [c23b0] | (simp only [i64_w, i32_w]; rw [c23b0]) | skip); have H' := am H; clear H; go_wp2; go_meet
          case rel => exact ⟨_, (true), eS, H', ⟨by have := HK1.out; have := HJ2.out; first | omega | exact Nat.le_refl _⟩, by repeat (first | exact Drawn0.refl _ | apply Drawn0.step)⟩
         ·rw [if_neg c23] at H
          have c23b0 := beq_eq_false_iff_ne.mpr c23; have c23b1 := bne_iff_ne.mpr c23; (first | rw [c23b0] | (simp only [i64_w, i32_w]; rw [c23b0]) | skip)
          by_cases c24 : 0 ≤ x3_1
          ·rw [if_pos c24] at H
           have c24b0 : decide (0 ≤ x3_1) = true := decide_eq_true c24; clear c24
           by_cases c25 : x3_1 < (a0.size : Int)
           ·rw [if_pos c25] at H
            have c25b0 : decide (x3_1 < (a0.size : Int)) = true := decide_eq_true c25; clear c25
            by_cases c27 : (bt a0 x3_1) = 39
            ·rw [if_pos c27] at H
             have c27b0 := beq_iff_eq.mpr c27; have c27b1 := bne_eq_false_iff_eq.mpr c27; clear c27; have H' := am H; clear H; have p26 : 0 ≤ (x3_1 : Int) := of_decide_eq_true eA; have q26 : x3_1 < (a0.size : Int) := of_decide_eq_true eA; have hx26 := bt_at a0 x3_1; replace p26 := eq_true p26; replace q26 := eq_true q26; go_wp2; go_meet
             case rel => exact ⟨_, (false), eS, H', ⟨by have := HK1.out; have := HJ2.out; first | omega | exact Nat.le_refl _⟩, by repeat (first | exact Drawn0.refl _ | apply Drawn0.step)⟩
            ·rw [if_neg c27] at H
             have c27b0 := beq_eq_false_iff_ne.mpr c27; have c27b1 := bne_iff_ne.mpr c27
             by_cases c29 : (bt a0 x3_1) < 48
             ·rw [if_pos c29] at H
              have c29b0 : decide ((bt a0 x3_1) < 48) = true := decide_eq_true c29; clear c29; have H' := am H; clear H; have p26 : 0 ≤ (x3_1 : Int) := of_decide_eq_true eA; have q26 : x3_1 < (a0.size : Int) := of_decide_eq_true eA; have hx26 := bt_at a0 x3_1; replace p26 := eq_true p26; replace q26 := eq_true q26; have p28 : 0 ≤ (x3_1 : Int) := of_decide_eq_true eA; have q28 : x3_1 < (a0.size : Int) := of_decide_eq_true eA; have hx28 := bt_at a0 x3_1; replace p28 := eq_true p28; replace q28 := eq_true q28; go_wp2; go_meet
              case rel => exact ⟨_, (true), eS, H', ⟨by have := HK1.out; have := HJ2.out; first | omega | exact Nat.le_refl _⟩, by repeat (first | exact Drawn0.refl _ | apply Drawn0.step)⟩
             ·rw [if_neg c29] at H
              have c29b0 : decide ((bt a0 x3_1) < 48) = false := decide_eq_false c29; clear c29; have H' := am H; clear H; have p26 : 0 ≤ (x3_1 : Int) := of_decide_eq_true eA; have q26 : x3_1 < (a0.size : Int) := of_decide_eq_true eA; have hx26 := bt_at a0 x3_1; replace p26 := eq_true p26; replace q26 := eq_true q26; have p28 : 0 ≤ (x3_1 : Int) := of_decide_eq_true eA; have q28 : x3_1 < (a0.size : Int) := of_decide_eq_true eA; have hx28 := bt_at a0 x3_1; replace p28 := eq_true p28; replace q28 := eq_true q28; have p30 : 0 ≤ (x3_1 : Int) := of_decide_eq_true eA; have q30 : x3_1 < (a0.size : Int) := of_decide_eq_true eA; have hx30 := bt_at a0 x3_1; replace p30 := eq_true p30; replace q30 := eq_true q30; go_wp2; go_meet
              case rel => exact ⟨_, (decide ((bt a0 x3_1) > 57)), eS, H', ⟨by have := HK1.out; have := HJ2.out; first | omega | exact Nat.le_refl _⟩, by repeat (first | exact Drawn0.refl _ | apply Drawn0.step)⟩
           ·rw [if_neg c25] at H
            exact absurd H (by simp)
          ·rw [if_neg c24] at H
           exact absurd H (by simp)
       case rest =>
        clear HC21; (try clear c1); (try clear p1); (try clear q1); (try clear hx1); (try clear c2); (try clear c2b0); (try clear p2); (try clear q2); (try clear hx2); (try clear p3); (try clear q3); (try clear hx3); (try clear c4); (try clear c4b0); (try clear p5); (try clear q5); (try clear hx5); (try clear c6); (try clear c6b0); (try clear p7); (try clear q7); (try clear hx7); (try clear c8); (try clear c8b0); (try clear p9); (try clear q9); (try clear hx9); (try clear c10); (try clear c10b0); (try clear p11); (try clear q11); (try clear hx11); (try clear c12); (try clear c12b0); (try clear p13); (try clear q13); (try clear hx13); (try clear p14); (try clear q14); (try clear hx14); (try clear p15); (try clear q15); (try clear hx15); (try clear c16); (try clear c16b0); (try clear p17); (try clear q17); (try clear hx17); (try clear c18); (try clear c18b0); (try clear p19); (try clear q19); (try clear hx19); (try clear p20); (try clear q20); (try clear hx20); (try clear c22); (try clear c23); (try clear c23b0); (try clear c23b1); (try clear c24); (try clear c24b0); (try clear c25); (try clear c25b0); (try clear p26); (try clear q26); (try clear hx26); try clear c27
        (try clear c27b0); (try clear c27b1); (try clear p28); (try clear q28); (try clear hx28); (try clear c29); (try clear c29b0); (try clear p30); (try clear q30); (try clear hx30); (try clear p1); (try clear p11); (try clear p13); (try clear p14); (try clear p15); (try clear p17); (try clear p19); (try clear p2); (try clear p20); (try clear p26); (try clear p28); (try clear p30); (try clear p5); (try clear p7); (try clear p9); (try clear q1); (try clear q11); (try clear q13); (try clear q14); (try clear q15); (try clear q17); (try clear q19); (try clear q2); (try clear q20); (try clear q26); (try clear q28); (try clear q30); (try clear q5); (try clear q7); (try clear q9); obtain ⟨kq, x62_20, rfl, HA, HJ20, ⟨mc20, rfl⟩⟩ := hcut
        cases kq with
        | zero => exact absurd HA.out (by simp [sequiturbase_Name.j2])
        | succ kj20 =>
         have H := HA.out; clear HA; simp only [sequiturbase_Name.j2] at H
         by_cases c31 : x62_20 = true
         ·subst c31
          rw [if_pos rfl] at H; obtain rfl := Option.some.inj H; go_wp2; go_ret; exact ⟨by first | rfl | (simp; done) | (simp [*]; done) | (simp [*, nel]; done), by repeat (first | exact Drawn0.refl _ | apply Drawn0.step)⟩
         ·replace c31 := Bool.eq_false_iff.mpr c31
          subst c31; rw [if_neg (show ¬ (false = true) by decide)] at H; have H' := am H; clear H; go_wp2
          go_roundg kj20
          case measure => have := HK1.out; have := HJ2.out; have := HJ20.out; omega
          case rel => exact ⟨(wrap64 (x3_1 + 1)), eS, H', ⟨by have := HK1.out; have := HJ2.out; have := HJ20.out; omega⟩, by repeat (first | exact Drawn0.refl _ | apply Drawn0.step)⟩
    ·rw [if_neg c2] at H
     have c2b0 : decide (x3_1 < (a0.size : Int)) = false := decide_eq_false c2; clear c2
     by_cases c32 : (a0.size : Int) > 0
     ·rw [if_pos c32] at H
      have c32b0 : decide (0 < (a0.size : Int)) = true := decide_eq_true c32; have c32b1 : decide (0 < a0.size) = true := decide_eq_true (by omega); clear c32; obtain rfl := Option.some.inj H; go_wp2; go_ret; exact ⟨by first | rfl | (simp; done) | (simp [*]; done) | (simp [*, nel]; done), by repeat (first | exact Drawn0.refl _ | apply Drawn0.step)⟩
     ·rw [if_neg c32] at H
      have c32b0 : decide (0 < (a0.size : Int)) = false := decide_eq_false c32; have c32b1 : decide (0 < a0.size) = false := decide_eq_false (by omega); clear c32; obtain rfl := Option.some.inj H; go_wp2; go_ret; exact ⟨by first | rfl | (simp; done) | (simp [*]; done) | (simp [*, nel]; done), by repeat (first | exact Drawn0.refl _ | apply Drawn0.step)⟩
end Go.Proofs.YtmlkllbaehegjaaDoor.PAll
end
section
namespace Go.Proofs.YtmlkllbaehegjaaDoor.PAll
open Go.RowKit Go.Proofs.YtmlkllbaehegjaaDoorW.PrintWords Go.Proofs.YtmlkllbaehegjaaDoorW.PrintLast Go.Proofs.YtmlkllbaehegjaaDoorW.PrintMore
attribute [local go_sem] max2_int min2_int max_two min_two max_three min_three max_four min_four
set_option linter.unusedVariables false
set_option linter.unusedSimpArgs false
/-! ### sequiturref05_Word: function 84 -/
def sequiturref05_Word.f (k : Nat) (a0 : ByteArray) : Option (Bool) := (sequiturbase_Has.f k (([(⟨#[116, 114, 117, 101]⟩ : ByteArray), (⟨#[102, 97, 108, 115, 101]⟩ : ByteArray), (⟨#[115, 111, 114, 116]⟩ : ByteArray), (⟨#[102, 117, 110]⟩ : ByteArray), (⟨#[112, 114, 101, 100]⟩ : ByteArray), (⟨#[97, 120, 105, 111, 109]⟩ : ByteArray), (⟨#[116, 104, 101, 111, 114, 101, 109]⟩ : ByteArray), (⟨#[112, 114, 111, 111, 102]⟩ : ByteArray), (⟨#[113, 101, 100]⟩ : ByteArray), (⟨#[97, 115]⟩ : ByteArray), (⟨#[98, 97, 99, 107]⟩ : ByteArray), (⟨#[105, 110, 116, 114, 111]⟩ : ByteArray), (⟨#[115, 112, 108, 105, 116]⟩ : ByteArray), (⟨#[108, 101, 102, 116]⟩ : ByteArray), (⟨#[114, 105, 103, 104, 116]⟩ : ByteArray), (⟨#[101, 120, 97, 99, 116]⟩ : ByteArray), (⟨#[97, 115, 115, 117, 109, 101]⟩ : ByteArray), (⟨#[97, 112, 112, 108, 121]⟩ : ByteArray), (⟨#[119, 105, 116, 110, 101, 115, 115]⟩ : ByteArray), (⟨#[99, 97, 115, 101, 115]⟩ : ByteArray), (⟨#[104, 97, 118, 101]⟩ : ByteArray), (⟨#[99, 111, 110, 116, 114, 97]⟩ : ByteArray), (⟨#[114, 101, 102, 108]⟩ : ByteArray), (⟨#[115, 119, 97, 112]⟩ : ByteArray), (⟨#[112, 114, 111, 112]⟩ : ByteArray), (⟨#[97, 114, 105, 116, 104]⟩ : ByteArray), (⟨#[109, 105, 120, 101, 100]⟩ : ByteArray), (⟨#[97, 117, 116, 111]⟩ : ByteArray), (⟨#[99, 111, 110, 103, 114]⟩ : ByteArray), (⟨#[116, 114, 121]⟩ : ByteArray), (⟨#[108, 111, 111, 112]⟩ : ByteArray), (⟨#[101, 97, 99, 104]⟩ : ByteArray), (⟨#[115, 107, 105, 112]⟩ : ByteArray), (⟨#[102, 97, 105, 108]⟩ : ByteArray)] : List ByteArray)) a0).bind fun t521 => (some t521)
set_option maxHeartbeats 8000000 in
set_option maxRecDepth 100000 in
theorem sequiturref05_Word.calls (k : Nat) (a0 : ByteArray) (r : Bool) (w : World) (h : sequiturref05_Word.f k a0 = some r) :
    Calls Tryd.prog 84 #[.string a0] w fun e w' => e = .returned (.bool r) ∧ Below w.heap.size w w' := by
  have HB := am (Below.refl w.heap.size w); have H := h; unfold sequiturref05_Word.f at H; clear h
  obtain ⟨y518, hy518⟩ : ∃ y_ : List ByteArray, y_ = (([(⟨#[116, 114, 117, 101]⟩ : ByteArray), (⟨#[102, 97, 108, 115, 101]⟩ : ByteArray), (⟨#[115, 111, 114, 116]⟩ : ByteArray), (⟨#[102, 117, 110]⟩ : ByteArray), (⟨#[112, 114, 101, 100]⟩ : ByteArray), (⟨#[97, 120, 105, 111, 109]⟩ : ByteArray), (⟨#[116, 104, 101, 111, 114, 101, 109]⟩ : ByteArray), (⟨#[112, 114, 111, 111, 102]⟩ : ByteArray), (⟨#[113, 101, 100]⟩ : ByteArray), (⟨#[97, 115]⟩ : ByteArray), (⟨#[98, 97, 99, 107]⟩ : ByteArray), (⟨#[105, 110, 116, 114, 111]⟩ : ByteArray), (⟨#[115, 112, 108, 105, 116]⟩ : ByteArray), (⟨#[108, 101, 102, 116]⟩ : ByteArray), (⟨#[114, 105, 103, 104, 116]⟩ : ByteArray), (⟨#[101, 120, 97, 99, 116]⟩ : ByteArray), (⟨#[97, 115, 115, 117, 109, 101]⟩ : ByteArray), (⟨#[97, 112, 112, 108, 121]⟩ : ByteArray), (⟨#[119, 105, 116, 110, 101, 115, 115]⟩ : ByteArray), (⟨#[99, 97, 115, 101, 115]⟩ : ByteArray), (⟨#[104, 97, 118, 101]⟩ : ByteArray), (⟨#[99, 111, 110, 116, 114, 97]⟩ : ByteArray), (⟨#[114, 101, 102, 108]⟩ : ByteArray), (⟨#[115, 119, 97, 112]⟩ : ByteArray), (⟨#[112, 114, 111, 112]⟩ : ByteArray), (⟨#[97, 114, 105, 116, 104]⟩ : ByteArray), (⟨#[109, 105, 120, 101, 100]⟩ : ByteArray), (⟨#[97, 117, 116, 111]⟩ : ByteArray), (⟨#[99, 111, 110, 103, 114]⟩ : ByteArray), (⟨#[116, 114, 121]⟩ : ByteArray), (⟨#[108, 111, 111, 112]⟩ : ByteArray), (⟨#[101, 97, 99, 104]⟩ : ByteArray), (⟨#[115, 107, 105, 112]⟩ : ByteArray), (⟨#[102, 97, 105, 108]⟩ : ByteArray)] : List ByteArray)) := ⟨_, rfl⟩
  replace H : ((sequiturbase_Has.f k y518 a0).bind fun t521 => (some t521)) = some r := by first | (rw [hy518]; with_reducible exact H) | (have H2_ := (Option.bind_some _ _).symm.trans H; rw [hy518]; with_reducible exact H2_) | (have H2_ := (Option.bind_some _ _).symm.trans H; with_reducible exact H2_) | with_reducible exact H | (rw [hy518]; exact H) | exact H
  have Ny518 := am hy518; clear hy518; obtain ⟨t521, A2, H⟩ := bO H; obtain rfl := Option.some.inj H
  go_enter Tryd.func84, Tryd.ntmps84
  go_wp2_with (first | ((with_reducible refine gate_dst (N := 4) rfl ?_); refine Kd.R_lit Kd.string _ 9 ?hg (N := 4) ?hd (xs := ([(⟨#[116, 114, 117, 101]⟩ : ByteArray), (⟨#[102, 97, 108, 115, 101]⟩ : ByteArray), (⟨#[115, 111, 114, 116]⟩ : ByteArray), (⟨#[102, 117, 110]⟩ : ByteArray), (⟨#[112, 114, 101, 100]⟩ : ByteArray), (⟨#[97, 120, 105, 111, 109]⟩ : ByteArray), (⟨#[116, 104, 101, 111, 114, 101, 109]⟩ : ByteArray), (⟨#[112, 114, 111, 111, 102]⟩ : ByteArray), (⟨#[113, 101, 100]⟩ : ByteArray), (⟨#[97, 115]⟩ : ByteArray), (⟨#[98, 97, 99, 107]⟩ : ByteArray), (⟨#[105, 110, 116, 114, 111]⟩ : ByteArray), (⟨#[115, 112, 108, 105, 116]⟩ : ByteArray), (⟨#[108, 101, 102, 116]⟩ : ByteArray), (⟨#[114, 105, 103, 104, 116]⟩ : ByteArray), (⟨#[101, 120, 97, 99, 116]⟩ : ByteArray), (⟨#[97, 115, 115, 117, 109, 101]⟩ : ByteArray), (⟨#[97, 112, 112, 108, 121]⟩ : ByteArray), (⟨#[119, 105, 116, 110, 101, 115, 115]⟩ : ByteArray), (⟨#[99, 97, 115, 101, 115]⟩ : ByteArray), (⟨#[104, 97, 118, 101]⟩ : ByteArray), (⟨#[99, 111, 110, 116, 114, 97]⟩ : ByteArray), (⟨#[114, 101, 102, 108]⟩ : ByteArray), (⟨#[115, 119, 97, 112]⟩ : ByteArray), (⟨#[112, 114, 111, 112]⟩ : ByteArray), (⟨#[97, 114, 105, 116, 104]⟩ : ByteArray), (⟨#[109, 105, 120, 101, 100]⟩ : ByteArray), (⟨#[97, 117, 116, 111]⟩ : ByteArray), (⟨#[99, 111, 110, 103, 114]⟩ : ByteArray), (⟨#[116, 114, 121]⟩ : ByteArray), (⟨#[108, 111, 111, 112]⟩ : ByteArray), (⟨#[101, 97, 99, 104]⟩ : ByteArray), (⟨#[115, 107, 105, 112]⟩ : ByteArray), (⟨#[102, 97, 105, 108]⟩ : ByteArray)] : List ByteArray)) (inner := [.string (⟨#[116, 114, 117, 101]⟩ : ByteArray), .string (⟨#[102, 97, 108, 115, 101]⟩ : ByteArray), .string (⟨#[115, 111, 114, 116]⟩ : ByteArray), .string (⟨#[102, 117, 110]⟩ : ByteArray), .string (⟨#[112, 114, 101, 100]⟩ : ByteArray), .string (⟨#[97, 120, 105, 111, 109]⟩ : ByteArray), .string (⟨#[116, 104, 101, 111, 114, 101, 109]⟩ : ByteArray), .string (⟨#[112, 114, 111, 111, 102]⟩ : ByteArray), .string (⟨#[113, 101, 100]⟩ : ByteArray), .string (⟨#[97, 115]⟩ : ByteArray), .string (⟨#[98, 97, 99, 107]⟩ : ByteArray), .string (⟨#[105, 110, 116, 114, 111]⟩ : ByteArray), .string (⟨#[115, 112, 108, 105, 116]⟩ : ByteArray), .string (⟨#[108, 101, 102, 116]⟩ : ByteArray), .string (⟨#[114, 105, 103, 104, 116]⟩ : ByteArray), .string (⟨#[101, 120, 97, 99, 116]⟩ : ByteArray), .string (⟨#[97, 115, 115, 117, 109, 101]⟩ : ByteArray), .string (⟨#[97, 112, 112, 108, 121]⟩ : ByteArray), .string (⟨#[119, 105, 116, 110, 101, 115, 115]⟩ : ByteArray), .string (⟨#[99, 97, 115, 101, 115]⟩ : ByteArray), .string (⟨#[104, 97, 118, 101]⟩ : ByteArray), .string (⟨#[99, 111, 110, 116, 114, 97]⟩ : ByteArray), .string (⟨#[114, 101, 102, 108]⟩ : ByteArray), .string (⟨#[115, 119, 97, 112]⟩ : ByteArray), .string (⟨#[112, 114, 111, 112]⟩ : ByteArray), .string (⟨#[97, 114, 105, 116, 104]⟩ : ByteArray), .string (⟨#[109, 105, 120, 101, 100]⟩ : ByteArray), .string (⟨#[97, 117, 116, 111]⟩ : ByteArray), .string (⟨#[99, 111, 110, 103, 114]⟩ : ByteArray), .string (⟨#[116, 114, 121]⟩ : ByteArray), .string (⟨#[108, 111, 111, 112]⟩ : ByteArray), .string (⟨#[101, 97, 99, 104]⟩ : ByteArray), .string (⟨#[115, 107, 105, 112]⟩ : ByteArray), .string (⟨#[102, 97, 105, 108]⟩ : ByteArray)]) (ok := fun _ => True) (okp := fun _ => True) ?hr ?hp (fun _ hk => hk) trivial (Below.refl _ _) (Nat.le_refl _) (by simp) ?_; (case hd => rfl); (case hg => rfl); (case hr => first | (go_simp; done) | (go_simp; rfl)); (case hp => exact (Reps.one (show Kd.M Kd.string _ _ _ (⟨#[116, 114, 117, 101]⟩ : ByteArray) [.string (⟨#[116, 114, 117, 101]⟩ : ByteArray)] from rfl) (Reps.one (show Kd.M Kd.string _ _ _ (⟨#[102, 97, 108, 115, 101]⟩ : ByteArray) [.string (⟨#[102, 97, 108, 115, 101]⟩ : ByteArray)] from rfl) (Reps.one (show Kd.M Kd.string _ _ _ (⟨#[115, 111, 114, 116]⟩ : ByteArray) [.string (⟨#[115, 111, 114, 116]⟩ : ByteArray)] from rfl) (Reps.one (show Kd.M Kd.string _ _ _ (⟨#[102, 117, 110]⟩ : ByteArray) [.string (⟨#[102, 117, 110]⟩ : ByteArray)] from rfl) (Reps.one (show Kd.M Kd.string _ _ _ (⟨#[112, 114, 101, 100]⟩ : ByteArray) [.string (⟨#[112, 114, 101, 100]⟩ : ByteArray)] from rfl) (Reps.one (show Kd.M Kd.string _ _ _ (⟨#[97, 120, 105, 111, 109]⟩ : ByteArray) [.string (⟨#[97, 120, 105, 111, 109]⟩ : ByteArray)] from rfl) (Reps.one (show Kd.M Kd.string _ _ _ (⟨#[116, 104, 101, 111, 114, 101, 109]⟩ : ByteArray) [.string (⟨#[116, 104, 101, 111, 114, 101, 109]⟩ : ByteArray)] from rfl) (Reps.one (show Kd.M Kd.string _ _ _ (⟨#[112, 114, 111, 111, 102]⟩ : ByteArray) [.string (⟨#[112, 114, 111, 111, 102]⟩ : ByteArray)] from rfl) (Reps.one (show Kd.M Kd.string _ _ _ (⟨#[113, 101, 100]⟩ : ByteArray) [.string (⟨#[113, 101, 100]⟩ : ByteArray)] from rfl) (Reps.one (show Kd.M Kd.string _ _ _ (⟨#[97, 115]⟩ : ByteArray) [.string (⟨#[97, 115]⟩ : ByteArray)] from rfl) (Reps.one (show Kd.M Kd.string _ _ _ (⟨#[98, 97, 99, 107]⟩ : ByteArray) [.string (⟨#[98, 97, 99, 107]⟩ : ByteArray)] from rfl) (Reps.one (show Kd.M Kd.string _ _ _ (⟨#[105, 110, 116, 114, 111]⟩ : ByteArray) [.string (⟨#[105, 110, 116, 114, 111]⟩ : ByteArray)] from rfl) (Reps.one (show Kd.M Kd.string _ _ _ (⟨#[115, 112, 108, 105, 116]⟩ : ByteArray) [.string (⟨#[115, 112, 108, 105, 116]⟩ : ByteArray)] from rfl) (Reps.one (show Kd.M Kd.string _ _ _ (⟨#[108, 101, 102, 116]⟩ : ByteArray) [.string (⟨#[108, 101, 102, 116]⟩ : ByteArray)] from rfl) (Reps.one (show Kd.M Kd.string _ _ _ (⟨#[114, 105, 103, 104, 116]⟩ : ByteArray) [.string (⟨#[114, 105, 103, 104, 116]⟩ : ByteArray)] from rfl) (Reps.one (show Kd.M Kd.string _ _ _ (⟨#[101, 120, 97, 99, 116]⟩ : ByteArray) [.string (⟨#[101, 120, 97, 99, 116]⟩ : ByteArray)] from rfl) (Reps.one (show Kd.M Kd.string _ _ _ (⟨#[97, 115, 115, 117, 109, 101]⟩ : ByteArray) [.string (⟨#[97, 115, 115, 117, 109, 101]⟩ : ByteArray)] from rfl) (Reps.one (show Kd.M Kd.string _ _ _ (⟨#[97, 112, 112, 108, 121]⟩ : ByteArray) [.string (⟨#[97, 112, 112, 108, 121]⟩ : ByteArray)] from rfl) (Reps.one (show Kd.M Kd.string _ _ _ (⟨#[119, 105, 116, 110, 101, 115, 115]⟩ : ByteArray) [.string (⟨#[119, 105, 116, 110, 101, 115, 115]⟩ : ByteArray)] from rfl) (Reps.one (show Kd.M Kd.string _ _ _ (⟨#[99, 97, 115, 101, 115]⟩ : ByteArray) [.string (⟨#[99, 97, 115, 101, 115]⟩ : ByteArray)] from rfl) (Reps.one (show Kd.M Kd.string _ _ _ (⟨#[104, 97, 118, 101]⟩ : ByteArray) [.string (⟨#[104, 97, 118, 101]⟩ : ByteArray)] from rfl) (Reps.one (show Kd.M Kd.string _ _ _ (⟨#[99, 111, 110, 116, 114, 97]⟩ : ByteArray) [.string (⟨#[99, 111, 110, 116, 114, 97]⟩ : ByteArray)] from rfl) (Reps.one (show Kd.M Kd.string _ _ _ (⟨#[114, 101, 102, 108]⟩ : ByteArray) [.string (⟨#[114, 101, 102, 108]⟩ : ByteArray)] from rfl) (Reps.one (show Kd.M Kd.string _ _ _ (⟨#[115, 119, 97, 112]⟩ : ByteArray) [.string (⟨#[115, 119, 97, 112]⟩ : ByteArray)] from rfl) (Reps.one (show Kd.M Kd.string _ _ _ (⟨#[112, 114, 111, 112]⟩ : ByteArray) [.string (⟨#[112, 114, 111, 112]⟩ : ByteArray)] from rfl) (Reps.one (show Kd.M Kd.string _ _ _ (⟨#[97, 114, 105, 116, 104]⟩ : ByteArray) [.string (⟨#[97, 114, 105, 116, 104]⟩ : ByteArray)] from rfl) (Reps.one (show Kd.M Kd.string _ _ _ (⟨#[109, 105, 120, 101, 100]⟩ : ByteArray) [.string (⟨#[109, 105, 120, 101, 100]⟩ : ByteArray)] from rfl) (Reps.one (show Kd.M Kd.string _ _ _ (⟨#[97, 117, 116, 111]⟩ : ByteArray) [.string (⟨#[97, 117, 116, 111]⟩ : ByteArray)] from rfl) (Reps.one (show Kd.M Kd.string _ _ _ (⟨#[99, 111, 110, 103, 114]⟩ : ByteArray) [.string (⟨#[99, 111, 110, 103, 114]⟩ : ByteArray)] from rfl) (Reps.one (show Kd.M Kd.string _ _ _ (⟨#[116, 114, 121]⟩ : ByteArray) [.string (⟨#[116, 114, 121]⟩ : ByteArray)] from rfl) (Reps.one (show Kd.M Kd.string _ _ _ (⟨#[108, 111, 111, 112]⟩ : ByteArray) [.string (⟨#[108, 111, 111, 112]⟩ : ByteArray)] from rfl) (Reps.one (show Kd.M Kd.string _ _ _ (⟨#[101, 97, 99, 104]⟩ : ByteArray) [.string (⟨#[101, 97, 99, 104]⟩ : ByteArray)] from rfl) (Reps.one (show Kd.M Kd.string _ _ _ (⟨#[115, 107, 105, 112]⟩ : ByteArray) [.string (⟨#[115, 107, 105, 112]⟩ : ByteArray)] from rfl) (Reps.one (show Kd.M Kd.string _ _ _ (⟨#[102, 97, 105, 108]⟩ : ByteArray) [.string (⟨#[102, 97, 105, 108]⟩ : ByteArray)] from rfl) (Reps.none _ _)))))))))))))))))))))))))))))))))))); intro v519 w3 ho4 hb hg_ hnew_; clear hg_ hnew_; (first | rw [← Ny518.out] at ho4 | (simp only [Int.reduceToNat] at ho4; rw [← Ny518.out] at ho4)); have HO520 := am (Kd.R_lower ho4 (below_size bB)); replace HB := bH hb; clear hb ho4; obtain ⟨Ao5, co5, eo5⟩ := Kd.R_slice HO520.out; subst eo5) | ((with_reducible refine gate_callee (f := 10) rfl ?_); refine gL 7 Tryd.func10 #[.slice Ao5 y518.length co5, .string a0] ?_; (with_reducible refine (sequiturbase_Has.calls k _ _ y518 a0 t521 _ ?side1 ?side2 A2.out).mono ?_); (case side1 => repeat (first | exact (Kd.R_reads' HO520.out).2.2 | (with_reducible refine Kd.C_alloc ?_ _) | (with_reducible refine Kd.C_drewN ?_ _) | (with_reducible refine Kd.C_drew ?_))); (case side2 => exact (Kd.R_reads' HO520.out).2.1); rintro e w' ⟨rfl, ⟨nd, rfl⟩⟩; refine ⟨_, rfl, ?_⟩))
  go_ret; exact ⟨eW, bB⟩
/-! ### sequiturref14_called: function 70 -/
def sequiturref14_called.j0 : Nat → ByteArray → List ByteArray → Bool → Option (ByteArray)
  | 0, _, _, _ => none
  | k + 1, x0, x1, x12 => if x12 = true then ((sequiturref14_Fresh.f k (⟨#[120]⟩ : ByteArray) x1).bind fun t524 => (some t524)) else ((sequiturref14_Fresh.f k x0 x1).bind fun t525 => (if (t525.size : Int) > 32 then ((sequiturref14_Fresh.f k (⟨#[120]⟩ : ByteArray) x1).bind fun t526 => (some t526)) else (some t525)))
def sequiturref14_called.f (k : Nat) (a0 : ByteArray) (l1 : List ByteArray) : Option (ByteArray) := (sequiturbase_Name.f k a0).bind fun t522 => (if t522 = true then ((sequiturref05_Word.f k a0).bind fun t523 => (sequiturref14_called.j0 k a0 l1 t523)) else (sequiturref14_called.j0 k a0 l1 true))
set_option maxHeartbeats 8000000 in
set_option maxRecDepth 100000 in
theorem sequiturref14_called.calls (k : Nat) (a0 : ByteArray) (A1 : Option Addr) (c1 : Nat) (l1 : List ByteArray) (r : ByteArray) (w : World) (hr1 : Kd.C Kd.string w A1 l1.length l1) (hc1 : l1.length ≤ c1) (h : sequiturref14_called.f k a0 l1 = some r) :
    Calls Tryd.prog 70 #[.string a0, .slice A1 l1.length c1] w fun e w' => e = .returned (.string r) ∧ Below w.heap.size w w' := by
  have HR1 := am hr1; have HC1 := am hc1; clear hr1 hc1; have HB := am (Below.refl w.heap.size w); have H := h; unfold sequiturref14_called.f at H; clear h; have HC3 := am H; clear H
  go_enter Tryd.func70, Tryd.ntmps70
  go_upto_region 1 with (fail)
  go_cut [12] (fun v12 wc => ∃ (kq : Nat) (x12_2 : Bool), v12 = .bool x12_2 ∧ Aside0 (sequiturref14_called.j0 kq a0 l1 x12_2 = some r) ∧ Aside0 (kq ≤ k) ∧ Aside0 (Below w.heap.size w wc))
  case first =>
   have H := HC3.out; clear HC3; obtain ⟨t522, A4, H⟩ := bO H
   by_cases c5 : t522 = true
   ·subst c5
    rw [if_pos rfl] at H; obtain ⟨t523, A6, H⟩ := bO H; have H' := am H; clear H
    go_wp2_with (first | ((with_reducible refine gate_callee (f := 83) rfl ?_); refine gL 7 Tryd.func83 #[.string a0] ?_; (with_reducible refine (sequiturbase_Name.calls k a0 true _ A4.out).mono ?_); rintro e w' ⟨rfl, ⟨nd, rfl⟩⟩; refine ⟨_, rfl, ?_⟩) | (go_at_call 84; (with_reducible refine (sequiturref05_Word.calls k a0 t523 _ A6.out).mono ?_); rintro e w7 ⟨rfl, hb⟩; replace HB := bH hb; clear hb))
    go_meet
    case rel => exact ⟨_, (t523), eS, H', ⟨eO⟩, ⟨bB⟩⟩
   ·replace c5 := Bool.eq_false_iff.mpr c5
    subst c5; rw [if_neg (show ¬ (false = true) by decide)] at H; have H' := am H; clear H
    go_wp2_with (first | ((with_reducible refine gate_callee (f := 83) rfl ?_); refine gL 7 Tryd.func83 #[.string a0] ?_; (with_reducible refine (sequiturbase_Name.calls k a0 false _ A4.out).mono ?_); rintro e w' ⟨rfl, ⟨nd, rfl⟩⟩; refine ⟨_, rfl, ?_⟩))
    go_meet
    case rel => exact ⟨_, (true), eS, H', ⟨eO⟩, ⟨bB⟩⟩
  case rest =>
   clear HC3; (try clear c1); (try clear p2); (try clear c5); (try clear c7); obtain ⟨kq, x12_2, rfl, HA, HJ2, HB⟩ := hcut
   cases kq with
   | zero => exact absurd HA.out (by simp [sequiturref14_called.j0])
   | succ kj2 =>
    have H := HA.out; clear HA; simp only [sequiturref14_called.j0] at H
    by_cases c8 : x12_2 = true
    ·subst c8
     rw [if_pos rfl] at H; obtain ⟨t524, A9, H⟩ := bO H; obtain rfl := Option.some.inj H
     go_wp2_with (first | ((with_reducible refine gate_callee (f := 9) rfl ?_); refine gL 14 Tryd.func9 #[.string (⟨#[120]⟩ : ByteArray), .slice A1 l1.length c1] ?_; (with_reducible refine (sequiturref14_Fresh.calls kj2 (⟨#[120]⟩ : ByteArray) _ _ l1 t524 _ ?side1 HC1.out A9.out).mono ?_); (case side1 => exact cB HR1); rintro e w10 ⟨rfl, hb⟩; refine ⟨_, rfl, ?_⟩; replace HB := bH hb; clear hb))
     go_ret; exact ⟨eW, bB⟩
    ·replace c8 := Bool.eq_false_iff.mpr c8
     subst c8; rw [if_neg (show ¬ (false = true) by decide)] at H; obtain ⟨t525, A11, H⟩ := bO H
     by_cases c12 : (t525.size : Int) > 32
     ·rw [if_pos c12] at H
      have c12b0 : decide (32 < (t525.size : Int)) = true := decide_eq_true c12; have c12b1 : decide (32 < t525.size) = true := decide_eq_true (by omega); clear c12; obtain ⟨t526, A13, H⟩ := bO H; obtain rfl := Option.some.inj H
      go_wp2_with (first | ((with_reducible refine gate_callee (f := 9) rfl ?_); refine gL 17 Tryd.func9 #[.string a0, .slice A1 l1.length c1] ?_; (with_reducible refine (sequiturref14_Fresh.calls kj2 a0 _ _ l1 t525 _ ?side1 ?side2 A11.out).mono ?_); (case side1 => exact cB HR1); (case side2 => exact HC1.out); rintro e w14 ⟨rfl, hb⟩; refine ⟨_, rfl, ?_⟩; replace HB := bH hb; clear hb) | ((with_reducible refine gate_callee (f := 9) rfl ?_); refine gL 22 Tryd.func9 #[.string (⟨#[120]⟩ : ByteArray), .slice A1 l1.length c1] ?_; (with_reducible refine (sequiturref14_Fresh.calls kj2 (⟨#[120]⟩ : ByteArray) _ _ l1 t526 _ ?side1 ?side2 A13.out).mono ?_); (case side1 => exact cB HR1); (case side2 => exact HC1.out); rintro e w15 ⟨rfl, hb⟩; refine ⟨_, rfl, ?_⟩; replace HB := bH hb; clear hb))
      go_ret; exact ⟨eW, bB⟩
     ·rw [if_neg c12] at H
      have c12b0 : decide (32 < (t525.size : Int)) = false := decide_eq_false c12; have c12b1 : decide (32 < t525.size) = false := decide_eq_false (by omega); clear c12; obtain rfl := Option.some.inj H
      go_wp2_with (first | ((with_reducible refine gate_callee (f := 9) rfl ?_); refine gL 17 Tryd.func9 #[.string a0, .slice A1 l1.length c1] ?_; (with_reducible refine (sequiturref14_Fresh.calls kj2 a0 _ _ l1 t525 _ ?side1 HC1.out A11.out).mono ?_); (case side1 => exact cB HR1); rintro e w16 ⟨rfl, hb⟩; refine ⟨_, rfl, ?_⟩; replace HB := bH hb; clear hb))
      go_ret; exact ⟨eW, bB⟩
end Go.Proofs.YtmlkllbaehegjaaDoor.PAll
end
section
namespace Go.Proofs.YtmlkllbaehegjaaDoor.PAll
open Go.RowKit
open Go.Proofs.YtmlkllbaehegjaaDoor
open Go.Proofs.YtmlkllbaehegjaaDoorW.PrintWords (rdOf bt)
def okAt (s : ByteArray) (m : Nat) : Prop := letterI (bt s (m : Int)) = true ∨ (m ≠ 0 ∧ innerI (bt s (m : Int)) = true)
theorem bt_nat (s : ByteArray) {m : Nat} (h : m < s.size) : bt s (m : Int) = ((s.data.toList[m]'(by rw [size_list]; exact h)).toNat : Int) := by
  simp [bt, h]
  rfl
theorem letter_inner {c : Int} (h : letterI c = true) : innerI c = true := by unfold innerI; rw [h]; rfl
theorem nameB_iff (s : ByteArray) : nameB s.data.toList = true ↔ (0 < s.size ∧ s.size ≤ 32 ∧ ∀ m, m < s.size → okAt s m) := by
  have hlen := size_list s
  constructor
  · intro h
    simp only [nameB, Bool.and_eq_true, decide_eq_true_eq, List.all_eq_true] at h
    obtain ⟨⟨⟨h1, h2⟩, h3⟩, h4⟩ := h
    have h0 : 0 < s.size := by
      rw [← hlen]
      cases hl : s.data.toList with
      | nil => rw [hl] at h1; simp at h1
      | cons b l => simp
    refine ⟨h0, by omega, fun m hm => ?_⟩
    unfold okAt
    rw [bt_nat s hm]
    by_cases q : m = 0
    · subst q
      left
      rw [headD_zero h0] at h3
      exact h3
    · right
      exact ⟨q, h4 _ (List.getElem_mem _)⟩
  · rintro ⟨h0, h1, h2⟩
    simp only [nameB, Bool.and_eq_true, decide_eq_true_eq, List.all_eq_true]
    refine ⟨⟨⟨?_, by omega⟩, ?_⟩, ?_⟩
    · cases hl : s.data.toList with
      | nil => rw [hl] at hlen; simp at hlen; omega
      | cons b l => rfl
    · rw [headD_zero h0]
      rcases h2 0 h0 with h | h
      · rw [bt_nat s h0] at h
        exact h
      · exact absurd rfl h.1
    · intro b hb
      obtain ⟨m, hm, rfl⟩ := List.mem_iff_getElem.mp hb
      rcases h2 m (by omega) with h | h
      · rw [bt_nat s (by omega)] at h
        exact letter_inner h
      · have := h.2
        rw [bt_nat s (by omega)] at this
        exact this
theorem name_l0 (s : ByteArray) (hs : s.size ≤ 1000000000) : ∀ (j i : Nat), i + j = s.size → Tot (fun k => sequiturbase_Name.l0 k s (i : Int)) (fun r => r = true ↔ (0 < s.size ∧ s.size ≤ 32 ∧ ∀ m, i ≤ m → m < s.size → okAt s m)) := by
  intro j
  induction j with
  | zero =>
    intro i hi
    refine Tot.step ?_
    simp only [sequiturbase_Name.l0]
    refine Tot.ite (fun h => absurd h (by omega)) (fun _ => Tot.ite (fun h => Tot.const ?_) (fun h => Tot.const ?_))
    · constructor
      · intro e
        exact ⟨by omega, by simp at e; omega, fun m h1 h2 => by omega⟩
      · rintro ⟨_, h1, _⟩
        simp
        omega
    · constructor
      · intro e
        cases e
      · rintro ⟨h1, _⟩
        omega
  | succ j ih =>
    intro i hi
    have hi2 := ih (i + 1) (by omega)
    obtain ⟨c, hc⟩ : ∃ c : Int, c = bt s (i : Int) := ⟨_, rfl⟩
    have hin : innerI c = (letterI c || (decide (48 ≤ c) && decide (c ≤ 57)) || c == 39) := rfl
    have no : ¬ okAt s i → Tot (fun k => sequiturbase_Name.j2 k s (i : Int) true) (fun r => r = true ↔ (0 < s.size ∧ s.size ≤ 32 ∧ ∀ m, i ≤ m → m < s.size → okAt s m)) := by
      intro h
      refine Tot.step ?_
      simp only [sequiturbase_Name.j2]
      refine Tot.ite (fun _ => Tot.const ?_) (fun h => absurd trivial h)
      exact ⟨fun e => (by cases e), fun e => absurd (e.2.2 i (by omega) (by omega)) h⟩
    have yes : okAt s i → Tot (fun k => sequiturbase_Name.j2 k s (i : Int) false) (fun r => r = true ↔ (0 < s.size ∧ s.size ≤ 32 ∧ ∀ m, i ≤ m → m < s.size → okAt s m)) := by
      intro h
      refine Tot.step ?_
      simp only [sequiturbase_Name.j2]
      refine Tot.ite (fun h => by cases h) (fun _ => ?_)
      rw [wrapN (x := (i : Int) + 1) (n := i + 1) (by omega) (by omega)]
      obtain ⟨r, h1, h2⟩ := hi2
      refine ⟨r, h1, h2.trans ⟨?_, ?_⟩⟩
      · rintro ⟨a, b, e⟩
        refine ⟨a, b, fun m h3 h4 => ?_⟩
        by_cases q : m = i
        · rw [q]; exact h
        · exact e m (by omega) h4
      · rintro ⟨a, b, e⟩
        exact ⟨a, b, fun m h3 h4 => e m (by omega) h4⟩
    have j1 : ∀ b : Bool, b = letterI c → Tot (fun k => sequiturbase_Name.j1 k s (i : Int) b) (fun r => r = true ↔ (0 < s.size ∧ s.size ≤ 32 ∧ ∀ m, i ≤ m → m < s.size → okAt s m)) := by
      intro b hb
      have hok : okAt s i ↔ (letterI c = true ∨ (i ≠ 0 ∧ innerI c = true)) := by unfold okAt; rw [hc]
      refine Tot.step ?_
      simp only [sequiturbase_Name.j1]
      rw [← hc]
      refine Tot.ite (fun h => yes (hok.mpr (.inl (by rw [← hb]; exact h)))) (fun h => ?_)
      have hlf : letterI c = false := by rw [← hb]; simpa using h
      rw [hlf] at hok hin
      refine Tot.ite (fun h0 => no (fun e => ?_)) (fun h0 => Tot.ite (fun _ => Tot.ite (fun _ => Tot.ite (fun h39 => yes (hok.mpr (.inr ⟨by omega, ?_⟩))) (fun h39 => Tot.ite (fun h48 => no (fun e => ?_)) (fun h48 => ?_))) (fun h => absurd h (by omega))) (fun h => absurd h (by omega)))
      · rcases hok.mp e with h | h
        · cases h
        · exact absurd (by omega) h.1
      · rw [hin, h39]
        rfl
      · rcases hok.mp e with h | h
        · cases h
        · have := h.2
          rw [hin] at this
          simp at this
          omega
      · by_cases q : c > 57
        · rw [decide_eq_true q]
          refine no (fun e => ?_)
          rcases hok.mp e with h | h
          · cases h
          · have := h.2
            rw [hin] at this
            simp at this
            omega
        · rw [decide_eq_false q]
          refine yes (hok.mpr (.inr ⟨by omega, ?_⟩))
          rw [hin]
          simp
          omega
    refine Tot.step ?_
    simp only [sequiturbase_Name.l0]
    rw [← hc]
    have last : ¬ (65 ≤ c ∧ c ≤ 90) → ¬ (97 ≤ c ∧ c ≤ 122) → (c == 95) = letterI c := by
      intro h1 h2
      unfold letterI
      by_cases q : c = 95
      · simp [q]
      · rw [beq_eq_false_iff_ne.mpr q]
        simp
        omega
    refine Tot.ite (fun _ => Tot.ite (fun _ => Tot.ite (fun h1 => Tot.ite (fun h2 => j1 true ?_) (fun h2 => Tot.ite (fun h3 => Tot.ite (fun h4 => j1 true ?_) (fun h4 => j1 _ (last ?_ ?_))) (fun h3 => j1 _ (last ?_ ?_)))) (fun h1 => Tot.ite (fun h3 => Tot.ite (fun h4 => j1 true ?_) (fun h4 => j1 _ (last ?_ ?_))) (fun h3 => j1 _ (last ?_ ?_)))) (fun h => absurd h (by omega))) (fun h => absurd h (by omega))
    all_goals first
      | omega
      | (unfold letterI; simp; omega)
theorem name_ev (s : ByteArray) (hs : s.size ≤ 1000000000) : Ev (fun k => sequiturbase_Name.f k s) (nameB s.data.toList) := by
  obtain ⟨r, h1, h2⟩ := name_l0 s hs s.size 0 (by omega)
  refine Ev.eq h1 ?_
  have := nameB_iff s
  rw [Bool.eq_iff_iff, h2, this]
  constructor
  · rintro ⟨a, b, c⟩
    exact ⟨a, b, fun m hm => c m (by omega) hm⟩
  · rintro ⟨a, b, c⟩
    exact ⟨a, b, fun m _ hm => c m hm⟩
theorem word_ev (s : ByteArray) : Ev (fun k => sequiturref05_Word.f k s) (wordB s.data.toList) := by
  have h := has_ev wordsL s (by rw [wordsL_len]; omega)
  have : wordB s.data.toList = decide (s ∈ wordsL) := by
    unfold wordB
    rw [Bool.eq_iff_iff, List.any_eq_true, decide_eq_true_eq]
    constructor
    · rintro ⟨x, hx, he⟩
      have e : x.data.toList = s.data.toList := by simpa using he
      have : x = s := by
        cases x; cases s
        congr
        exact Array.toList_inj.mp e
      rw [← this]; exact hx
    · intro h
      exact ⟨s, h, by simp⟩
  rw [this]
  exact Ev.bind h (Ev.const _)
theorem called_both (s l2 : List ByteArray) (a1 : ByteArray) (hs : a1.size ≤ 1000) (hl : s.length + l2.length ≤ 100000) :
    ∃ r, Ev (fun k => shower_called.f k s a1 l2) r ∧ Ev (fun k => sequiturref14_called.f k a1 (s ++ l2)) r ∧ r.size ≤ 32 := by
  have hlen : (s ++ l2).length < 1000000 := by rw [List.length_append]; omega
  obtain ⟨tx, x1, x2, _, _, x3⟩ := fresh_both (⟨#[120]⟩ : ByteArray) (s ++ l2) (by decide) hlen
  have hx : (⟨#[120]⟩ : ByteArray).size = 1 := rfl
  rw [hx] at x3
  have refx : Ev (fun k => sequiturref14_called.j0 k a1 (s ++ l2) true) tx := by
    refine Ev.step ?_
    simp only [sequiturref14_called.j0]
    exact Ev.pos trivial (Ev.bind x2 (Ev.const _))
  by_cases q : (nameB a1.data.toList && !wordB a1.data.toList) = true
  · have qn : nameB a1.data.toList = true := by
      rw [Bool.and_eq_true] at q; exact q.1
    have qw : wordB a1.data.toList = false := by
      rw [Bool.and_eq_true] at q; simpa using q.2
    obtain ⟨ta, a3, a2, _, _, a4⟩ := fresh_both a1 (s ++ l2) (by omega) hlen
    refine ⟨if (ta.size : Int) ≤ 32 then ta else tx, ?_, ?_, ?_⟩
    · refine Ev.pos ⟨by omega, by omega⟩ (Ev.bind (a := ta) ?_ ?_)
      · have : calledName a1 = a1 := by unfold calledName; rw [if_pos q]
        rw [this]; exact a3
      · by_cases q2 : (ta.size : Int) ≤ 32
        · rw [if_pos q2]
          exact Ev.pos q2 (Ev.const _)
        · rw [if_neg q2]
          exact Ev.neg q2 x1
    · refine Ev.bind (name_ev a1 (by omega)) (Ev.pos qn (Ev.bind (word_ev a1) ?_))
      rw [qw]
      refine Ev.step ?_
      simp only [sequiturref14_called.j0]
      refine Ev.neg (by simp) (Ev.bind a2 ?_)
      by_cases q2 : (ta.size : Int) ≤ 32
      · rw [if_pos q2]
        exact Ev.neg (by omega) (Ev.const _)
      · rw [if_neg q2]
        exact Ev.pos (by omega) (Ev.bind x2 (Ev.const _))
    · split <;> omega
  · refine ⟨tx, ?_, ?_, by omega⟩
    · refine Ev.pos ⟨by omega, by omega⟩ (Ev.bind (a := tx) ?_ (Ev.pos (by omega) (Ev.const _)))
      have : calledName a1 = ⟨#[120]⟩ := by unfold calledName; rw [if_neg q]
      rw [this]; exact x1
    · refine Ev.bind (name_ev a1 (by omega)) ?_
      by_cases qn : nameB a1.data.toList = true
      · refine Ev.pos qn (Ev.bind (word_ev a1) ?_)
        have : wordB a1.data.toList = true := by
          rw [qn] at q
          simpa using q
        rw [this]; exact refx
      · exact Ev.neg qn refx
end Go.Proofs.YtmlkllbaehegjaaDoor.PAll
end
