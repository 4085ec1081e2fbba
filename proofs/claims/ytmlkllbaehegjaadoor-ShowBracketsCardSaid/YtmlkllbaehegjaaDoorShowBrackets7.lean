-- Words of the kit's print, walks printed by a program of this session (wip/prt) in shorter words, and texts of this session, merged (pack.py).
import Derived.Test.YtmlkllbaehegjaaDoorShowBrackets3
import Derived.Test.YtmlkllbaehegjaaDoorShowBrackets6
section
namespace Go.Proofs.YtmlkllbaehegjaaDoor.PAll
open Go.RowKit Go.Proofs.YtmlkllbaehegjaaDoorW.PrintWords Go.Proofs.YtmlkllbaehegjaaDoorW.PrintLast Go.Proofs.YtmlkllbaehegjaaDoorW.PrintMore
attribute [local go_sem] max2_int min2_int max_two min_two max_three min_three max_four min_four   -- for this text's walks alone
set_option linter.unusedVariables false
set_option linter.unusedSimpArgs false
/-! ### sequiturbase_weight: function 42 -/
mutual
def sequiturbase_weight.j1 : Nat → Int → Int → Int → ByteArray → ByteArray → List (S53) → List (S30) → Option (Int)
  | 0, _, _, _, _, _, _, _ => none
  | k + 1, x1, x5, x376000, x376001, x376002, x376003, x376004 => sequiturbase_weight.l1 k x1 x5 0 x376000 x376001 x376002 x376003 x376004
def sequiturbase_weight.l1 : Nat → Int → Int → Int → Int → ByteArray → ByteArray → List (S53) → List (S30) → Option (Int)
  | 0, _, _, _, _, _, _, _, _ => none
  | k + 1, x1, x5, x7, x376000, x376001, x376002, x376003, x376004 => if x7 < (x376004.length : Int) then (if x5 ≤ x1 then (if 0 ≤ x7 then ((sequiturbase_weight.f k ((rd_T30 x376004 x7).f0) ((rd_T30 x376004 x7).f1) ((rd_T30 x376004 x7).f2) ((rd_T30 x376004 x7).f3) ((rd_T30 x376004 x7).f4) (wrap64 (x1 - x5))).bind fun t379 => (sequiturbase_weight.l1 k x1 (wrap64 (x5 + t379)) (wrap64 (x7 + 1)) x376000 x376001 x376002 x376003 x376004)) else (none)) else (some x5)) else (some x5)
def sequiturbase_weight.l0 : Nat → Int → Int → Int → Int → ByteArray → ByteArray → List (S53) → List (S30) → Option (Int)
  | 0, _, _, _, _, _, _, _, _ => none
  | k + 1, x1, x5, x6, x376000, x376001, x376002, x376003, x376004 => if x6 < (x376003.length : Int) then (if x5 ≤ x1 then (if 0 ≤ x6 then ((sequiturbase_Size.f k ((rd_T53 x376003 x6).f0) ((rd_T53 x376003 x6).f1) ((rd_T53 x376003 x6).f2) ((rd_T53 x376003 x6).f3) (wrap64 (x1 - x5))).bind fun t377 => (sequiturbase_weight.l0 k x1 (wrap64 (x5 + t377)) (wrap64 (x6 + 1)) x376000 x376001 x376002 x376003 x376004)) else (none)) else (sequiturbase_weight.j1 k x1 x5 x376000 x376001 x376002 x376003 x376004)) else (sequiturbase_weight.j1 k x1 x5 x376000 x376001 x376002 x376003 x376004)
def sequiturbase_weight.f : Nat → Int → ByteArray → ByteArray → List (S53) → List (S30) → Int → Option (Int)
  | 0, _, _, _, _, _, _ => none
  | k + 1, a0_0, a0_1, a0_2, l0_3, l0_4, a1 => sequiturbase_weight.l0 k a1 1 0 a0_0 a0_1 a0_2 l0_3 l0_4
end
set_option maxHeartbeats 8000000 in
set_option maxRecDepth 100000 in
theorem sequiturbase_weight.calls (k : Nat) : ∀ (a0_0 : Int) (a0_1 : ByteArray) (a0_2 : ByteArray) (A0_3 : Option Addr) (c0_3 : Nat) (l0_3 : List (S53)) (A0_4 : Option Addr) (c0_4 : Nat) (l0_4 : List (S30)) (a1 : Int) (r : Int) (w : World) (hr0_3 : Kd.C k53 w A0_3 l0_3.length l0_3) (hc0_3 : l0_3.length ≤ c0_3) (hr0_4 : Kd.C k30 w A0_4 l0_4.length l0_4) (hc0_4 : l0_4.length ≤ c0_4) (h : sequiturbase_weight.f k a0_0 a0_1 a0_2 l0_3 l0_4 a1 = some r),
    Calls Tryd.prog 42 #[.agg #[.int .i64 a0_0, .string a0_1, .string a0_2, .slice A0_3 l0_3.length c0_3, .slice A0_4 l0_4.length c0_4], .int .i64 a1] w fun e w' => e = .returned (.int .i64 r) ∧ Below w.heap.size w w' := by
  induction k using Nat.strongRecOn with
  | _ k ih =>
  intro a0_0 a0_1 a0_2 A0_3 c0_3 l0_3 A0_4 c0_4 l0_4 a1 r w hr0_3 hc0_3 hr0_4 hc0_4 h
  cases k with
  | zero => exact absurd h (by simp [sequiturbase_weight.f])
  | succ k =>
  simp only [sequiturbase_weight.f] at h; have hu30 := Tryd.underlying30; have hu53 := Tryd.underlying53; have HR0_3 := am hr0_3; have HC0_3 := am hc0_3; clear hr0_3 hc0_3; have HR0_4 := am hr0_4; have HC0_4 := am hc0_4; clear hr0_4 hc0_4; have HB := am (Below.refl w.heap.size w); have H := h; clear h; have HC3 := am H; clear H
  go_enter Tryd.func42, Tryd.ntmps42
  go_upto_block 0 with (first | ((with_reducible refine gate_dst (N := 2) rfl ?_); refine bE 2 #[.int .i64 a0_0, .string a0_1, .string a0_2, .slice A0_3 l0_3.length c0_3, .slice A0_4 l0_4.length c0_4] 30 ?_; intro gb375 w4 BK375 hg hb; have GW375 := bZ hg; have GE375 := bZ hg; replace HB := bH hb; clear hb hg))
  (try simp only [Act.put, List.setIfInBounds_toArray, List.set_cons_zero, List.set_cons_succ])
  go_cut [5] (fun v5 wc => ∃ (kq : Nat) (x5_2 : Int), v5 = .int .i64 x5_2 ∧ Aside0 (sequiturbase_weight.j1 kq a1 x5_2 a0_0 a0_1 a0_2 l0_3 l0_4 = some r) ∧ Aside0 (kq ≤ k) ∧ Aside0 (wc.heap[gb375]? = some (.cells #[.int .i64 a0_0, .string a0_1, .string a0_2, (.slice A0_3 l0_3.length c0_3), (.slice A0_4 l0_4.length c0_4)] 30 (0, 0))) ∧ Aside0 (Below w.heap.size w wc))
  case first =>
   have H := HC3.out; clear HC3; have H' := am H; clear H; go_wp2
   go_loopg [5, 6] k (fun kq v5 v6 w' => ∃ (x5_1 : Int) (x6_1 : Int), v5 = .int .i64 x5_1 ∧ v6 = .int .i64 x6_1 ∧ Aside0 (sequiturbase_weight.l0 kq a1 x5_1 x6_1 a0_0 a0_1 a0_2 l0_3 l0_4 = some r) ∧ Aside0 (kq ≤ k) ∧ Aside0 (w'.heap[gb375]? = some (.cells #[.int .i64 a0_0, .string a0_1, .string a0_2, (.slice A0_3 l0_3.length c0_3), (.slice A0_4 l0_4.length c0_4)] 30 (0, 0))) ∧ Aside0 (Below w.heap.size w w'))
   case atStart => exact ⟨(1), (0), eS, eS, H', ⟨Nat.le_refl _⟩, ⟨bD BK375⟩, ⟨bB⟩⟩
   case round =>
    clear H'; (try clear p2); (try clear c4); obtain ⟨x5_1, x6_1, rfl, rfl, HA, HK1, BK375, HB⟩ := hrel
    cases gk with
    | zero => exact absurd HA.out (by simp [sequiturbase_weight.l0])
    | succ k1 =>
     have H := HA.out; clear HA; simp only [sequiturbase_weight.l0] at H
     by_cases c5 : x6_1 < (l0_3.length : Int)
     ·rw [if_pos c5] at H
      have c5b0 : decide (x6_1 < (l0_3.length : Int)) = true := decide_eq_true c5; clear c5; (first | rw [c5b0] | (simp only [i64_w, i32_w]; rw [c5b0]) | skip)
      by_cases c6 : x5_1 ≤ a1
      ·rw [if_pos c6] at H
       have c6b0 : decide (x5_1 ≤ a1) = true := decide_eq_true c6; clear c6
       by_cases c7 : 0 ≤ x6_1
       ·rw [if_pos c7] at H
        have c7b0 : decide (0 ≤ x6_1) = true := decide_eq_true c7; clear c7; obtain ⟨t377, A8, H⟩ := bO H; have H' := am H; clear H; obtain ⟨z9_0, z9_1, z9_2, z9_3, z9_4, y9_0, y9_1, y9_2, y9_3, y9_4⟩ := y5 BK375; have p376 : 0 ≤ (x6_1 : Int) := of_decide_eq_true eA; have q376 : x6_1 < (l0_3.length : Int) := of_decide_eq_true eA; obtain ⟨ad376, A376_3, c376_3, e376, hx376_0, hx376_1, hx376_2, hx376_3, hl376_3, hi376_3⟩ := at_T53 HR0_3.out x6_1 p376 q376
        cases e376
        replace hx376_0 := cX HB hx376_0; replace hx376_1 := cX HB hx376_1; replace hx376_2 := cX HB hx376_2; replace hx376_3 := cX HB hx376_3; have HR376_3 := am hi376_3; have HC376_3 := am hl376_3; clear hi376_3 hl376_3; replace p376 := eq_true p376; replace q376 := eq_true q376
        go_wp2_with (first | ((with_reducible refine gate_callee (f := 61) rfl ?_); refine gL 29 Tryd.func61 #[.agg #[.int .i64 ((rd_T53 l0_3 x6_1).f0), .string ((rd_T53 l0_3 x6_1).f1), .int .i64 ((rd_T53 l0_3 x6_1).f2), .slice A376_3 ((rd_T53 l0_3 x6_1).f3).length c376_3], .int .i64 (wrap64 (a1 - x5_1))] ?_; (with_reducible refine (sequiturbase_Size.calls k1 ((rd_T53 l0_3 x6_1).f0) ((rd_T53 l0_3 x6_1).f1) ((rd_T53 l0_3 x6_1).f2) _ _ ((rd_T53 l0_3 x6_1).f3) (wrap64 (a1 - x5_1)) t377 _ ?side1 HC376_3.out A8.out).mono ?_); (case side1 => exact cB HR376_3); rintro e w10 ⟨rfl, hb⟩; refine ⟨_, rfl, ?_⟩; replace BK375 := bK BK375 hb; replace HB := bH hb; clear hb))
        go_roundg k1
        case measure => have := HK1.out; omega
        case rel => exact ⟨(wrap64 (x5_1 + t377)), (wrap64 (x6_1 + 1)), eS, eS, H', ⟨by have := HK1.out; omega⟩, ⟨bD BK375⟩, ⟨bB⟩⟩
       ·rw [if_neg c7] at H
        exact absurd H (by simp)
      ·rw [if_neg c6] at H
       have c6b0 : decide (x5_1 ≤ a1) = false := decide_eq_false c6; clear c6; have H' := am H; clear H; obtain ⟨z11_0, z11_1, z11_2, z11_3, z11_4, y11_0, y11_1, y11_2, y11_3, y11_4⟩ := y5 BK375; go_wp2; go_meet
       case rel => exact ⟨_, (x5_1), eS, H', ⟨by have := HK1.out; first | omega | exact Nat.le_refl _⟩, ⟨bD BK375⟩, ⟨bB⟩⟩
     ·rw [if_neg c5] at H
      have c5b0 : decide (x6_1 < (l0_3.length : Int)) = false := decide_eq_false c5; clear c5; (first | rw [c5b0] | (simp only [i64_w, i32_w]; rw [c5b0]) | skip); have H' := am H; clear H; obtain ⟨z12_0, z12_1, z12_2, z12_3, z12_4, y12_0, y12_1, y12_2, y12_3, y12_4⟩ := y5 BK375; go_wp2; go_meet
      case rel => exact ⟨_, (x5_1), eS, H', ⟨by have := HK1.out; first | omega | exact Nat.le_refl _⟩, ⟨bD BK375⟩, ⟨bB⟩⟩
  case rest =>
   clear HC3; (try clear p2); (try clear c3); (try clear p3); (try clear q3); (try clear hx3); (try clear c4); (try clear c5); (try clear c5b0); (try clear c6); (try clear c6b0); (try clear p6); (try clear c7); (try clear c7b0); (try clear z11_0 z11_1 z11_2 z11_3 z11_4); (try clear z12_0 z12_1 z12_2 z12_3 z12_4); (try clear z9_0 z9_1 z9_2 z9_3 z9_4); (try clear y11_0 y11_1 y11_2 y11_3 y11_4); (try clear y12_0 y12_1 y12_2 y12_3 y12_4); (try clear y9_0 y9_1 y9_2 y9_3 y9_4); (try clear hx376_0); (try clear hx376_1); (try clear hx376_2); (try clear hx376_3); (try clear p2); (try clear p376); (try clear q376); obtain ⟨kq, x5_2, rfl, HA, HJ2, BK375, HB⟩ := hcut
   cases kq with
   | zero => exact absurd HA.out (by simp [sequiturbase_weight.j1])
   | succ kj2 =>
    have H := HA.out; clear HA; simp only [sequiturbase_weight.j1] at H; have H' := am H; clear H; go_wp2
    go_loopg [5, 7] kj2 (fun kq v5 v7 w' => ∃ (x5_2 : Int) (x7_2 : Int), v5 = .int .i64 x5_2 ∧ v7 = .int .i64 x7_2 ∧ Aside0 (sequiturbase_weight.l1 kq a1 x5_2 x7_2 a0_0 a0_1 a0_2 l0_3 l0_4 = some r) ∧ Aside0 (kq ≤ kj2) ∧ Aside0 (w'.heap[gb375]? = some (.cells #[.int .i64 a0_0, .string a0_1, .string a0_2, (.slice A0_3 l0_3.length c0_3), (.slice A0_4 l0_4.length c0_4)] 30 (0, 0))) ∧ Aside0 (Below w.heap.size w w'))
    case atStart => exact ⟨(x5_2), (0), eS, eS, H', ⟨Nat.le_refl _⟩, ⟨bD BK375⟩, ⟨bB⟩⟩
    case round =>
     clear H'; (try clear p2); (try clear c3); (try clear p3); (try clear q3); (try clear hx3); (try clear c4); (try clear c5); (try clear c5b0); (try clear c6); (try clear c6b0); (try clear p6); (try clear c7); (try clear c7b0); (try clear z11_0 z11_1 z11_2 z11_3 z11_4); (try clear z12_0 z12_1 z12_2 z12_3 z12_4); (try clear z9_0 z9_1 z9_2 z9_3 z9_4); (try clear y11_0 y11_1 y11_2 y11_3 y11_4); (try clear y12_0 y12_1 y12_2 y12_3 y12_4); (try clear y9_0 y9_1 y9_2 y9_3 y9_4); (try clear hx376_0); (try clear hx376_1); (try clear hx376_2); (try clear hx376_3); (try clear p2); (try clear p3); (try clear p376); (try clear p6); (try clear q3); (try clear q376); obtain ⟨x5_2, x7_2, rfl, rfl, HA, HK2, BK375, HB⟩ := hrel
     cases gk with
     | zero => exact absurd HA.out (by simp [sequiturbase_weight.l1])
     | succ k2 =>
      have H := HA.out; clear HA; simp only [sequiturbase_weight.l1] at H
      by_cases c13 : x7_2 < (l0_4.length : Int)
      ·rw [if_pos c13] at H
       have c13b0 : decide (x7_2 < (l0_4.length : Int)) = true := decide_eq_true c13; clear c13
       by_cases c14 : x5_2 ≤ a1
       ·rw [if_pos c14] at H
        have c14b0 : decide (x5_2 ≤ a1) = true := decide_eq_true c14; clear c14
        by_cases c15 : 0 ≤ x7_2
        ·rw [if_pos c15] at H
         have c15b0 : decide (0 ≤ x7_2) = true := decide_eq_true c15; clear c15; obtain ⟨t379, A16, H⟩ := bO H; have H' := am H; clear H; obtain ⟨z17_0, z17_1, z17_2, z17_3, z17_4, y17_0, y17_1, y17_2, y17_3, y17_4⟩ := y5 BK375; have p378 : 0 ≤ (x7_2 : Int) := of_decide_eq_true eA; have q378 : x7_2 < (l0_4.length : Int) := of_decide_eq_true eA; obtain ⟨ad378, A378_3, c378_3, A378_4, c378_4, e378, hx378_0, hx378_1, hx378_2, hx378_3, hx378_4, hl378_3, hi378_3, hl378_4, hi378_4⟩ := at_T30 HR0_4.out x7_2 p378 q378
         cases e378
         replace hx378_0 := cX HB hx378_0; replace hx378_1 := cX HB hx378_1; replace hx378_2 := cX HB hx378_2; replace hx378_3 := cX HB hx378_3; replace hx378_4 := cX HB hx378_4; have HR378_3 := am hi378_3; have HC378_3 := am hl378_3; clear hi378_3 hl378_3; have HR378_4 := am hi378_4; have HC378_4 := am hl378_4; clear hi378_4 hl378_4; replace p378 := eq_true p378; replace q378 := eq_true q378
         go_wp2_with (first | ((with_reducible refine gate_callee (f := 42) rfl ?_); refine gL 52 Tryd.func42 #[.agg #[.int .i64 ((rd_T30 l0_4 x7_2).f0), .string ((rd_T30 l0_4 x7_2).f1), .string ((rd_T30 l0_4 x7_2).f2), .slice A378_3 ((rd_T30 l0_4 x7_2).f3).length c378_3, .slice A378_4 ((rd_T30 l0_4 x7_2).f4).length c378_4], .int .i64 (wrap64 (a1 - x5_2))] ?_; (with_reducible refine (ih k2 (by have := HJ2.out; have := HK2.out; omega) ((rd_T30 l0_4 x7_2).f0) ((rd_T30 l0_4 x7_2).f1) ((rd_T30 l0_4 x7_2).f2) _ _ ((rd_T30 l0_4 x7_2).f3) _ _ ((rd_T30 l0_4 x7_2).f4) (wrap64 (a1 - x5_2)) t379 _ ?side1 HC378_3.out ?side3 HC378_4.out A16.out).mono ?_); (case side1 => exact cB HR378_3); (case side3 => exact cB HR378_4); rintro e w18 ⟨rfl, hb⟩; refine ⟨_, rfl, ?_⟩; replace BK375 := bK BK375 hb; replace HB := bH hb; clear hb))
         go_roundg k2
         case measure => have := HJ2.out; have := HK2.out; omega
         case rel => exact ⟨(wrap64 (x5_2 + t379)), (wrap64 (x7_2 + 1)), eS, eS, H', ⟨by have := HJ2.out; have := HK2.out; omega⟩, ⟨bD BK375⟩, ⟨bB⟩⟩
        ·rw [if_neg c15] at H
         exact absurd H (by simp)
       ·rw [if_neg c14] at H
        have c14b0 : decide (x5_2 ≤ a1) = false := decide_eq_false c14; clear c14; obtain rfl := Option.some.inj H; obtain ⟨z19_0, z19_1, z19_2, z19_3, z19_4, y19_0, y19_1, y19_2, y19_3, y19_4⟩ := y5 BK375; go_wp2; go_ret; exact ⟨eW, bB⟩
      ·rw [if_neg c13] at H
       have c13b0 : decide (x7_2 < (l0_4.length : Int)) = false := decide_eq_false c13; clear c13; obtain rfl := Option.some.inj H; obtain ⟨z20_0, z20_1, z20_2, z20_3, z20_4, y20_0, y20_1, y20_2, y20_3, y20_4⟩ := y5 BK375; go_wp2; go_ret; exact ⟨eW, bB⟩
end Go.Proofs.YtmlkllbaehegjaaDoor.PAll
end
section
namespace Go.Proofs.YtmlkllbaehegjaaDoor.PAll
open Go.RowKit Go.Proofs.YtmlkllbaehegjaaDoorW.PrintWords Go.Proofs.YtmlkllbaehegjaaDoorW.PrintLast Go.Proofs.YtmlkllbaehegjaaDoorW.PrintMore
attribute [local go_sem] max2_int min2_int max_two min_two max_three min_three max_four min_four
set_option linter.unusedVariables false
set_option linter.unusedSimpArgs false
/-! ### sequiturbase_Big: function 25 -/
def sequiturbase_Big.f (k : Nat) (a0_0 : Int) (a0_1 : ByteArray) (a0_2 : ByteArray) (l0_3 : List (S53)) (l0_4 : List (S30)) (a1 : Int) : Option (Bool) := (sequiturbase_weight.f k a0_0 a0_1 a0_2 l0_3 l0_4 a1).bind fun t381 => (some (decide (t381 > a1)))
set_option maxHeartbeats 8000000 in
set_option maxRecDepth 100000 in
theorem sequiturbase_Big.calls (k : Nat) (a0_0 : Int) (a0_1 : ByteArray) (a0_2 : ByteArray) (A0_3 : Option Addr) (c0_3 : Nat) (l0_3 : List (S53)) (A0_4 : Option Addr) (c0_4 : Nat) (l0_4 : List (S30)) (a1 : Int) (r : Bool) (w : World) (hr0_3 : Kd.C k53 w A0_3 l0_3.length l0_3) (hc0_3 : l0_3.length ≤ c0_3) (hr0_4 : Kd.C k30 w A0_4 l0_4.length l0_4) (hc0_4 : l0_4.length ≤ c0_4) (h : sequiturbase_Big.f k a0_0 a0_1 a0_2 l0_3 l0_4 a1 = some r) :
    Calls Tryd.prog 25 #[.agg #[.int .i64 a0_0, .string a0_1, .string a0_2, .slice A0_3 l0_3.length c0_3, .slice A0_4 l0_4.length c0_4], .int .i64 a1] w fun e w' => e = .returned (.bool r) ∧ Below w.heap.size w w' := by
  have hu30 := Tryd.underlying30; have HR0_3 := am hr0_3; have HC0_3 := am hc0_3; clear hr0_3 hc0_3; have HR0_4 := am hr0_4; have HC0_4 := am hc0_4; clear hr0_4 hc0_4; have HB := am (Below.refl w.heap.size w); have H := h; unfold sequiturbase_Big.f at H; clear h; obtain ⟨t381, A3, H⟩ := bO H; obtain rfl := Option.some.inj H
  go_enter Tryd.func25, Tryd.ntmps25
  go_wp2_with (first | ((with_reducible refine gate_dst (N := 2) rfl ?_); refine bE 2 #[.int .i64 a0_0, .string a0_1, .string a0_2, .slice A0_3 l0_3.length c0_3, .slice A0_4 l0_4.length c0_4] 30 ?_; intro gb380 w4 BK380 hg hb; have GW380 := bZ hg; have GE380 := bZ hg; replace HB := bH hb; clear hb hg; obtain ⟨z5_0, z5_1, z5_2, z5_3, z5_4, y5_0, y5_1, y5_2, y5_3, y5_4⟩ := y5 BK380) | ((with_reducible refine gate_callee (f := 42) rfl ?_); refine gL 7 Tryd.func42 #[.agg #[.int .i64 a0_0, .string a0_1, .string a0_2, .slice A0_3 l0_3.length c0_3, .slice A0_4 l0_4.length c0_4], .int .i64 a1] ?_; (with_reducible refine (sequiturbase_weight.calls k a0_0 a0_1 a0_2 _ _ l0_3 _ _ l0_4 a1 t381 _ ?side1 HC0_3.out ?side3 HC0_4.out A3.out).mono ?_); (case side1 => exact cB HR0_3); (case side3 => exact cB HR0_4); rintro e w6 ⟨rfl, hb⟩; refine ⟨_, rfl, ?_⟩; replace BK380 := bK BK380 hb; replace HB := bH hb; clear hb))
  go_ret; exact ⟨eW, bB⟩
end Go.Proofs.YtmlkllbaehegjaaDoor.PAll
end
section
namespace Go.Proofs.YtmlkllbaehegjaaDoor.PAll
open Go.RowKit Go.Proofs.YtmlkllbaehegjaaDoorW.PrintWords Go.Proofs.YtmlkllbaehegjaaDoorW.PrintLast Go.Proofs.YtmlkllbaehegjaaDoorW.PrintMore
attribute [local go_sem] max2_int min2_int max_two min_two max_three min_three max_four min_four   -- for this text's walks alone
set_option linter.unusedVariables false
set_option linter.unusedSimpArgs false
/-! ### sequiturlaw14_short: function 43 -/
mutual
def sequiturlaw14_short.l0 : Nat → List (S53) → Int → Int → Int → ByteArray → Int → List (S53) → Option (Bool)
  | 0, _, _, _, _, _, _, _ => none
  | k + 1, x6, x7, x8, x383000, x383001, x383002, x383003 => if x8 < x7 then (if 0 ≤ x8 then (if x8 < (x6.length : Int) then ((sequiturlaw14_short.f k ((rd_T53 x6 x8).f0) ((rd_T53 x6 x8).f1) ((rd_T53 x6 x8).f2) ((rd_T53 x6 x8).f3)).bind fun t385 => (if t385 = true then (sequiturlaw14_short.l0 k x6 x7 (wrap64 (x8 + 1)) x383000 x383001 x383002 x383003) else (some false))) else (none)) else (none)) else (some (decide ((x383001.size : Int) ≤ 100)))
def sequiturlaw14_short.f : Nat → Int → ByteArray → Int → List (S53) → Option (Bool)
  | 0, _, _, _, _ => none
  | k + 1, a0_0, a0_1, a0_2, l0_3 => sequiturlaw14_short.l0 k l0_3 (l0_3.length : Int) 0 a0_0 a0_1 a0_2 l0_3
end
set_option maxHeartbeats 8000000 in
set_option maxRecDepth 100000 in
theorem sequiturlaw14_short.calls (k : Nat) : ∀ (a0_0 : Int) (a0_1 : ByteArray) (a0_2 : Int) (A0_3 : Option Addr) (c0_3 : Nat) (l0_3 : List (S53)) (r : Bool) (w : World) (hr0_3 : Kd.C k53 w A0_3 l0_3.length l0_3) (hc0_3 : l0_3.length ≤ c0_3) (h : sequiturlaw14_short.f k a0_0 a0_1 a0_2 l0_3 = some r),
    Calls Tryd.prog 43 #[.agg #[.int .i64 a0_0, .string a0_1, .int .i64 a0_2, .slice A0_3 l0_3.length c0_3]] w fun e w' => e = .returned (.bool r) ∧ Below w.heap.size w w' := by
  induction k using Nat.strongRecOn with
  | _ k ih =>
  intro a0_0 a0_1 a0_2 A0_3 c0_3 l0_3 r w hr0_3 hc0_3 h
  cases k with
  | zero => exact absurd h (by simp [sequiturlaw14_short.f])
  | succ k =>
  simp only [sequiturlaw14_short.f] at h; have hu53 := Tryd.underlying53; have HR0_3 := am hr0_3; have HC0_3 := am hc0_3; clear hr0_3 hc0_3; have HB := am (Below.refl w.heap.size w); have H := h; clear h; have H' := am H; clear H
  go_enter Tryd.func43, Tryd.ntmps43
  go_wp2_with (first | ((with_reducible refine gate_dst (N := 1) rfl ?_); refine bE 1 #[.int .i64 a0_0, .string a0_1, .int .i64 a0_2, .slice A0_3 l0_3.length c0_3] 53 ?_; intro gb382 w2 BK382 hg hb; have GW382 := bZ hg; have GE382 := bZ hg; replace HB := bH hb; clear hb hg; obtain ⟨z3_0, z3_1, z3_2, z3_3, y3_0, y3_1, y3_2, y3_3⟩ := y4 BK382))
  go_loopg [8] k (fun kq v8 w' => ∃ (x8_1 : Int), v8 = .int .i64 x8_1 ∧ Aside0 (sequiturlaw14_short.l0 kq l0_3 (l0_3.length : Int) x8_1 a0_0 a0_1 a0_2 l0_3 = some r) ∧ Aside0 (kq ≤ k) ∧ Aside0 (w'.heap[gb382]? = some (.cells #[.int .i64 a0_0, .string a0_1, .int .i64 a0_2, (.slice A0_3 l0_3.length c0_3)] 53 (0, 0))) ∧ Aside0 (Below w.heap.size w w'))
  case atStart => exact ⟨(0), eS, H', ⟨Nat.le_refl _⟩, ⟨bD BK382⟩, ⟨bB⟩⟩
  case round =>
   clear H'; (try clear p2); (try clear z3_0 z3_1 z3_2 z3_3 y3_0 y3_1 y3_2 y3_3); obtain ⟨x8_1, rfl, HA, HK1, BK382, HB⟩ := hrel
   cases gk with
   | zero => exact absurd HA.out (by simp [sequiturlaw14_short.l0])
   | succ k1 =>
    have H := HA.out; clear HA; simp only [sequiturlaw14_short.l0] at H
    by_cases c4 : x8_1 < (l0_3.length : Int)
    ·rw [if_pos c4] at H
     have c4b0 : decide (x8_1 < (l0_3.length : Int)) = true := decide_eq_true c4; clear c4
     by_cases c5 : 0 ≤ x8_1
     ·rw [if_pos c5] at H
      have c5b0 : decide (0 ≤ x8_1) = true := decide_eq_true c5; clear c5
      by_cases c6 : x8_1 < (l0_3.length : Int)
      ·rw [if_pos c6] at H
       have c6b0 : decide (x8_1 < (l0_3.length : Int)) = true := decide_eq_true c6; clear c6; obtain ⟨t385, A7, H⟩ := bO H
       by_cases c8 : t385 = true
       ·subst c8
        rw [if_pos rfl] at H; have H' := am H; clear H; have p383 : 0 ≤ (x8_1 : Int) := of_decide_eq_true eA; have q383 : x8_1 < (l0_3.length : Int) := of_decide_eq_true eA; obtain ⟨ad383, A383_3, c383_3, e383, hx383_0, hx383_1, hx383_2, hx383_3, hl383_3, hi383_3⟩ := at_T53 HR0_3.out x8_1 p383 q383
        cases e383
        replace hx383_0 := cX HB hx383_0; replace hx383_1 := cX HB hx383_1; replace hx383_2 := cX HB hx383_2; replace hx383_3 := cX HB hx383_3; have HR383_3 := am hi383_3; have HC383_3 := am hl383_3; clear hi383_3 hl383_3; replace p383 := eq_true p383; replace q383 := eq_true q383
        go_wp2_with (first | ((with_reducible refine gate_dst (N := 4) rfl ?_); refine bE 4 #[.int .i64 0, .string (⟨#[]⟩ : ByteArray), .int .i64 0, .slice none 0 0] 53 ?_; intro gb384 w9 BK384 hg hb; have GW384 := bZ hg; have GE384 := bZ hg; replace HB := bH hb; have NB382_384 := bN BK382 hg; have NB384_382 := bM BK382 hg; replace BK382 := bK BK382 hb; clear hb hg; have hnb10 := NB384_382.out; have hnc10 := NB382_384.out; obtain ⟨z11_0, z11_1, z11_2, z11_3, y11_0, y11_1, y11_2, y11_3⟩ := y4 BK384) | ((with_reducible refine gate_callee (f := 43) rfl ?_); refine gL 13 Tryd.func43 #[.agg #[.int .i64 ((rd_T53 l0_3 x8_1).f0), .string ((rd_T53 l0_3 x8_1).f1), .int .i64 ((rd_T53 l0_3 x8_1).f2), .slice A383_3 ((rd_T53 l0_3 x8_1).f3).length c383_3]] ?_; (with_reducible refine (ih k1 (by have := HK1.out; omega) ((rd_T53 l0_3 x8_1).f0) ((rd_T53 l0_3 x8_1).f1) ((rd_T53 l0_3 x8_1).f2) _ _ ((rd_T53 l0_3 x8_1).f3) true _ ?side1 HC383_3.out A7.out).mono ?_); (case side1 => exact Kd.C_below HR383_3.out bB); rintro e w12 ⟨rfl, hb⟩; refine ⟨_, rfl, ?_⟩; replace BK382 := bK (bX4 _ _ _ _ BK382 NB382_384.out) hb; replace BK384 := bK (bP4 (.int .i64 ((rd_T53 l0_3 x8_1).f0)) (.string ((rd_T53 l0_3 x8_1).f1)) (.int .i64 ((rd_T53 l0_3 x8_1).f2)) (.slice A383_3 ((rd_T53 l0_3 x8_1).f3).length c383_3) BK384) hb; replace HB := bH hb; clear hb))
        go_roundg k1
        case measure => have := HK1.out; omega
        case rel => exact ⟨(wrap64 (x8_1 + 1)), eS, H', ⟨by have := HK1.out; omega⟩, ⟨bD BK382⟩, ⟨bB⟩⟩
       ·replace c8 := Bool.eq_false_iff.mpr c8
        subst c8; rw [if_neg (show ¬ (false = true) by decide)] at H; obtain rfl := Option.some.inj H; have p383 : 0 ≤ (x8_1 : Int) := of_decide_eq_true eA; have q383 : x8_1 < (l0_3.length : Int) := of_decide_eq_true eA; obtain ⟨ad383, A383_3, c383_3, e383, hx383_0, hx383_1, hx383_2, hx383_3, hl383_3, hi383_3⟩ := at_T53 HR0_3.out x8_1 p383 q383
        cases e383
        replace hx383_0 := cX HB hx383_0; replace hx383_1 := cX HB hx383_1; replace hx383_2 := cX HB hx383_2; replace hx383_3 := cX HB hx383_3; have HR383_3 := am hi383_3; have HC383_3 := am hl383_3; clear hi383_3 hl383_3; replace p383 := eq_true p383; replace q383 := eq_true q383
        go_wp2_with (first | ((with_reducible refine gate_dst (N := 4) rfl ?_); refine bE 4 #[.int .i64 0, .string (⟨#[]⟩ : ByteArray), .int .i64 0, .slice none 0 0] 53 ?_; intro gb384 w13 BK384 hg hb; have GW384 := bZ hg; have GE384 := bZ hg; replace HB := bH hb; have NB382_384 := bN BK382 hg; have NB384_382 := bM BK382 hg; replace BK382 := bK BK382 hb; clear hb hg; have hnb14 := NB384_382.out; have hnc14 := NB382_384.out; obtain ⟨z15_0, z15_1, z15_2, z15_3, y15_0, y15_1, y15_2, y15_3⟩ := y4 BK384) | ((with_reducible refine gate_callee (f := 43) rfl ?_); refine gL 13 Tryd.func43 #[.agg #[.int .i64 ((rd_T53 l0_3 x8_1).f0), .string ((rd_T53 l0_3 x8_1).f1), .int .i64 ((rd_T53 l0_3 x8_1).f2), .slice A383_3 ((rd_T53 l0_3 x8_1).f3).length c383_3]] ?_; (with_reducible refine (ih k1 (by have := HK1.out; omega) ((rd_T53 l0_3 x8_1).f0) ((rd_T53 l0_3 x8_1).f1) ((rd_T53 l0_3 x8_1).f2) _ _ ((rd_T53 l0_3 x8_1).f3) false _ ?side1 HC383_3.out A7.out).mono ?_); (case side1 => exact Kd.C_below HR383_3.out bB); rintro e w16 ⟨rfl, hb⟩; refine ⟨_, rfl, ?_⟩; replace BK382 := bK (bX4 _ _ _ _ BK382 NB382_384.out) hb; replace BK384 := bK (bP4 (.int .i64 ((rd_T53 l0_3 x8_1).f0)) (.string ((rd_T53 l0_3 x8_1).f1)) (.int .i64 ((rd_T53 l0_3 x8_1).f2)) (.slice A383_3 ((rd_T53 l0_3 x8_1).f3).length c383_3) BK384) hb; replace HB := bH hb; clear hb))
        go_ret; exact ⟨eW, bB⟩
      ·rw [if_neg c6] at H
       exact absurd H (by simp)
     ·rw [if_neg c5] at H
      exact absurd H (by simp)
    ·rw [if_neg c4] at H
     have c4b0 : decide (x8_1 < (l0_3.length : Int)) = false := decide_eq_false c4; clear c4; obtain rfl := Option.some.inj H; obtain ⟨z17_0, z17_1, z17_2, z17_3, y17_0, y17_1, y17_2, y17_3⟩ := y4 BK382; go_wp2; go_ret; exact ⟨eW, bB⟩
end Go.Proofs.YtmlkllbaehegjaaDoor.PAll
end
section
namespace Go.Proofs.YtmlkllbaehegjaaDoor.PAll
open Go.RowKit Go.Proofs.YtmlkllbaehegjaaDoorW.PrintWords Go.Proofs.YtmlkllbaehegjaaDoorW.PrintLast Go.Proofs.YtmlkllbaehegjaaDoorW.PrintMore
attribute [local go_sem] max2_int min2_int max_two min_two max_three min_three max_four min_four   -- for this text's walks alone
set_option linter.unusedVariables false
set_option linter.unusedSimpArgs false
/-! ### sequiturlaw14_named: function 26 -/
mutual
def sequiturlaw14_named.l0 : Nat → List (S53) → Int → Int → Int → ByteArray → ByteArray → List (S53) → List (S30) → Option (Bool)
  | 0, _, _, _, _, _, _, _, _ => none
  | k + 1, x8, x9, x10, x387000, x387001, x387002, x387003, x387004 => if x10 < x9 then (if 0 ≤ x10 then (if x10 < (x8.length : Int) then ((sequiturlaw14_short.f k ((rd_T53 x8 x10).f0) ((rd_T53 x8 x10).f1) ((rd_T53 x8 x10).f2) ((rd_T53 x8 x10).f3)).bind fun t389 => (if t389 = true then (sequiturlaw14_named.l0 k x8 x9 (wrap64 (x10 + 1)) x387000 x387001 x387002 x387003 x387004) else (some false))) else (none)) else (none)) else (sequiturlaw14_named.l1 k x387004 (x387004.length : Int) 0 x387000 x387001 x387002 x387003 x387004)
def sequiturlaw14_named.l1 : Nat → List (S30) → Int → Int → Int → ByteArray → ByteArray → List (S53) → List (S30) → Option (Bool)
  | 0, _, _, _, _, _, _, _, _ => none
  | k + 1, x19, x20, x21, x387000, x387001, x387002, x387003, x387004 => if x21 < x20 then (if 0 ≤ x21 then (if x21 < (x19.length : Int) then ((sequiturlaw14_named.f k ((rd_T30 x19 x21).f0) ((rd_T30 x19 x21).f1) ((rd_T30 x19 x21).f2) ((rd_T30 x19 x21).f3) ((rd_T30 x19 x21).f4)).bind fun t392 => (if t392 = true then (sequiturlaw14_named.l1 k x19 x20 (wrap64 (x21 + 1)) x387000 x387001 x387002 x387003 x387004) else (some false))) else (none)) else (none)) else (if (x387001.size : Int) ≤ 100 then (some (decide ((x387002.size : Int) ≤ 100))) else (some false))
def sequiturlaw14_named.f : Nat → Int → ByteArray → ByteArray → List (S53) → List (S30) → Option (Bool)
  | 0, _, _, _, _, _ => none
  | k + 1, a0_0, a0_1, a0_2, l0_3, l0_4 => sequiturlaw14_named.l0 k l0_3 (l0_3.length : Int) 0 a0_0 a0_1 a0_2 l0_3 l0_4
end
set_option maxHeartbeats 8000000 in
set_option maxRecDepth 100000 in
theorem sequiturlaw14_named.calls (k : Nat) : ∀ (a0_0 : Int) (a0_1 : ByteArray) (a0_2 : ByteArray) (A0_3 : Option Addr) (c0_3 : Nat) (l0_3 : List (S53)) (A0_4 : Option Addr) (c0_4 : Nat) (l0_4 : List (S30)) (r : Bool) (w : World) (hr0_3 : Kd.C k53 w A0_3 l0_3.length l0_3) (hc0_3 : l0_3.length ≤ c0_3) (hr0_4 : Kd.C k30 w A0_4 l0_4.length l0_4) (hc0_4 : l0_4.length ≤ c0_4) (h : sequiturlaw14_named.f k a0_0 a0_1 a0_2 l0_3 l0_4 = some r),
    Calls Tryd.prog 26 #[.agg #[.int .i64 a0_0, .string a0_1, .string a0_2, .slice A0_3 l0_3.length c0_3, .slice A0_4 l0_4.length c0_4]] w fun e w' => e = .returned (.bool r) ∧ Below w.heap.size w w' := by
  induction k using Nat.strongRecOn with
  | _ k ih =>
  intro a0_0 a0_1 a0_2 A0_3 c0_3 l0_3 A0_4 c0_4 l0_4 r w hr0_3 hc0_3 hr0_4 hc0_4 h
  cases k with
  | zero => exact absurd h (by simp [sequiturlaw14_named.f])
  | succ k =>
  simp only [sequiturlaw14_named.f] at h; have hu30 := Tryd.underlying30; have hu53 := Tryd.underlying53; have HR0_3 := am hr0_3; have HC0_3 := am hc0_3; clear hr0_3 hc0_3; have HR0_4 := am hr0_4; have HC0_4 := am hc0_4; clear hr0_4 hc0_4; have HB := am (Below.refl w.heap.size w); have H := h; clear h; have H' := am H; clear H
  go_enter Tryd.func26, Tryd.ntmps26
  go_wp2_with (first | ((with_reducible refine gate_dst (N := 1) rfl ?_); (try (refine gate_guard (by rfl) ?_; dsimp only)); refine bE 1 #[.int .i64 a0_0, .string a0_1, .string a0_2, .slice A0_3 l0_3.length c0_3, .slice A0_4 l0_4.length c0_4] 30 ?_; intro gb386 w2 BK386 hg hb; have GW386 := bZ hg; have GE386 := bZ hg; replace HB := bH hb; clear hb hg; obtain ⟨z3_0, z3_1, z3_2, z3_3, z3_4, y3_0, y3_1, y3_2, y3_3, y3_4⟩ := y5 BK386))
  go_loopg [10] k (fun kq v10 w' => ∃ (x10_1 : Int), v10 = .int .i64 x10_1 ∧ Aside0 (sequiturlaw14_named.l0 kq l0_3 (l0_3.length : Int) x10_1 a0_0 a0_1 a0_2 l0_3 l0_4 = some r) ∧ Aside0 (kq ≤ k) ∧ Aside0 (w'.heap[gb386]? = some (.cells #[.int .i64 a0_0, .string a0_1, .string a0_2, (.slice A0_3 l0_3.length c0_3), (.slice A0_4 l0_4.length c0_4)] 30 (0, 0))) ∧ Aside0 (Below w.heap.size w w'))
  case atStart => exact ⟨(0), eS, H', ⟨Nat.le_refl _⟩, ⟨bD BK386⟩, ⟨bB⟩⟩
  case round =>
   clear H'; (try clear c2); (try clear p2); (try clear z3_0 z3_1 z3_2 z3_3 z3_4 y3_0 y3_1 y3_2 y3_3 y3_4); obtain ⟨x10_1, rfl, HA, HK1, BK386, HB⟩ := hrel
   cases gk with
   | zero => exact absurd HA.out (by simp [sequiturlaw14_named.l0])
   | succ k1 =>
    have H := HA.out; clear HA; simp only [sequiturlaw14_named.l0] at H
    by_cases c4 : x10_1 < (l0_3.length : Int)
    ·rw [if_pos c4] at H
     have c4b0 : decide (x10_1 < (l0_3.length : Int)) = true := decide_eq_true c4; clear c4
     by_cases c5 : 0 ≤ x10_1
     ·rw [if_pos c5] at H
      have c5b0 : decide (0 ≤ x10_1) = true := decide_eq_true c5; clear c5
      by_cases c6 : x10_1 < (l0_3.length : Int)
      ·rw [if_pos c6] at H
       have c6b0 : decide (x10_1 < (l0_3.length : Int)) = true := decide_eq_true c6; clear c6; obtain ⟨t389, A7, H⟩ := bO H
       by_cases c8 : t389 = true
       ·subst c8
        rw [if_pos rfl] at H; have H' := am H; clear H; have p387 : 0 ≤ (x10_1 : Int) := of_decide_eq_true eA; have q387 : x10_1 < (l0_3.length : Int) := of_decide_eq_true eA; obtain ⟨ad387, A387_3, c387_3, e387, hx387_0, hx387_1, hx387_2, hx387_3, hl387_3, hi387_3⟩ := at_T53 HR0_3.out x10_1 p387 q387
        cases e387
        replace hx387_0 := cX HB hx387_0; replace hx387_1 := cX HB hx387_1; replace hx387_2 := cX HB hx387_2; replace hx387_3 := cX HB hx387_3; have HR387_3 := am hi387_3; have HC387_3 := am hl387_3; clear hi387_3 hl387_3; replace p387 := eq_true p387; replace q387 := eq_true q387
        go_wp2_with (first | ((with_reducible refine gate_dst (N := 4) rfl ?_); (try (refine gate_guard (by rfl) ?_; dsimp only)); refine bE 4 #[.int .i64 0, .string (⟨#[]⟩ : ByteArray), .int .i64 0, .slice none 0 0] 53 ?_; intro gb388 w9 BK388 hg hb; have GW388 := bZ hg; have GE388 := bZ hg; replace HB := bH hb; have NB386_388 := bN BK386 hg; have NB388_386 := bM BK386 hg; replace BK386 := bK BK386 hb; clear hb hg; have hnb10 := NB388_386.out; have hnc10 := NB386_388.out; obtain ⟨z11_0, z11_1, z11_2, z11_3, y11_0, y11_1, y11_2, y11_3⟩ := y4 BK388) | ((with_reducible refine gate_callee (f := 43) rfl ?_); refine gL 15 Tryd.func43 #[.agg #[.int .i64 ((rd_T53 l0_3 x10_1).f0), .string ((rd_T53 l0_3 x10_1).f1), .int .i64 ((rd_T53 l0_3 x10_1).f2), .slice A387_3 ((rd_T53 l0_3 x10_1).f3).length c387_3]] ?_; (with_reducible refine (sequiturlaw14_short.calls k1 ((rd_T53 l0_3 x10_1).f0) ((rd_T53 l0_3 x10_1).f1) ((rd_T53 l0_3 x10_1).f2) _ _ ((rd_T53 l0_3 x10_1).f3) true _ ?side1 HC387_3.out A7.out).mono ?_); (case side1 => exact Kd.C_below HR387_3.out bB); rintro e w12 ⟨rfl, hb⟩; refine ⟨_, rfl, ?_⟩; replace BK386 := bK (bX4 _ _ _ _ BK386 NB386_388.out) hb; replace BK388 := bK (bP4 (.int .i64 ((rd_T53 l0_3 x10_1).f0)) (.string ((rd_T53 l0_3 x10_1).f1)) (.int .i64 ((rd_T53 l0_3 x10_1).f2)) (.slice A387_3 ((rd_T53 l0_3 x10_1).f3).length c387_3) BK388) hb; replace HB := bH hb; clear hb))
        go_roundg k1
        case measure => have := HK1.out; omega
        case rel => exact ⟨(wrap64 (x10_1 + 1)), eS, H', ⟨by have := HK1.out; omega⟩, ⟨bD BK386⟩, ⟨bB⟩⟩
       ·replace c8 := Bool.eq_false_iff.mpr c8
        subst c8; rw [if_neg (show ¬ (false = true) by decide)] at H; obtain rfl := Option.some.inj H; have p387 : 0 ≤ (x10_1 : Int) := of_decide_eq_true eA; have q387 : x10_1 < (l0_3.length : Int) := of_decide_eq_true eA; obtain ⟨ad387, A387_3, c387_3, e387, hx387_0, hx387_1, hx387_2, hx387_3, hl387_3, hi387_3⟩ := at_T53 HR0_3.out x10_1 p387 q387
        cases e387
        replace hx387_0 := cX HB hx387_0; replace hx387_1 := cX HB hx387_1; replace hx387_2 := cX HB hx387_2; replace hx387_3 := cX HB hx387_3; have HR387_3 := am hi387_3; have HC387_3 := am hl387_3; clear hi387_3 hl387_3; replace p387 := eq_true p387; replace q387 := eq_true q387
        go_wp2_with (first | ((with_reducible refine gate_dst (N := 4) rfl ?_); (try (refine gate_guard (by rfl) ?_; dsimp only)); refine bE 4 #[.int .i64 0, .string (⟨#[]⟩ : ByteArray), .int .i64 0, .slice none 0 0] 53 ?_; intro gb388 w13 BK388 hg hb; have GW388 := bZ hg; have GE388 := bZ hg; replace HB := bH hb; have NB386_388 := bN BK386 hg; have NB388_386 := bM BK386 hg; replace BK386 := bK BK386 hb; clear hb hg; have hnb14 := NB388_386.out; have hnc14 := NB386_388.out; obtain ⟨z15_0, z15_1, z15_2, z15_3, y15_0, y15_1, y15_2, y15_3⟩ := y4 BK388) | ((with_reducible refine gate_callee (f := 43) rfl ?_); refine gL 15 Tryd.func43 #[.agg #[.int .i64 ((rd_T53 l0_3 x10_1).f0), .string ((rd_T53 l0_3 x10_1).f1), .int .i64 ((rd_T53 l0_3 x10_1).f2), .slice A387_3 ((rd_T53 l0_3 x10_1).f3).length c387_3]] ?_; (with_reducible refine (sequiturlaw14_short.calls k1 ((rd_T53 l0_3 x10_1).f0) ((rd_T53 l0_3 x10_1).f1) ((rd_T53 l0_3 x10_1).f2) _ _ ((rd_T53 l0_3 x10_1).f3) false _ ?side1 HC387_3.out A7.out).mono ?_); (case side1 => exact Kd.C_below HR387_3.out bB); rintro e w16 ⟨rfl, hb⟩; refine ⟨_, rfl, ?_⟩; replace BK386 := bK (bX4 _ _ _ _ BK386 NB386_388.out) hb; replace BK388 := bK (bP4 (.int .i64 ((rd_T53 l0_3 x10_1).f0)) (.string ((rd_T53 l0_3 x10_1).f1)) (.int .i64 ((rd_T53 l0_3 x10_1).f2)) (.slice A387_3 ((rd_T53 l0_3 x10_1).f3).length c387_3) BK388) hb; replace HB := bH hb; clear hb))
        go_ret; exact ⟨eW, bB⟩
      ·rw [if_neg c6] at H
       exact absurd H (by simp)
     ·rw [if_neg c5] at H
      exact absurd H (by simp)
    ·rw [if_neg c4] at H
     have c4b0 : decide (x10_1 < (l0_3.length : Int)) = false := decide_eq_false c4; clear c4; have H' := am H; clear H; obtain ⟨z17_0, z17_1, z17_2, z17_3, z17_4, y17_0, y17_1, y17_2, y17_3, y17_4⟩ := y5 BK386; go_wp2
     go_loopg [21] k1 (fun kq v21 w' => ∃ (x21_2 : Int), v21 = .int .i64 x21_2 ∧ Aside0 (sequiturlaw14_named.l1 kq l0_4 (l0_4.length : Int) x21_2 a0_0 a0_1 a0_2 l0_3 l0_4 = some r) ∧ Aside0 (kq ≤ k1) ∧ Aside0 (w'.heap[gb386]? = some (.cells #[.int .i64 a0_0, .string a0_1, .string a0_2, (.slice A0_3 l0_3.length c0_3), (.slice A0_4 l0_4.length c0_4)] 30 (0, 0))) ∧ Aside0 (Below w.heap.size w w'))
     case atStart => exact ⟨(0), eS, H', ⟨Nat.le_refl _⟩, ⟨bD BK386⟩, ⟨bB⟩⟩
     case round =>
      clear H'; (try clear c1); (try clear c2); (try clear p2); (try clear c3); (try clear p3); (try clear q3); (try clear hx3); (try clear c4); (try clear c4b0); (try clear c5); (try clear c5b0); (try clear c6); (try clear c6b0); (try clear p6); (try clear c8); (try clear c10); (try clear c14); (try clear z11_0 z11_1 z11_2 z11_3); (try clear z15_0 z15_1 z15_2 z15_3); (try clear z17_0 z17_1 z17_2 z17_3 z17_4); (try clear z3_0 z3_1 z3_2 z3_3 z3_4); (try clear y11_0 y11_1 y11_2 y11_3); (try clear y15_0 y15_1 y15_2 y15_3); (try clear y17_0 y17_1 y17_2 y17_3 y17_4); (try clear y3_0 y3_1 y3_2 y3_3 y3_4); (try clear hx387_0); (try clear hx387_1); (try clear hx387_2); (try clear hx387_3); (try clear p2); (try clear p387); (try clear q387); obtain ⟨x21_2, rfl, HA, HK2, BK386, HB⟩ := hrel
      cases gk with
      | zero => exact absurd HA.out (by simp [sequiturlaw14_named.l1])
      | succ k2 =>
       have H := HA.out; clear HA; simp only [sequiturlaw14_named.l1] at H
       by_cases c18 : x21_2 < (l0_4.length : Int)
       ·rw [if_pos c18] at H
        have c18b0 : decide (x21_2 < (l0_4.length : Int)) = true := decide_eq_true c18; clear c18
        by_cases c19 : 0 ≤ x21_2
        ·rw [if_pos c19] at H
         have c19b0 : decide (0 ≤ x21_2) = true := decide_eq_true c19; clear c19
         by_cases c20 : x21_2 < (l0_4.length : Int)
         ·rw [if_pos c20] at H
          have c20b0 : decide (x21_2 < (l0_4.length : Int)) = true := decide_eq_true c20; clear c20; obtain ⟨t392, A21, H⟩ := bO H
          by_cases c22 : t392 = true
          ·subst c22
           rw [if_pos rfl] at H; have H' := am H; clear H; have p390 : 0 ≤ (x21_2 : Int) := of_decide_eq_true eA; have q390 : x21_2 < (l0_4.length : Int) := of_decide_eq_true eA; obtain ⟨ad390, A390_3, c390_3, A390_4, c390_4, e390, hx390_0, hx390_1, hx390_2, hx390_3, hx390_4, hl390_3, hi390_3, hl390_4, hi390_4⟩ := at_T30 HR0_4.out x21_2 p390 q390
           cases e390
           replace hx390_0 := cX HB hx390_0; replace hx390_1 := cX HB hx390_1; replace hx390_2 := cX HB hx390_2; replace hx390_3 := cX HB hx390_3; replace hx390_4 := cX HB hx390_4; have HR390_3 := am hi390_3; have HC390_3 := am hl390_3; clear hi390_3 hl390_3; have HR390_4 := am hi390_4; have HC390_4 := am hl390_4; clear hi390_4 hl390_4; replace p390 := eq_true p390; replace q390 := eq_true q390
           go_wp2_with (first | ((with_reducible refine gate_dst (N := 6) rfl ?_); (try (refine gate_guard (by rfl) ?_; dsimp only)); refine bE 6 #[.int .i64 0, .string (⟨#[]⟩ : ByteArray), .string (⟨#[]⟩ : ByteArray), .slice none 0 0, .slice none 0 0] 30 ?_; intro gb391 w23 BK391 hg hb; have GW391 := bZ hg; have GE391 := bZ hg; replace HB := bH hb; have NB386_391 := bN BK386 hg; have NB391_386 := bM BK386 hg; replace BK386 := bK BK386 hb; clear hb hg; have hnb24 := NB391_386.out; have hnc24 := NB386_391.out; obtain ⟨z25_0, z25_1, z25_2, z25_3, z25_4, y25_0, y25_1, y25_2, y25_3, y25_4⟩ := y5 BK391) | ((with_reducible refine gate_callee (f := 26) rfl ?_); refine gL 26 Tryd.func26 #[.agg #[.int .i64 ((rd_T30 l0_4 x21_2).f0), .string ((rd_T30 l0_4 x21_2).f1), .string ((rd_T30 l0_4 x21_2).f2), .slice A390_3 ((rd_T30 l0_4 x21_2).f3).length c390_3, .slice A390_4 ((rd_T30 l0_4 x21_2).f4).length c390_4]] ?_; (with_reducible refine (ih k2 (by have := HK1.out; have := HK2.out; omega) ((rd_T30 l0_4 x21_2).f0) ((rd_T30 l0_4 x21_2).f1) ((rd_T30 l0_4 x21_2).f2) _ _ ((rd_T30 l0_4 x21_2).f3) _ _ ((rd_T30 l0_4 x21_2).f4) true _ ?side1 HC390_3.out ?side3 HC390_4.out A21.out).mono ?_); (case side1 => exact Kd.C_below HR390_3.out bB); (case side3 => exact Kd.C_below HR390_4.out bB); rintro e w26 ⟨rfl, hb⟩; refine ⟨_, rfl, ?_⟩; replace BK386 := bK (bX5 _ _ _ _ _ BK386 NB386_391.out) hb; replace BK391 := bK (bP5 (.int .i64 ((rd_T30 l0_4 x21_2).f0)) (.string ((rd_T30 l0_4 x21_2).f1)) (.string ((rd_T30 l0_4 x21_2).f2)) (.slice A390_3 ((rd_T30 l0_4 x21_2).f3).length c390_3) (.slice A390_4 ((rd_T30 l0_4 x21_2).f4).length c390_4) BK391) hb; replace HB := bH hb; clear hb))
           go_roundg k2
           case measure => have := HK1.out; have := HK2.out; omega
           case rel => exact ⟨(wrap64 (x21_2 + 1)), eS, H', ⟨by have := HK1.out; have := HK2.out; omega⟩, ⟨bD BK386⟩, ⟨bB⟩⟩
          ·replace c22 := Bool.eq_false_iff.mpr c22
           subst c22; rw [if_neg (show ¬ (false = true) by decide)] at H; obtain rfl := Option.some.inj H; have p390 : 0 ≤ (x21_2 : Int) := of_decide_eq_true eA; have q390 : x21_2 < (l0_4.length : Int) := of_decide_eq_true eA; obtain ⟨ad390, A390_3, c390_3, A390_4, c390_4, e390, hx390_0, hx390_1, hx390_2, hx390_3, hx390_4, hl390_3, hi390_3, hl390_4, hi390_4⟩ := at_T30 HR0_4.out x21_2 p390 q390
           cases e390
           replace hx390_0 := cX HB hx390_0; replace hx390_1 := cX HB hx390_1; replace hx390_2 := cX HB hx390_2; replace hx390_3 := cX HB hx390_3; replace hx390_4 := cX HB hx390_4; have HR390_3 := am hi390_3; have HC390_3 := am hl390_3; clear hi390_3 hl390_3; have HR390_4 := am hi390_4; have HC390_4 := am hl390_4; clear hi390_4 hl390_4; replace p390 := eq_true p390; replace q390 := eq_true q390
           go_wp2_with (first | ((with_reducible refine gate_dst (N := 6) rfl ?_); (try (refine gate_guard (by rfl) ?_; dsimp only)); refine bE 6 #[.int .i64 0, .string (⟨#[]⟩ : ByteArray), .string (⟨#[]⟩ : ByteArray), .slice none 0 0, .slice none 0 0] 30 ?_; intro gb391 w27 BK391 hg hb; have GW391 := bZ hg; have GE391 := bZ hg; replace HB := bH hb; have NB386_391 := bN BK386 hg; have NB391_386 := bM BK386 hg; replace BK386 := bK BK386 hb; clear hb hg; have hnb28 := NB391_386.out; have hnc28 := NB386_391.out; obtain ⟨z29_0, z29_1, z29_2, z29_3, z29_4, y29_0, y29_1, y29_2, y29_3, y29_4⟩ := y5 BK391) | ((with_reducible refine gate_callee (f := 26) rfl ?_); refine gL 26 Tryd.func26 #[.agg #[.int .i64 ((rd_T30 l0_4 x21_2).f0), .string ((rd_T30 l0_4 x21_2).f1), .string ((rd_T30 l0_4 x21_2).f2), .slice A390_3 ((rd_T30 l0_4 x21_2).f3).length c390_3, .slice A390_4 ((rd_T30 l0_4 x21_2).f4).length c390_4]] ?_; (with_reducible refine (ih k2 (by have := HK1.out; have := HK2.out; omega) ((rd_T30 l0_4 x21_2).f0) ((rd_T30 l0_4 x21_2).f1) ((rd_T30 l0_4 x21_2).f2) _ _ ((rd_T30 l0_4 x21_2).f3) _ _ ((rd_T30 l0_4 x21_2).f4) false _ ?side1 HC390_3.out ?side3 HC390_4.out A21.out).mono ?_); (case side1 => exact Kd.C_below HR390_3.out bB); (case side3 => exact Kd.C_below HR390_4.out bB); rintro e w30 ⟨rfl, hb⟩; refine ⟨_, rfl, ?_⟩; replace BK386 := bK (bX5 _ _ _ _ _ BK386 NB386_391.out) hb; replace BK391 := bK (bP5 (.int .i64 ((rd_T30 l0_4 x21_2).f0)) (.string ((rd_T30 l0_4 x21_2).f1)) (.string ((rd_T30 l0_4 x21_2).f2)) (.slice A390_3 ((rd_T30 l0_4 x21_2).f3).length c390_3) (.slice A390_4 ((rd_T30 l0_4 x21_2).f4).length c390_4) BK391) hb; replace HB := bH hb; clear hb))
           go_ret; exact ⟨eW, bB⟩
         ·rw [if_neg c20] at H
          exact absurd H (by simp)
        ·rw [if_neg c19] at H
         exact absurd H (by simp)
       ·rw [if_neg c18] at H
        have c18b0 : decide (x21_2 < (l0_4.length : Int)) = false := decide_eq_false c18; clear c18
        by_cases c31 : (a0_1.size : Int) ≤ 100
        ·rw [if_pos c31] at H
         have c31b0 : decide ((a0_1.size : Int) ≤ 100) = true := decide_eq_true c31; have c31b1 : decide (a0_1.size ≤ 100) = true := decide_eq_true (by omega); clear c31; obtain rfl := Option.some.inj H; obtain ⟨z32_0, z32_1, z32_2, z32_3, z32_4, y32_0, y32_1, y32_2, y32_3, y32_4⟩ := y5 BK386; go_wp2; go_ret; exact ⟨eW, bB⟩
        ·rw [if_neg c31] at H
         have c31b0 : decide ((a0_1.size : Int) ≤ 100) = false := decide_eq_false c31; have c31b1 : decide (a0_1.size ≤ 100) = false := decide_eq_false (by omega); clear c31; obtain rfl := Option.some.inj H; obtain ⟨z33_0, z33_1, z33_2, z33_3, z33_4, y33_0, y33_1, y33_2, y33_3, y33_4⟩ := y5 BK386; go_wp2; go_ret; exact ⟨eW, bB⟩
end Go.Proofs.YtmlkllbaehegjaaDoor.PAll
end
section
namespace Go.Proofs.YtmlkllbaehegjaaDoor.PAll
open Go.RowKit Go.Proofs.YtmlkllbaehegjaaDoorW.PrintWords Go.Proofs.YtmlkllbaehegjaaDoorW.PrintLast Go.Proofs.YtmlkllbaehegjaaDoorW.PrintMore
attribute [local go_sem] max2_int min2_int max_two min_two max_three min_three max_four min_four
set_option linter.unusedVariables false
set_option linter.unusedSimpArgs false
/-! ### sequiturlaw14_Plain: function 11 -/
def sequiturlaw14_Plain.f (k : Nat) (a0_0 : Int) (a0_1 : ByteArray) (a0_2 : ByteArray) (l0_3 : List (S53)) (l0_4 : List (S30)) (a1 : Int) : Option (Bool) := (sequiturbase_Big.f k a0_0 a0_1 a0_2 l0_3 l0_4 a1).bind fun t394 => (if t394 = true then (some false) else ((sequiturref08_Right.f k a0_0 a0_1 a0_2 l0_3 l0_4).bind fun t395 => (if t395 = 0 then ((sequiturlaw14_named.f k a0_0 a0_1 a0_2 l0_3 l0_4).bind fun t396 => (some t396)) else (some false))))
set_option maxHeartbeats 8000000 in
set_option maxRecDepth 100000 in
theorem sequiturlaw14_Plain.calls (k : Nat) (a0_0 : Int) (a0_1 : ByteArray) (a0_2 : ByteArray) (A0_3 : Option Addr) (c0_3 : Nat) (l0_3 : List (S53)) (A0_4 : Option Addr) (c0_4 : Nat) (l0_4 : List (S30)) (a1 : Int) (r : Bool) (w : World) (hr0_3 : Kd.C k53 w A0_3 l0_3.length l0_3) (hc0_3 : l0_3.length ≤ c0_3) (hr0_4 : Kd.C k30 w A0_4 l0_4.length l0_4) (hc0_4 : l0_4.length ≤ c0_4) (h : sequiturlaw14_Plain.f k a0_0 a0_1 a0_2 l0_3 l0_4 a1 = some r) :
    Calls Tryd.prog 11 #[.agg #[.int .i64 a0_0, .string a0_1, .string a0_2, .slice A0_3 l0_3.length c0_3, .slice A0_4 l0_4.length c0_4], .int .i64 a1] w fun e w' => e = .returned (.bool r) ∧ Below w.heap.size w w' := by
  have hu30 := Tryd.underlying30; have HR0_3 := am hr0_3; have HC0_3 := am hc0_3; clear hr0_3 hc0_3; have HR0_4 := am hr0_4; have HC0_4 := am hc0_4; clear hr0_4 hc0_4; have HB := am (Below.refl w.heap.size w); have H := h; unfold sequiturlaw14_Plain.f at H; clear h; obtain ⟨t394, A3, H⟩ := bO H
  by_cases c4 : t394 = true
  ·subst c4
   rw [if_pos rfl] at H; obtain rfl := Option.some.inj H
   go_enter Tryd.func11, Tryd.ntmps11
   go_wp2_with (first | ((with_reducible refine gate_dst (N := 2) rfl ?_); refine bE 2 #[.int .i64 a0_0, .string a0_1, .string a0_2, .slice A0_3 l0_3.length c0_3, .slice A0_4 l0_4.length c0_4] 30 ?_; intro gb393 w5 BK393 hg hb; have GW393 := bZ hg; have GE393 := bZ hg; replace HB := bH hb; clear hb hg; obtain ⟨z6_0, z6_1, z6_2, z6_3, z6_4, y6_0, y6_1, y6_2, y6_3, y6_4⟩ := y5 BK393) | ((with_reducible refine gate_callee (f := 25) rfl ?_); refine gL 7 Tryd.func25 #[.agg #[.int .i64 a0_0, .string a0_1, .string a0_2, .slice A0_3 l0_3.length c0_3, .slice A0_4 l0_4.length c0_4], .int .i64 a1] ?_; (with_reducible refine (sequiturbase_Big.calls k a0_0 a0_1 a0_2 _ _ l0_3 _ _ l0_4 a1 true _ ?side1 HC0_3.out ?side3 HC0_4.out A3.out).mono ?_); (case side1 => exact cB HR0_3); (case side3 => exact cB HR0_4); rintro e w7 ⟨rfl, hb⟩; refine ⟨_, rfl, ?_⟩; replace BK393 := bK BK393 hb; replace HB := bH hb; clear hb))
   go_ret; exact ⟨eW, bB⟩
  ·replace c4 := Bool.eq_false_iff.mpr c4
   subst c4; rw [if_neg (show ¬ (false = true) by decide)] at H; obtain ⟨t395, A8, H⟩ := bO H
   by_cases c9 : t395 = 0
   ·rw [if_pos c9] at H
    have c9b0 := beq_iff_eq.mpr c9; have c9b1 := bne_eq_false_iff_eq.mpr c9; clear c9; obtain ⟨t396, A10, H⟩ := bO H; obtain rfl := Option.some.inj H
    go_enter Tryd.func11, Tryd.ntmps11
    go_wp2_with (first | ((with_reducible refine gate_dst (N := 2) rfl ?_); refine bE 2 #[.int .i64 a0_0, .string a0_1, .string a0_2, .slice A0_3 l0_3.length c0_3, .slice A0_4 l0_4.length c0_4] 30 ?_; intro gb393 w11 BK393 hg hb; have GW393 := bZ hg; have GE393 := bZ hg; replace HB := bH hb; clear hb hg; obtain ⟨z12_0, z12_1, z12_2, z12_3, z12_4, y12_0, y12_1, y12_2, y12_3, y12_4⟩ := y5 BK393) | ((with_reducible refine gate_callee (f := 25) rfl ?_); refine gL 7 Tryd.func25 #[.agg #[.int .i64 a0_0, .string a0_1, .string a0_2, .slice A0_3 l0_3.length c0_3, .slice A0_4 l0_4.length c0_4], .int .i64 a1] ?_; (with_reducible refine (sequiturbase_Big.calls k a0_0 a0_1 a0_2 _ _ l0_3 _ _ l0_4 a1 false _ ?side1 ?side2 ?side3 ?side4 A3.out).mono ?_); (case side1 => exact cB HR0_3); (case side2 => exact HC0_3.out); (case side3 => exact cB HR0_4); (case side4 => exact HC0_4.out); rintro e w13 ⟨rfl, hb⟩; refine ⟨_, rfl, ?_⟩; replace BK393 := bK BK393 hb; replace HB := bH hb; clear hb; obtain ⟨z14_0, z14_1, z14_2, z14_3, z14_4, y14_0, y14_1, y14_2, y14_3, y14_4⟩ := y5 BK393) | (go_at_call 13; (with_reducible refine (sequiturref08_Right.calls k a0_0 a0_1 a0_2 _ _ l0_3 _ _ l0_4 t395 _ ?side1 ?side2 ?side3 ?side4 A8.out).mono ?_); (case side1 => exact cB HR0_3); (case side2 => exact HC0_3.out); (case side3 => exact cB HR0_4); (case side4 => exact HC0_4.out); rintro e w15 ⟨rfl, hb⟩; replace BK393 := bK BK393 hb; replace HB := bH hb; clear hb; obtain ⟨z16_0, z16_1, z16_2, z16_3, z16_4, y16_0, y16_1, y16_2, y16_3, y16_4⟩ := y5 BK393) | (go_at_call 26; (with_reducible refine (sequiturlaw14_named.calls k a0_0 a0_1 a0_2 _ _ l0_3 _ _ l0_4 t396 _ ?side1 ?side2 ?side3 ?side4 A10.out).mono ?_); (case side1 => exact cB HR0_3); (case side2 => exact HC0_3.out); (case side3 => exact cB HR0_4); (case side4 => exact HC0_4.out); rintro e w17 ⟨rfl, hb⟩; replace BK393 := bK BK393 hb; replace HB := bH hb; clear hb))
    go_ret; exact ⟨eW, bB⟩
   ·rw [if_neg c9] at H
    have c9b0 := beq_eq_false_iff_ne.mpr c9; have c9b1 := bne_iff_ne.mpr c9; obtain rfl := Option.some.inj H
    go_enter Tryd.func11, Tryd.ntmps11
    go_wp2_with (first | ((with_reducible refine gate_dst (N := 2) rfl ?_); refine bE 2 #[.int .i64 a0_0, .string a0_1, .string a0_2, .slice A0_3 l0_3.length c0_3, .slice A0_4 l0_4.length c0_4] 30 ?_; intro gb393 w18 BK393 hg hb; have GW393 := bZ hg; have GE393 := bZ hg; replace HB := bH hb; clear hb hg; obtain ⟨z19_0, z19_1, z19_2, z19_3, z19_4, y19_0, y19_1, y19_2, y19_3, y19_4⟩ := y5 BK393) | ((with_reducible refine gate_callee (f := 25) rfl ?_); refine gL 7 Tryd.func25 #[.agg #[.int .i64 a0_0, .string a0_1, .string a0_2, .slice A0_3 l0_3.length c0_3, .slice A0_4 l0_4.length c0_4], .int .i64 a1] ?_; (with_reducible refine (sequiturbase_Big.calls k a0_0 a0_1 a0_2 _ _ l0_3 _ _ l0_4 a1 false _ ?side1 ?side2 ?side3 ?side4 A3.out).mono ?_); (case side1 => exact cB HR0_3); (case side2 => exact HC0_3.out); (case side3 => exact cB HR0_4); (case side4 => exact HC0_4.out); rintro e w20 ⟨rfl, hb⟩; refine ⟨_, rfl, ?_⟩; replace BK393 := bK BK393 hb; replace HB := bH hb; clear hb; obtain ⟨z21_0, z21_1, z21_2, z21_3, z21_4, y21_0, y21_1, y21_2, y21_3, y21_4⟩ := y5 BK393) | (go_at_call 13; (with_reducible refine (sequiturref08_Right.calls k a0_0 a0_1 a0_2 _ _ l0_3 _ _ l0_4 t395 _ ?side1 ?side2 ?side3 ?side4 A8.out).mono ?_); (case side1 => exact cB HR0_3); (case side2 => exact HC0_3.out); (case side3 => exact cB HR0_4); (case side4 => exact HC0_4.out); rintro e w22 ⟨rfl, hb⟩; replace BK393 := bK BK393 hb; replace HB := bH hb; clear hb))
    go_ret; exact ⟨eW, bB⟩
end Go.Proofs.YtmlkllbaehegjaaDoor.PAll
end
