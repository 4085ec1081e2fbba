import Derived.Test.YtmlkllbaehegjaaDoorShowSeqs2
import Derived.Test.YtmlkllbaehegjaaDoorShowSeqs5
import Derived.Test.YtmlkllbaehegjaaDoorShowSeqs3
section
namespace Go.Proofs.YtmlkllbaehegjaaDoor.PAll
open Go.RowKit Go.Proofs.YtmlkllbaehegjaaDoorW.PrintWords Go.Proofs.YtmlkllbaehegjaaDoorW.PrintLast Go.Proofs.YtmlkllbaehegjaaDoorW.PrintMore
attribute [local go_sem] max2_int min2_int max_two min_two max_three min_three max_four min_four   -- for this text's walks alone
set_option linter.unusedVariables false
set_option linter.unusedSimpArgs false
/-! ### sequiturlaw14_named: function 26 -/
mutual
def sequiturlaw14_named.l0 : Nat → List (S53) → Int → Int → Int → ByteArray → ByteArray → List (S53) → List (S30) → Option (Bool)
  | 0, _, _, _, _, _, _, _, _ => none
  | k + 1, x8, x9, x10, x387000, x387001, x387002, x387003, x387004 => if x10 < x9 then (if 0 ≤ x10 then (if x10 < (x8.length : Int) then ((sequiturlaw14_short.f k ((rd_T53 x8 x10).f0) ((rd_T53 x8 x10).f1) ((rd_T53 x8 x10).f2) ((rd_T53 x8 x10).f3)).bind fun t389 => (if t389 = true then (sequiturlaw14_named.l0 k x8 x9 (wrap64 (x10 + 1)) x387000 x387001 x387002 x387003 x387004) else (some false))) else (none)) else (none)) else (sequiturlaw14_named.l1 k x387004 (x387004.length : Int) 0 x387000 x387001 x387002 x387003 x387004)
def sequiturlaw14_named.l1 : Nat → List (S30) → Int → Int → Int → ByteArray → ByteArray → List (S53) → List (S30) → Option (Bool)
  | 0, _, _, _, _, _, _, _, _ => none
  | k + 1, x19, x20, x21, x387000, x387001, x387002, x387003, x387004 => if x21 < x20 then (if 0 ≤ x21 then (if x21 < (x19.length : Int) then ((sequiturlaw14_named.f k ((rd_T30 x19 x21).f0) ((rd_T30 x19 x21).f1) ((rd_T30 x19 x21).f2) ((rd_T30 x19 x21).f3) ((rd_T30 x19 x21).f4)).bind fun t392 => (if t392 = true then (sequiturlaw14_named.l1 k x19 x20 (wrap64 (x21 + 1)) x387000 x387001 x387002 x387003 x387004) else (some false))) else (none)) else (none)) else (if (x387001.size : Int) ≤ 100 then (some (decide ((x387002.size : Int) ≤ 100))) else (some false))
def sequiturlaw14_named.f : Nat → Int → ByteArray → ByteArray → List (S53) → List (S30) → Option (Bool)
  | 0, _, _, _, _, _ => none
  | k + 1, a0_0, a0_1, a0_2, l0_3, l0_4 => sequiturlaw14_named.l0 k l0_3 (l0_3.length : Int) 0 a0_0 a0_1 a0_2 l0_3 l0_4
end
set_option maxHeartbeats 8000000 in
set_option maxRecDepth 100000 in
theorem sequiturlaw14_named.calls (k : Nat) : ∀ (a0_0 : Int) (a0_1 : ByteArray) (a0_2 : ByteArray) (A0_3 : Option Addr) (c0_3 : Nat) (l0_3 : List (S53)) (A0_4 : Option Addr) (c0_4 : Nat) (l0_4 : List (S30)) (r : Bool) (w : World) (hr0_3 : Kd.C k53 w A0_3 l0_3.length l0_3) (hc0_3 : l0_3.length ≤ c0_3) (hr0_4 : Kd.C k30 w A0_4 l0_4.length l0_4) (hc0_4 : l0_4.length ≤ c0_4) (h : sequiturlaw14_named.f k a0_0 a0_1 a0_2 l0_3 l0_4 = some r),
    Calls Tryd.prog 26 #[.agg #[.int .i64 a0_0, .string a0_1, .string a0_2, .slice A0_3 l0_3.length c0_3, .slice A0_4 l0_4.length c0_4]] w fun e w' => e = .returned (.bool r) ∧ Below w.heap.size w w' := by
  induction k using Nat.strongRecOn with
  | _ k ih =>
  intro a0_0 a0_1 a0_2 A0_3 c0_3 l0_3 A0_4 c0_4 l0_4 r w hr0_3 hc0_3 hr0_4 hc0_4 h
  cases k with
  | zero => exact absurd h (by simp [sequiturlaw14_named.f])
  | succ k =>
  simp only [sequiturlaw14_named.f] at h; have hu30 := Tryd.underlying30; have hu53 := Tryd.underlying53; have HR0_3 := am hr0_3; have HC0_3 := am hc0_3; clear hr0_3 hc0_3; have HR0_4 := am hr0_4; have HC0_4 := am hc0_4; clear hr0_4 hc0_4; have HB := am (Below.refl w.heap.size w); have H := h; clear h; have H' := am H; clear H
  go_enter Tryd.func26, Tryd.ntmps26
  go_wp2_with (first | ((with_reducible refine gate_dst (N := 1) rfl ?_); (try (refine gate_guard (by rfl) ?_; dsimp only)); refine bE 1 #[.int .i64 a0_0, .string a0_1, .string a0_2, .slice A0_3 l0_3.length c0_3, .slice A0_4 l0_4.length c0_4] 30 ?_; intro gb386 w2 BK386 hg hb; have GW386 := bZ hg; have GE386 := bZ hg; replace HB := bH hb; clear hb hg; obtain ⟨z3_0, z3_1, z3_2, z3_3, z3_4, y3_0, y3_1, y3_2, y3_3, y3_4⟩ := y5 BK386))
  go_loopg [10] k (fun kq v10 w' => ∃ (x10_1 : Int), v10 = .int .i64 x10_1 ∧ Aside0 (sequiturlaw14_named.l0 kq l0_3 (l0_3.length : Int) x10_1 a0_0 a0_1 a0_2 l0_3 l0_4 = some r) ∧ Aside0 (kq ≤ k) ∧ Aside0 (w'.heap[gb386]? = some (.cells #[.int .i64 a0_0, .string a0_1, .string a0_2, (.slice A0_3 l0_3.length c0_3), (.slice A0_4 l0_4.length c0_4)] 30 (0, 0))) ∧ Aside0 (Below w.heap.size w w'))
  case atStart => exact ⟨(0), eS, H', ⟨Nat.le_refl _⟩, ⟨bD BK386⟩, ⟨bB⟩⟩
  case round =>
   clear H'; (try clear c2); (try clear p2); (try clear z3_0 z3_1 z3_2 z3_3 z3_4 y3_0 y3_1 y3_2 y3_3 y3_4); obtain ⟨x10_1, rfl, HA, HK1, BK386, HB⟩ := hrel
   cases gk with
   | zero => exact absurd HA.out (by simp [sequiturlaw14_named.l0])
   | succ k1 =>
    have H := HA.out; clear HA; simp only [sequiturlaw14_named.l0] at H
    by_cases c4 : x10_1 < (l0_3.length : Int)
    ·rw [if_pos c4] at H
     have c4b0 : decide (x10_1 < (l0_3.length : Int)) = true := decide_eq_true c4; clear c4
     by_cases c5 : 0 ≤ x10_1
     ·rw [if_pos c5] at H
      have c5b0 : decide (0 ≤ x10_1) = true := decide_eq_true c5; clear c5
      by_cases c6 : x10_1 < (l0_3.length : Int)
      ·rw [if_pos c6] at H
       have c6b0 : decide (x10_1 < (l0_3.length : Int)) = true := decide_eq_true c6; clear c6; obtain ⟨t389, A7, H⟩ := bO H
       by_cases c8 : t389 = true
       ·subst c8
        rw [if_pos rfl] at H; have H' := am H; clear H; have p387 : 0 ≤ (x10_1 : Int) := of_decide_eq_true eA; have q387 : x10_1 < (l0_3.length : Int) := of_decide_eq_true eA; obtain ⟨ad387, A387_3, c387_3, e387, hx387_0, hx387_1, hx387_2, hx387_3, hl387_3, hi387_3⟩ := at_T53 HR0_3.out x10_1 p387 q387
        cases e387
        replace hx387_0 := cX HB hx387_0; replace hx387_1 := cX HB hx387_1; replace hx387_2 := cX HB hx387_2; replace hx387_3 := cX HB hx387_3; have HR387_3 := am hi387_3; have HC387_3 := am hl387_3; clear hi387_3 hl387_3; replace p387 := eq_true p387; replace q387 := eq_true q387
        go_wp2_with (first | ((with_reducible refine gate_dst (N := 4) rfl ?_); (try (refine gate_guard (by rfl) ?_; dsimp only)); refine bE 4 #[.int .i64 0, .string (⟨#[]⟩ : ByteArray), .int .i64 0, .slice none 0 0] 53 ?_; intro gb388 w9 BK388 hg hb; have GW388 := bZ hg; have GE388 := bZ hg; replace HB := bH hb; have NB386_388 := bN BK386 hg; have NB388_386 := bM BK386 hg; replace BK386 := bK BK386 hb; clear hb hg; have hnb10 := NB388_386.out; have hnc10 := NB386_388.out; obtain ⟨z11_0, z11_1, z11_2, z11_3, y11_0, y11_1, y11_2, y11_3⟩ := y4 BK388) | ((with_reducible refine gate_callee (f := 43) rfl ?_); refine gL 15 Tryd.func43 #[.agg #[.int .i64 ((rd_T53 l0_3 x10_1).f0), .string ((rd_T53 l0_3 x10_1).f1), .int .i64 ((rd_T53 l0_3 x10_1).f2), .slice A387_3 ((rd_T53 l0_3 x10_1).f3).length c387_3]] ?_; (with_reducible refine (sequiturlaw14_short.calls k1 ((rd_T53 l0_3 x10_1).f0) ((rd_T53 l0_3 x10_1).f1) ((rd_T53 l0_3 x10_1).f2) _ _ ((rd_T53 l0_3 x10_1).f3) true _ ?side1 HC387_3.out A7.out).mono ?_); (case side1 => exact Kd.C_below HR387_3.out bB); rintro e w12 ⟨rfl, hb⟩; refine ⟨_, rfl, ?_⟩; replace BK386 := bK (bX4 _ _ _ _ BK386 NB386_388.out) hb; replace BK388 := bK (bP4 (.int .i64 ((rd_T53 l0_3 x10_1).f0)) (.string ((rd_T53 l0_3 x10_1).f1)) (.int .i64 ((rd_T53 l0_3 x10_1).f2)) (.slice A387_3 ((rd_T53 l0_3 x10_1).f3).length c387_3) BK388) hb; replace HB := bH hb; clear hb))
        go_roundg k1
        case measure => have := HK1.out; omega
        case rel => exact ⟨(wrap64 (x10_1 + 1)), eS, H', ⟨by have := HK1.out; omega⟩, ⟨bD BK386⟩, ⟨bB⟩⟩
       ·replace c8 := Bool.eq_false_iff.mpr c8
        subst c8; rw [if_neg (show ¬ (false = true) by decide)] at H; obtain rfl := Option.some.inj H; have p387 : 0 ≤ (x10_1 : Int) := of_decide_eq_true eA; have q387 : x10_1 < (l0_3.length : Int) := of_decide_eq_true eA; obtain ⟨ad387, A387_3, c387_3, e387, hx387_0, hx387_1, hx387_2, hx387_3, hl387_3, hi387_3⟩ := at_T53 HR0_3.out x10_1 p387 q387
        cases e387
        replace hx387_0 := cX HB hx387_0; replace hx387_1 := cX HB hx387_1; replace hx387_2 := cX HB hx387_2; replace hx387_3 := cX HB hx387_3; have HR387_3 := am hi387_3; have HC387_3 := am hl387_3; clear hi387_3 hl387_3; replace p387 := eq_true p387; replace q387 := eq_true q387
        go_wp2_with (first | ((with_reducible refine gate_dst (N := 4) rfl ?_); (try (refine gate_guard (by rfl) ?_; dsimp only)); refine bE 4 #[.int .i64 0, .string (⟨#[]⟩ : ByteArray), .int .i64 0, .slice none 0 0] 53 ?_; intro gb388 w13 BK388 hg hb; have GW388 := bZ hg; have GE388 := bZ hg; replace HB := bH hb; have NB386_388 := bN BK386 hg; have NB388_386 := bM BK386 hg; replace BK386 := bK BK386 hb; clear hb hg; have hnb14 := NB388_386.out; have hnc14 := NB386_388.out; obtain ⟨z15_0, z15_1, z15_2, z15_3, y15_0, y15_1, y15_2, y15_3⟩ := y4 BK388) | ((with_reducible refine gate_callee (f := 43) rfl ?_); refine gL 15 Tryd.func43 #[.agg #[.int .i64 ((rd_T53 l0_3 x10_1).f0), .string ((rd_T53 l0_3 x10_1).f1), .int .i64 ((rd_T53 l0_3 x10_1).f2), .slice A387_3 ((rd_T53 l0_3 x10_1).f3).length c387_3]] ?_; (with_reducible refine (sequiturlaw14_short.calls k1 ((rd_T53 l0_3 x10_1).f0) ((rd_T53 l0_3 x10_1).f1) ((rd_T53 l0_3 x10_1).f2) _ _ ((rd_T53 l0_3 x10_1).f3) false _ ?side1 HC387_3.out A7.out).mono ?_); (case side1 => exact Kd.C_below HR387_3.out bB); rintro e w16 ⟨rfl, hb⟩; refine ⟨_, rfl, ?_⟩; replace BK386 := bK (bX4 _ _ _ _ BK386 NB386_388.out) hb; replace BK388 := bK (bP4 (.int .i64 ((rd_T53 l0_3 x10_1).f0)) (.string ((rd_T53 l0_3 x10_1).f1)) (.int .i64 ((rd_T53 l0_3 x10_1).f2)) (.slice A387_3 ((rd_T53 l0_3 x10_1).f3).length c387_3) BK388) hb; replace HB := bH hb; clear hb))
        go_ret; exact ⟨eW, bB⟩
      ·rw [if_neg c6] at H
       exact absurd H (by simp)
     ·rw [if_neg c5] at H
      exact absurd H (by simp)
    ·rw [if_neg c4] at H
     have c4b0 : decide (x10_1 < (l0_3.length : Int)) = false := decide_eq_false c4; clear c4; have H' := am H; clear H; obtain ⟨z17_0, z17_1, z17_2, z17_3, z17_4, y17_0, y17_1, y17_2, y17_3, y17_4⟩ := y5 BK386; go_wp2
     go_loopg [21] k1 (fun kq v21 w' => ∃ (x21_2 : Int), v21 = .int .i64 x21_2 ∧ Aside0 (sequiturlaw14_named.l1 kq l0_4 (l0_4.length : Int) x21_2 a0_0 a0_1 a0_2 l0_3 l0_4 = some r) ∧ Aside0 (kq ≤ k1) ∧ Aside0 (w'.heap[gb386]? = some (.cells #[.int .i64 a0_0, .string a0_1, .string a0_2, (.slice A0_3 l0_3.length c0_3), (.slice A0_4 l0_4.length c0_4)] 30 (0, 0))) ∧ Aside0 (Below w.heap.size w w'))
     case atStart => exact ⟨(0), eS, H', ⟨Nat.le_refl _⟩, ⟨bD BK386⟩, ⟨bB⟩⟩
     case round =>
      clear H'; (try clear c1); (try clear c2); (try clear p2); (try clear c3); (try clear p3); (try clear q3); (try clear hx3); (try clear c4); (try clear c4b0); (try clear c5); (try clear c5b0); (try clear c6); (try clear c6b0); (try clear p6); (try clear c8); (try clear c10); (try clear c14); (try clear z11_0 z11_1 z11_2 z11_3); (try clear z15_0 z15_1 z15_2 z15_3); (try clear z17_0 z17_1 z17_2 z17_3 z17_4); (try clear z3_0 z3_1 z3_2 z3_3 z3_4); (try clear y11_0 y11_1 y11_2 y11_3); (try clear y15_0 y15_1 y15_2 y15_3); (try clear y17_0 y17_1 y17_2 y17_3 y17_4); (try clear y3_0 y3_1 y3_2 y3_3 y3_4); (try clear hx387_0); (try clear hx387_1); (try clear hx387_2); (try clear hx387_3); (try clear p2); (try clear p387); (try clear q387); obtain ⟨x21_2, rfl, HA, HK2, BK386, HB⟩ := hrel
      cases gk with
      | zero => exact absurd HA.out (by simp [sequiturlaw14_named.l1])
      | succ k2 =>
       have H := HA.out; clear HA; simp only [sequiturlaw14_named.l1] at H
       by_cases c18 : x21_2 < (l0_4.length : Int)
       ·rw [if_pos c18] at H
        have c18b0 : decide (x21_2 < (l0_4.length : Int)) = true := decide_eq_true c18; clear c18
        by_cases c19 : 0 ≤ x21_2
        ·rw [if_pos c19] at H
         have c19b0 : decide (0 ≤ x21_2) = true := decide_eq_true c19; clear c19
         by_cases c20 : x21_2 < (l0_4.length : Int)
         ·rw [if_pos c20] at H
          have c20b0 : decide (x21_2 < (l0_4.length : Int)) = true := decide_eq_true c20; clear c20; obtain ⟨t392, A21, H⟩ := bO H
          by_cases c22 : t392 = true
          ·subst c22
           rw [if_pos rfl] at H; have H' := am H; clear H; have p390 : 0 ≤ (x21_2 : Int) := of_decide_eq_true eA; have q390 : x21_2 < (l0_4.length : Int) := of_decide_eq_true eA; obtain ⟨ad390, A390_3, c390_3, A390_4, c390_4, e390, hx390_0, hx390_1, hx390_2, hx390_3, hx390_4, hl390_3, hi390_3, hl390_4, hi390_4⟩ := at_T30 HR0_4.out x21_2 p390 q390
           cases e390
           replace hx390_0 := cX HB hx390_0; replace hx390_1 := cX HB hx390_1; replace hx390_2 := cX HB hx390_2; replace hx390_3 := cX HB hx390_3; replace hx390_4 := cX HB hx390_4; have HR390_3 := am hi390_3; have HC390_3 := am hl390_3; clear hi390_3 hl390_3; have HR390_4 := am hi390_4; have HC390_4 := am hl390_4; clear hi390_4 hl390_4; replace p390 := eq_true p390; replace q390 := eq_true q390
           go_wp2_with (first | ((with_reducible refine gate_dst (N := 6) rfl ?_); (try (refine gate_guard (by rfl) ?_; dsimp only)); refine bE 6 #[.int .i64 0, .string (⟨#[]⟩ : ByteArray), .string (⟨#[]⟩ : ByteArray), .slice none 0 0, .slice none 0 0] 30 ?_; intro gb391 w23 BK391 hg hb; have GW391 := bZ hg; have GE391 := bZ hg; replace HB := bH hb; have NB386_391 := bN BK386 hg; have NB391_386 := bM BK386 hg; replace BK386 := bK BK386 hb; clear hb hg; have hnb24 := NB391_386.out; have hnc24 := NB386_391.out; obtain ⟨z25_0, z25_1, z25_2, z25_3, z25_4, y25_0, y25_1, y25_2, y25_3, y25_4⟩ := y5 BK391) | ((with_reducible refine gate_callee (f := 26) rfl ?_); refine gL 26 Tryd.func26 #[.agg #[.int .i64 ((rd_T30 l0_4 x21_2).f0), .string ((rd_T30 l0_4 x21_2).f1), .string ((rd_T30 l0_4 x21_2).f2), .slice A390_3 ((rd_T30 l0_4 x21_2).f3).length c390_3, .slice A390_4 ((rd_T30 l0_4 x21_2).f4).length c390_4]] ?_; (with_reducible refine (ih k2 (by have := HK1.out; have := HK2.out; omega) ((rd_T30 l0_4 x21_2).f0) ((rd_T30 l0_4 x21_2).f1) ((rd_T30 l0_4 x21_2).f2) _ _ ((rd_T30 l0_4 x21_2).f3) _ _ ((rd_T30 l0_4 x21_2).f4) true _ ?side1 HC390_3.out ?side3 HC390_4.out A21.out).mono ?_); (case side1 => exact Kd.C_below HR390_3.out bB); (case side3 => exact Kd.C_below HR390_4.out bB); rintro e w26 ⟨rfl, hb⟩; refine ⟨_, rfl, ?_⟩; replace BK386 := bK (bX5 _ _ _ _ _ BK386 NB386_391.out) hb; replace BK391 := bK (bP5 (.int .i64 ((rd_T30 l0_4 x21_2).f0)) (.string ((rd_T30 l0_4 x21_2).f1)) (.string ((rd_T30 l0_4 x21_2).f2)) (.slice A390_3 ((rd_T30 l0_4 x21_2).f3).length c390_3) (.slice A390_4 ((rd_T30 l0_4 x21_2).f4).length c390_4) BK391) hb; replace HB := bH hb; clear hb))
           go_roundg k2
           case measure => have := HK1.out; have := HK2.out; omega
           case rel => exact ⟨(wrap64 (x21_2 + 1)), eS, H', ⟨by have := HK1.out; have := HK2.out; omega⟩, ⟨bD BK386⟩, ⟨bB⟩⟩
          ·replace c22 := Bool.eq_false_iff.mpr c22
           subst c22; rw [if_neg (show ¬ (false = true) by decide)] at H; obtain rfl := Option.some.inj H; have p390 : 0 ≤ (x21_2 : Int) := of_decide_eq_true eA; have q390 : x21_2 < (l0_4.length : Int) := of_decide_eq_true eA; obtain ⟨ad390, A390_3, c390_3, A390_4, c390_4, e390, hx390_0, hx390_1, hx390_2, hx390_3, hx390_4, hl390_3, hi390_3, hl390_4, hi390_4⟩ := at_T30 HR0_4.out x21_2 p390 q390
           cases e390
           replace hx390_0 := cX HB hx390_0; replace hx390_1 := cX HB hx390_1; replace hx390_2 := cX HB hx390_2; replace hx390_3 := cX HB hx390_3; replace hx390_4 := cX HB hx390_4; have HR390_3 := am hi390_3; have HC390_3 := am hl390_3; clear hi390_3 hl390_3; have HR390_4 := am hi390_4; have HC390_4 := am hl390_4; clear hi390_4 hl390_4; replace p390 := eq_true p390; replace q390 := eq_true q390
           go_wp2_with (first | ((with_reducible refine gate_dst (N := 6) rfl ?_); (try (refine gate_guard (by rfl) ?_; dsimp only)); refine bE 6 #[.int .i64 0, .string (⟨#[]⟩ : ByteArray), .string (⟨#[]⟩ : ByteArray), .slice none 0 0, .slice none 0 0] 30 ?_; intro gb391 w27 BK391 hg hb; have GW391 := bZ hg; have GE391 := bZ hg; replace HB := bH hb; have NB386_391 := bN BK386 hg; have NB391_386 := bM BK386 hg; replace BK386 := bK BK386 hb; clear hb hg; have hnb28 := NB391_386.out; have hnc28 := NB386_391.out; obtain ⟨z29_0, z29_1, z29_2, z29_3, z29_4, y29_0, y29_1, y29_2, y29_3, y29_4⟩ := y5 BK391) | ((with_reducible refine gate_callee (f := 26) rfl ?_); refine gL 26 Tryd.func26 #[.agg #[.int .i64 ((rd_T30 l0_4 x21_2).f0), .string ((rd_T30 l0_4 x21_2).f1), .string ((rd_T30 l0_4 x21_2).f2), .slice A390_3 ((rd_T30 l0_4 x21_2).f3).length c390_3, .slice A390_4 ((rd_T30 l0_4 x21_2).f4).length c390_4]] ?_; (with_reducible refine (ih k2 (by have := HK1.out; have := HK2.out; omega) ((rd_T30 l0_4 x21_2).f0) ((rd_T30 l0_4 x21_2).f1) ((rd_T30 l0_4 x21_2).f2) _ _ ((rd_T30 l0_4 x21_2).f3) _ _ ((rd_T30 l0_4 x21_2).f4) false _ ?side1 HC390_3.out ?side3 HC390_4.out A21.out).mono ?_); (case side1 => exact Kd.C_below HR390_3.out bB); (case side3 => exact Kd.C_below HR390_4.out bB); rintro e w30 ⟨rfl, hb⟩; refine ⟨_, rfl, ?_⟩; replace BK386 := bK (bX5 _ _ _ _ _ BK386 NB386_391.out) hb; replace BK391 := bK (bP5 (.int .i64 ((rd_T30 l0_4 x21_2).f0)) (.string ((rd_T30 l0_4 x21_2).f1)) (.string ((rd_T30 l0_4 x21_2).f2)) (.slice A390_3 ((rd_T30 l0_4 x21_2).f3).length c390_3) (.slice A390_4 ((rd_T30 l0_4 x21_2).f4).length c390_4) BK391) hb; replace HB := bH hb; clear hb))
           go_ret; exact ⟨eW, bB⟩
         ·rw [if_neg c20] at H
          exact absurd H (by simp)
        ·rw [if_neg c19] at H
         exact absurd H (by simp)
       ·rw [if_neg c18] at H
        have c18b0 : decide (x21_2 < (l0_4.length : Int)) = false := decide_eq_false c18; clear c18
        by_cases c31 : (a0_1.size : Int) ≤ 100
        ·rw [if_pos c31] at H
         have c31b0 : decide ((a0_1.size : Int) ≤ 100) = true := decide_eq_true c31; have c31b1 : decide (a0_1.size ≤ 100) = true := decide_eq_true (by omega); clear c31; obtain rfl := Option.some.inj H; obtain ⟨z32_0, z32_1, z32_2, z32_3, z32_4, y32_0, y32_1, y32_2, y32_3, y32_4⟩ := y5 BK386; go_wp2; go_ret; exact ⟨eW, bB⟩
        ·rw [if_neg c31] at H
         have c31b0 : decide ((a0_1.size : Int) ≤ 100) = false := decide_eq_false c31; have c31b1 : decide (a0_1.size ≤ 100) = false := decide_eq_false (by omega); clear c31; obtain rfl := Option.some.inj H; obtain ⟨z33_0, z33_1, z33_2, z33_3, z33_4, y33_0, y33_1, y33_2, y33_3, y33_4⟩ := y5 BK386; go_wp2; go_ret; exact ⟨eW, bB⟩
end Go.Proofs.YtmlkllbaehegjaaDoor.PAll
end
section
namespace Go.Proofs.YtmlkllbaehegjaaDoor.PAll
open Go.RowKit Go.Proofs.YtmlkllbaehegjaaDoorW.PrintWords Go.Proofs.YtmlkllbaehegjaaDoorW.PrintLast Go.Proofs.YtmlkllbaehegjaaDoorW.PrintMore
attribute [local go_sem] max2_int min2_int max_two min_two max_three min_three max_four min_four
set_option linter.unusedVariables false
set_option linter.unusedSimpArgs false
/-! ### sequiturlaw14_Plain: function 11 -/
def sequiturlaw14_Plain.f (k : Nat) (a0_0 : Int) (a0_1 : ByteArray) (a0_2 : ByteArray) (l0_3 : List (S53)) (l0_4 : List (S30)) (a1 : Int) : Option (Bool) := (sequiturbase_Big.f k a0_0 a0_1 a0_2 l0_3 l0_4 a1).bind fun t394 => (if t394 = true then (some false) else ((sequiturref08_Right.f k a0_0 a0_1 a0_2 l0_3 l0_4).bind fun t395 => (if t395 = 0 then ((sequiturlaw14_named.f k a0_0 a0_1 a0_2 l0_3 l0_4).bind fun t396 => (some t396)) else (some false))))
set_option maxHeartbeats 8000000 in
set_option maxRecDepth 100000 in
theorem sequiturlaw14_Plain.calls (k : Nat) (a0_0 : Int) (a0_1 : ByteArray) (a0_2 : ByteArray) (A0_3 : Option Addr) (c0_3 : Nat) (l0_3 : List (S53)) (A0_4 : Option Addr) (c0_4 : Nat) (l0_4 : List (S30)) (a1 : Int) (r : Bool) (w : World) (hr0_3 : Kd.C k53 w A0_3 l0_3.length l0_3) (hc0_3 : l0_3.length ≤ c0_3) (hr0_4 : Kd.C k30 w A0_4 l0_4.length l0_4) (hc0_4 : l0_4.length ≤ c0_4) (h : sequiturlaw14_Plain.f k a0_0 a0_1 a0_2 l0_3 l0_4 a1 = some r) :
    Calls Tryd.prog 11 #[.agg #[.int .i64 a0_0, .string a0_1, .string a0_2, .slice A0_3 l0_3.length c0_3, .slice A0_4 l0_4.length c0_4], .int .i64 a1] w fun e w' => e = .returned (.bool r) ∧ Below w.heap.size w w' := by
  have hu30 := Tryd.underlying30; have HR0_3 := am hr0_3; have HC0_3 := am hc0_3; clear hr0_3 hc0_3; have HR0_4 := am hr0_4; have HC0_4 := am hc0_4; clear hr0_4 hc0_4; have HB := am (Below.refl w.heap.size w); have H := h; unfold sequiturlaw14_Plain.f at H; clear h; obtain ⟨t394, A3, H⟩ := bO H
  by_cases c4 : t394 = true
  ·subst c4
   rw [if_pos rfl] at H; obtain rfl := Option.some.inj H
   go_enter Tryd.func11, Tryd.ntmps11
   go_wp2_with (first | ((with_reducible refine gate_dst (N := 2) rfl ?_); refine bE 2 #[.int .i64 a0_0, .string a0_1, .string a0_2, .slice A0_3 l0_3.length c0_3, .slice A0_4 l0_4.length c0_4] 30 ?_; intro gb393 w5 BK393 hg hb; have GW393 := bZ hg; have GE393 := bZ hg; replace HB := bH hb; clear hb hg; obtain ⟨z6_0, z6_1, z6_2, z6_3, z6_4, y6_0, y6_1, y6_2, y6_3, y6_4⟩ := y5 BK393) | ((with_reducible refine gate_callee (f := 25) rfl ?_); refine gL 7 Tryd.func25 #[.agg #[.int .i64 a0_0, .string a0_1, .string a0_2, .slice A0_3 l0_3.length c0_3, .slice A0_4 l0_4.length c0_4], .int .i64 a1] ?_; (with_reducible refine (sequiturbase_Big.calls k a0_0 a0_1 a0_2 _ _ l0_3 _ _ l0_4 a1 true _ ?side1 HC0_3.out ?side3 HC0_4.out A3.out).mono ?_); (case side1 => exact cB HR0_3); (case side3 => exact cB HR0_4); rintro e w7 ⟨rfl, hb⟩; refine ⟨_, rfl, ?_⟩; replace BK393 := bK BK393 hb; replace HB := bH hb; clear hb))
   go_ret; exact ⟨eW, bB⟩
  ·replace c4 := Bool.eq_false_iff.mpr c4
   subst c4; rw [if_neg (show ¬ (false = true) by decide)] at H; obtain ⟨t395, A8, H⟩ := bO H
   by_cases c9 : t395 = 0
   ·rw [if_pos c9] at H
    have c9b0 := beq_iff_eq.mpr c9; have c9b1 := bne_eq_false_iff_eq.mpr c9; clear c9; obtain ⟨t396, A10, H⟩ := bO H; obtain rfl := Option.some.inj H
    go_enter Tryd.func11, Tryd.ntmps11
    go_wp2_with (first | ((with_reducible refine gate_dst (N := 2) rfl ?_); refine bE 2 #[.int .i64 a0_0, .string a0_1, .string a0_2, .slice A0_3 l0_3.length c0_3, .slice A0_4 l0_4.length c0_4] 30 ?_; intro gb393 w11 BK393 hg hb; have GW393 := bZ hg; have GE393 := bZ hg; replace HB := bH hb; clear hb hg; obtain ⟨z12_0, z12_1, z12_2, z12_3, z12_4, y12_0, y12_1, y12_2, y12_3, y12_4⟩ := y5 BK393) | ((with_reducible refine gate_callee (f := 25) rfl ?_); refine gL 7 Tryd.func25 #[.agg #[.int .i64 a0_0, .string a0_1, .string a0_2, .slice A0_3 l0_3.length c0_3, .slice A0_4 l0_4.length c0_4], .int .i64 a1] ?_; (with_reducible refine (sequiturbase_Big.calls k a0_0 a0_1 a0_2 _ _ l0_3 _ _ l0_4 a1 false _ ?side1 ?side2 ?side3 ?side4 A3.out).mono ?_); (case side1 => exact cB HR0_3); (case side2 => exact HC0_3.out); (case side3 => exact cB HR0_4); (case side4 => exact HC0_4.out); rintro e w13 ⟨rfl, hb⟩; refine ⟨_, rfl, ?_⟩; replace BK393 := bK BK393 hb; replace HB := bH hb; clear hb; obtain ⟨z14_0, z14_1, z14_2, z14_3, z14_4, y14_0, y14_1, y14_2, y14_3, y14_4⟩ := y5 BK393) | (go_at_call 13; (with_reducible refine (sequiturref08_Right.calls k a0_0 a0_1 a0_2 _ _ l0_3 _ _ l0_4 t395 _ ?side1 ?side2 ?side3 ?side4 A8.out).mono ?_); (case side1 => exact cB HR0_3); (case side2 => exact HC0_3.out); (case side3 => exact cB HR0_4); (case side4 => exact HC0_4.out); rintro e w15 ⟨rfl, hb⟩; replace BK393 := bK BK393 hb; replace HB := bH hb; clear hb; obtain ⟨z16_0, z16_1, z16_2, z16_3, z16_4, y16_0, y16_1, y16_2, y16_3, y16_4⟩ := y5 BK393) | (go_at_call 26; (with_reducible refine (sequiturlaw14_named.calls k a0_0 a0_1 a0_2 _ _ l0_3 _ _ l0_4 t396 _ ?side1 ?side2 ?side3 ?side4 A10.out).mono ?_); (case side1 => exact cB HR0_3); (case side2 => exact HC0_3.out); (case side3 => exact cB HR0_4); (case side4 => exact HC0_4.out); rintro e w17 ⟨rfl, hb⟩; replace BK393 := bK BK393 hb; replace HB := bH hb; clear hb))
    go_ret; exact ⟨eW, bB⟩
   ·rw [if_neg c9] at H
    have c9b0 := beq_eq_false_iff_ne.mpr c9; have c9b1 := bne_iff_ne.mpr c9; obtain rfl := Option.some.inj H
    go_enter Tryd.func11, Tryd.ntmps11
    go_wp2_with (first | ((with_reducible refine gate_dst (N := 2) rfl ?_); refine bE 2 #[.int .i64 a0_0, .string a0_1, .string a0_2, .slice A0_3 l0_3.length c0_3, .slice A0_4 l0_4.length c0_4] 30 ?_; intro gb393 w18 BK393 hg hb; have GW393 := bZ hg; have GE393 := bZ hg; replace HB := bH hb; clear hb hg; obtain ⟨z19_0, z19_1, z19_2, z19_3, z19_4, y19_0, y19_1, y19_2, y19_3, y19_4⟩ := y5 BK393) | ((with_reducible refine gate_callee (f := 25) rfl ?_); refine gL 7 Tryd.func25 #[.agg #[.int .i64 a0_0, .string a0_1, .string a0_2, .slice A0_3 l0_3.length c0_3, .slice A0_4 l0_4.length c0_4], .int .i64 a1] ?_; (with_reducible refine (sequiturbase_Big.calls k a0_0 a0_1 a0_2 _ _ l0_3 _ _ l0_4 a1 false _ ?side1 ?side2 ?side3 ?side4 A3.out).mono ?_); (case side1 => exact cB HR0_3); (case side2 => exact HC0_3.out); (case side3 => exact cB HR0_4); (case side4 => exact HC0_4.out); rintro e w20 ⟨rfl, hb⟩; refine ⟨_, rfl, ?_⟩; replace BK393 := bK BK393 hb; replace HB := bH hb; clear hb; obtain ⟨z21_0, z21_1, z21_2, z21_3, z21_4, y21_0, y21_1, y21_2, y21_3, y21_4⟩ := y5 BK393) | (go_at_call 13; (with_reducible refine (sequiturref08_Right.calls k a0_0 a0_1 a0_2 _ _ l0_3 _ _ l0_4 t395 _ ?side1 ?side2 ?side3 ?side4 A8.out).mono ?_); (case side1 => exact cB HR0_3); (case side2 => exact HC0_3.out); (case side3 => exact cB HR0_4); (case side4 => exact HC0_4.out); rintro e w22 ⟨rfl, hb⟩; replace BK393 := bK BK393 hb; replace HB := bH hb; clear hb))
    go_ret; exact ⟨eW, bB⟩
end Go.Proofs.YtmlkllbaehegjaaDoor.PAll
end
section
/- Plain laws: how great a term and a claim are; Big, Size, Depth, Right (chapter 8), named. -/
namespace Go.Proofs.YtmlkllbaehegjaaDoor.PAll
open Go.RowKit
open Go.Proofs.YtmlkllbaehegjaaDoor
mutual
def wT : S53 → Nat
  | ⟨_, _, _, l⟩ => 1 + wTs l
def wTs : List S53 → Nat
  | [] => 0
  | t :: r => wT t + wTs r
end
mutual
def wC : S30 → Nat
  | ⟨_, _, _, l, c⟩ => 1 + wTs l + wCs c
def wCs : List S30 → Nat
  | [] => 0
  | t :: r => wC t + wCs r
end
theorem wT_eq (t : S53) : wT t = 1 + wTs t.f3 := by cases t; simp [wT]
theorem wC_eq (c : S30) : wC c = 1 + wTs c.f3 + wCs c.f4 := by cases c; simp [wC]
theorem wTs_drop {l : List S53} {i : Nat} (hi : i < l.length) : wTs (l.drop i) = wT l[i] + wTs (l.drop (i + 1)) := by rw [List.drop_eq_getElem_cons hi, wTs]
theorem wCs_drop {l : List S30} {i : Nat} (hi : i < l.length) : wCs (l.drop i) = wC l[i] + wCs (l.drop (i + 1)) := by rw [List.drop_eq_getElem_cons hi, wCs]
theorem wT_pos (t : S53) : 1 ≤ wT t := by rw [wT_eq]; omega
theorem wC_pos (c : S30) : 1 ≤ wC c := by rw [wC_eq]; omega
theorem wT_mem : ∀ {l : List S53} {i : Nat} (hi : i < l.length), wT l[i] ≤ wTs l
  | t :: r, 0, _ => by simp [wTs]
  | t :: r, i + 1, hi => by
    have := wT_mem (l := r) (i := i) (by simpa using hi)
    simp [wTs]
    omega
theorem wC_mem : ∀ {l : List S30} {i : Nat} (hi : i < l.length), wC l[i] ≤ wCs l
  | t :: r, 0, _ => by simp [wCs]
  | t :: r, i + 1, hi => by
    have := wC_mem (l := r) (i := i) (by simpa using hi)
    simp [wCs]
    omega
theorem wTs_len : ∀ (l : List S53), l.length ≤ wTs l
  | [] => by simp [wTs]
  | t :: r => by
    have := wTs_len r
    have := wT_pos t
    simp [wTs]
    omega
theorem wCs_len : ∀ (l : List S30), l.length ≤ wCs l
  | [] => by simp [wCs]
  | t :: r => by
    have := wCs_len r
    have := wC_pos t
    simp [wCs]
    omega
theorem rdT {l : List S53} {i : Nat} (hi : i < l.length) : rd_T53 l (i : Int) = l[i] := by simp [rd_T53, hi]
theorem rdC {l : List S30} {i : Nat} (hi : i < l.length) : rd_T30 l (i : Int) = l[i] := by simp [rd_T30, hi]
theorem wrapN {x : Int} {n : Nat} (h : x = (n : Int)) (hn : n < 9223372036854775808) : wrap64 x = (n : Int) := by
  subst h
  exact IntWalk.wrap64_in _ (by omega)
/-! ### sequiturbase_Size -/
theorem sequiturbase_Size_ev : ∀ (N : Nat) (t : S53), wT t ≤ N → ∀ m : Nat, m ≤ 100000 → Ev (fun k => sequiturbase_Size.f k t.f0 t.f1 t.f2 t.f3 (m : Int)) ((min (wT t) (m + 1) : Nat) : Int)
  | 0, t, h, m, hm => by
    have := wT_pos t
    omega
  | N + 1, t, h, m, hm => by
    rw [wT_eq] at h
    have loop : ∀ (j i n : Nat), i + j = t.f3.length → i < n → n ≤ m + 1 → Ev (fun k => sequiturbase_Size.l0 k (m : Int) (n : Int) (i : Int) t.f0 t.f1 t.f2 t.f3) ((min (n + wTs (t.f3.drop i)) (m + 1) : Nat) : Int) := by
      intro j
      induction j with
      | zero =>
        intro i n hi hin hn
        refine Ev.step ?_
        simp only [sequiturbase_Size.l0]
        rw [List.drop_eq_nil_of_le (by omega), wTs, Nat.add_zero, Nat.min_eq_left hn]
        exact Ev.neg (by omega) (Ev.const _)
      | succ j ih =>
        intro i n hi hin hn
        have hlt : i < t.f3.length := by omega
        refine Ev.step ?_
        simp only [sequiturbase_Size.l0]
        refine Ev.pos (by omega) ?_
        by_cases hm2 : n ≤ m
        · refine Ev.pos (by omega) (Ev.pos (by omega) ?_)
          have hw := wT_mem hlt
          rw [rdT hlt, wrapN (x := (m : Int) - (n : Int)) (n := m - n) (by omega) (by omega)]
          refine Ev.bind (sequiturbase_Size_ev N t.f3[i] (by omega) (m - n) (by omega)) ?_
          have hp := wT_pos t.f3[i]
          rw [wrapN (x := (n : Int) + ((min (wT t.f3[i]) (m - n + 1) : Nat) : Int)) (n := n + min (wT t.f3[i]) (m - n + 1)) (by omega) (by omega), wrapN (x := (i : Int) + 1) (n := i + 1) (by omega) (by omega)]
          refine (ih (i + 1) (n + min (wT t.f3[i]) (m - n + 1)) (by omega) (by omega) (by omega)).eq ?_
          rw [wTs_drop hlt]
          congr 1
          omega
        · refine Ev.neg (by omega) ((Ev.const _).eq ?_)
          congr 1
          omega
    refine Ev.step ?_
    simp only [sequiturbase_Size.f]
    have := loop t.f3.length 0 1 (by omega) (by omega) (by omega)
    rw [List.drop_zero, ← wT_eq] at this
    exact this
/-! ### sequiturbase_weight -/
theorem sequiturbase_weight_ev : ∀ (N : Nat) (c : S30), wC c ≤ N → ∀ m : Nat, m ≤ 100000 → Ev (fun k => sequiturbase_weight.f k c.f0 c.f1 c.f2 c.f3 c.f4 (m : Int)) ((min (wC c) (m + 1) : Nat) : Int)
  | 0, c, h, m, hm => by
    have := wC_pos c
    omega
  | N + 1, c, h, m, hm => by
    rw [wC_eq] at h
    have loop1 : ∀ (j i n : Nat), i + j = c.f4.length → i < n → n ≤ m + 1 → Ev (fun k => sequiturbase_weight.l1 k (m : Int) (n : Int) (i : Int) c.f0 c.f1 c.f2 c.f3 c.f4) ((min (n + wCs (c.f4.drop i)) (m + 1) : Nat) : Int) := by
      intro j
      induction j with
      | zero =>
        intro i n hi hin hn
        refine Ev.step ?_
        simp only [sequiturbase_weight.l1]
        rw [List.drop_eq_nil_of_le (by omega), wCs, Nat.add_zero, Nat.min_eq_left hn]
        exact Ev.neg (by omega) (Ev.const _)
      | succ j ih =>
        intro i n hi hin hn
        have hlt : i < c.f4.length := by omega
        refine Ev.step ?_
        simp only [sequiturbase_weight.l1]
        refine Ev.pos (by omega) ?_
        by_cases hm2 : n ≤ m
        · refine Ev.pos (by omega) (Ev.pos (by omega) ?_)
          have hw := wC_mem hlt
          rw [rdC hlt, wrapN (x := (m : Int) - (n : Int)) (n := m - n) (by omega) (by omega)]
          refine Ev.bind (sequiturbase_weight_ev N c.f4[i] (by omega) (m - n) (by omega)) ?_
          have hp := wC_pos c.f4[i]
          rw [wrapN (x := (n : Int) + ((min (wC c.f4[i]) (m - n + 1) : Nat) : Int)) (n := n + min (wC c.f4[i]) (m - n + 1)) (by omega) (by omega), wrapN (x := (i : Int) + 1) (n := i + 1) (by omega) (by omega)]
          refine (ih (i + 1) (n + min (wC c.f4[i]) (m - n + 1)) (by omega) (by omega) (by omega)).eq ?_
          rw [wCs_drop hlt]
          congr 1
          omega
        · refine Ev.neg (by omega) ((Ev.const _).eq ?_)
          congr 1
          omega
    have behind : ∀ n : Nat, 1 ≤ n → n ≤ m + 1 → Ev (fun k => sequiturbase_weight.j1 k (m : Int) (n : Int) c.f0 c.f1 c.f2 c.f3 c.f4) ((min (n + wCs c.f4) (m + 1) : Nat) : Int) := by
      intro n h1 hn
      refine Ev.step ?_
      simp only [sequiturbase_weight.j1]
      have := loop1 c.f4.length 0 n (by omega) (by omega) hn
      rw [List.drop_zero] at this
      exact this
    have loop : ∀ (j i n : Nat), i + j = c.f3.length → i < n → n ≤ m + 1 → Ev (fun k => sequiturbase_weight.l0 k (m : Int) (n : Int) (i : Int) c.f0 c.f1 c.f2 c.f3 c.f4) ((min (n + wTs (c.f3.drop i) + wCs c.f4) (m + 1) : Nat) : Int) := by
      intro j
      induction j with
      | zero =>
        intro i n hi hin hn
        refine Ev.step ?_
        simp only [sequiturbase_weight.l0]
        rw [List.drop_eq_nil_of_le (by omega), wTs, Nat.add_zero]
        exact Ev.neg (by omega) (behind n (by omega) hn)
      | succ j ih =>
        intro i n hi hin hn
        have hlt : i < c.f3.length := by omega
        refine Ev.step ?_
        simp only [sequiturbase_weight.l0]
        refine Ev.pos (by omega) ?_
        by_cases hm2 : n ≤ m
        · refine Ev.pos (by omega) (Ev.pos (by omega) ?_)
          rw [rdT hlt, wrapN (x := (m : Int) - (n : Int)) (n := m - n) (by omega) (by omega)]
          refine Ev.bind (sequiturbase_Size_ev _ c.f3[i] (Nat.le_refl _) (m - n) (by omega)) ?_
          have hp := wT_pos c.f3[i]
          rw [wrapN (x := (n : Int) + ((min (wT c.f3[i]) (m - n + 1) : Nat) : Int)) (n := n + min (wT c.f3[i]) (m - n + 1)) (by omega) (by omega), wrapN (x := (i : Int) + 1) (n := i + 1) (by omega) (by omega)]
          refine (ih (i + 1) (n + min (wT c.f3[i]) (m - n + 1)) (by omega) (by omega) (by omega)).eq ?_
          rw [wTs_drop hlt]
          congr 1
          omega
        · refine Ev.neg (by omega) ((behind n (by omega) hn).eq ?_)
          congr 1
          omega
    refine Ev.step ?_
    simp only [sequiturbase_weight.f]
    have := loop c.f3.length 0 1 (by omega) (by omega) (by omega)
    rw [List.drop_zero, ← wC_eq] at this
    exact this
/-! ### sequiturref08_size -/
theorem sequiturref08_size_ev : ∀ (N : Nat) (t : S53), wT t ≤ N → ∀ m : Nat, m ≤ 100000 → Ev (fun k => sequiturref08_size.f k t.f0 t.f1 t.f2 t.f3 (m : Int)) ((min (wT t) (m + 1) : Nat) : Int)
  | 0, t, h, m, hm => by
    have := wT_pos t
    omega
  | N + 1, t, h, m, hm => by
    rw [wT_eq] at h
    have loop : ∀ (j i n : Nat), i + j = t.f3.length → i < n → n ≤ m + 1 → Ev (fun k => sequiturref08_size.l0 k (m : Int) (n : Int) (i : Int) t.f0 t.f1 t.f2 t.f3) ((min (n + wTs (t.f3.drop i)) (m + 1) : Nat) : Int) := by
      intro j
      induction j with
      | zero =>
        intro i n hi hin hn
        refine Ev.step ?_
        simp only [sequiturref08_size.l0]
        rw [List.drop_eq_nil_of_le (by omega), wTs, Nat.add_zero, Nat.min_eq_left hn]
        exact Ev.neg (by omega) (Ev.const _)
      | succ j ih =>
        intro i n hi hin hn
        have hlt : i < t.f3.length := by omega
        refine Ev.step ?_
        simp only [sequiturref08_size.l0]
        refine Ev.pos (by omega) ?_
        by_cases hm2 : n ≤ m
        · refine Ev.pos (by omega) (Ev.pos (by omega) ?_)
          have hw := wT_mem hlt
          rw [rdT hlt, wrapN (x := (m : Int) - (n : Int)) (n := m - n) (by omega) (by omega)]
          refine Ev.bind (sequiturref08_size_ev N t.f3[i] (by omega) (m - n) (by omega)) ?_
          have hp := wT_pos t.f3[i]
          rw [wrapN (x := (n : Int) + ((min (wT t.f3[i]) (m - n + 1) : Nat) : Int)) (n := n + min (wT t.f3[i]) (m - n + 1)) (by omega) (by omega), wrapN (x := (i : Int) + 1) (n := i + 1) (by omega) (by omega)]
          refine (ih (i + 1) (n + min (wT t.f3[i]) (m - n + 1)) (by omega) (by omega) (by omega)).eq ?_
          rw [wTs_drop hlt]
          congr 1
          omega
        · refine Ev.neg (by omega) ((Ev.const _).eq ?_)
          congr 1
          omega
    refine Ev.step ?_
    simp only [sequiturref08_size.f]
    have := loop t.f3.length 0 1 (by omega) (by omega) (by omega)
    rw [List.drop_zero, ← wT_eq] at this
    exact this
/-! ### sequiturref08_weigh -/
theorem sequiturref08_weigh_ev : ∀ (N : Nat) (c : S30), wC c ≤ N → ∀ m : Nat, m ≤ 100000 → Ev (fun k => sequiturref08_weigh.f k c.f0 c.f1 c.f2 c.f3 c.f4 (m : Int)) ((min (wC c) (m + 1) : Nat) : Int)
  | 0, c, h, m, hm => by
    have := wC_pos c
    omega
  | N + 1, c, h, m, hm => by
    rw [wC_eq] at h
    have loop1 : ∀ (j i n : Nat), i + j = c.f4.length → i < n → n ≤ m + 1 → Ev (fun k => sequiturref08_weigh.l1 k (m : Int) (n : Int) (i : Int) c.f0 c.f1 c.f2 c.f3 c.f4) ((min (n + wCs (c.f4.drop i)) (m + 1) : Nat) : Int) := by
      intro j
      induction j with
      | zero =>
        intro i n hi hin hn
        refine Ev.step ?_
        simp only [sequiturref08_weigh.l1]
        rw [List.drop_eq_nil_of_le (by omega), wCs, Nat.add_zero, Nat.min_eq_left hn]
        exact Ev.neg (by omega) (Ev.const _)
      | succ j ih =>
        intro i n hi hin hn
        have hlt : i < c.f4.length := by omega
        refine Ev.step ?_
        simp only [sequiturref08_weigh.l1]
        refine Ev.pos (by omega) ?_
        by_cases hm2 : n ≤ m
        · refine Ev.pos (by omega) (Ev.pos (by omega) ?_)
          have hw := wC_mem hlt
          rw [rdC hlt, wrapN (x := (m : Int) - (n : Int)) (n := m - n) (by omega) (by omega)]
          refine Ev.bind (sequiturref08_weigh_ev N c.f4[i] (by omega) (m - n) (by omega)) ?_
          have hp := wC_pos c.f4[i]
          rw [wrapN (x := (n : Int) + ((min (wC c.f4[i]) (m - n + 1) : Nat) : Int)) (n := n + min (wC c.f4[i]) (m - n + 1)) (by omega) (by omega), wrapN (x := (i : Int) + 1) (n := i + 1) (by omega) (by omega)]
          refine (ih (i + 1) (n + min (wC c.f4[i]) (m - n + 1)) (by omega) (by omega) (by omega)).eq ?_
          rw [wCs_drop hlt]
          congr 1
          omega
        · refine Ev.neg (by omega) ((Ev.const _).eq ?_)
          congr 1
          omega
    have behind : ∀ n : Nat, 1 ≤ n → n ≤ m + 1 → Ev (fun k => sequiturref08_weigh.j1 k (m : Int) (n : Int) c.f0 c.f1 c.f2 c.f3 c.f4) ((min (n + wCs c.f4) (m + 1) : Nat) : Int) := by
      intro n h1 hn
      refine Ev.step ?_
      simp only [sequiturref08_weigh.j1]
      have := loop1 c.f4.length 0 n (by omega) (by omega) hn
      rw [List.drop_zero] at this
      exact this
    have loop : ∀ (j i n : Nat), i + j = c.f3.length → i < n → n ≤ m + 1 → Ev (fun k => sequiturref08_weigh.l0 k (m : Int) (n : Int) (i : Int) c.f0 c.f1 c.f2 c.f3 c.f4) ((min (n + wTs (c.f3.drop i) + wCs c.f4) (m + 1) : Nat) : Int) := by
      intro j
      induction j with
      | zero =>
        intro i n hi hin hn
        refine Ev.step ?_
        simp only [sequiturref08_weigh.l0]
        rw [List.drop_eq_nil_of_le (by omega), wTs, Nat.add_zero]
        exact Ev.neg (by omega) (behind n (by omega) hn)
      | succ j ih =>
        intro i n hi hin hn
        have hlt : i < c.f3.length := by omega
        refine Ev.step ?_
        simp only [sequiturref08_weigh.l0]
        refine Ev.pos (by omega) ?_
        by_cases hm2 : n ≤ m
        · refine Ev.pos (by omega) (Ev.pos (by omega) ?_)
          rw [rdT hlt, wrapN (x := (m : Int) - (n : Int)) (n := m - n) (by omega) (by omega)]
          refine Ev.bind (sequiturref08_size_ev _ c.f3[i] (Nat.le_refl _) (m - n) (by omega)) ?_
          have hp := wT_pos c.f3[i]
          rw [wrapN (x := (n : Int) + ((min (wT c.f3[i]) (m - n + 1) : Nat) : Int)) (n := n + min (wT c.f3[i]) (m - n + 1)) (by omega) (by omega), wrapN (x := (i : Int) + 1) (n := i + 1) (by omega) (by omega)]
          refine (ih (i + 1) (n + min (wT c.f3[i]) (m - n + 1)) (by omega) (by omega) (by omega)).eq ?_
          rw [wTs_drop hlt]
          congr 1
          omega
        · refine Ev.neg (by omega) ((behind n (by omega) hn).eq ?_)
          congr 1
          omega
    refine Ev.step ?_
    simp only [sequiturref08_weigh.f]
    have := loop c.f3.length 0 1 (by omega) (by omega) (by omega)
    rw [List.drop_zero, ← wC_eq] at this
    exact this
end Go.Proofs.YtmlkllbaehegjaaDoor.PAll
end
section
/- Plain laws: chapter 8's Right tells an error at every claim; at OK the claim is of the right form. Plain. -/
namespace Go.Proofs.YtmlkllbaehegjaaDoor.PAll
open Go.RowKit
open Go.Proofs.YtmlkllbaehegjaaDoor
/-- From some number of rounds on F tells something, of which Q holds. -/
def Tot {α : Type} (F : Nat → Option α) (Q : α → Prop) : Prop := ∃ r, Ev F r ∧ Q r
theorem Tot.of {α : Type} {F : Nat → Option α} {Q : α → Prop} {r : α} (h : Ev F r) (q : Q r) : Tot F Q := ⟨r, h, q⟩
theorem Tot.const {α : Type} {Q : α → Prop} {r : α} (q : Q r) : Tot (fun _ => some r) Q := ⟨r, Ev.const r, q⟩
theorem Tot.step {α : Type} {F : Nat → Option α} {Q : α → Prop} (h : Tot (fun k => F (k + 1)) Q) : Tot F Q := by
  obtain ⟨r, h, q⟩ := h
  exact ⟨r, Ev.step h, q⟩
theorem Tot.ite {α : Type} {c : Prop} [Decidable c] {F G : Nat → Option α} {Q : α → Prop} (h : c → Tot F Q) (g : ¬ c → Tot G Q) : Tot (fun k => if c then F k else G k) Q := by
  by_cases hc : c
  · obtain ⟨r, h, q⟩ := h hc
    exact ⟨r, Ev.pos hc h, q⟩
  · obtain ⟨r, h, q⟩ := g hc
    exact ⟨r, Ev.neg hc h, q⟩
theorem Tot.bind {α β : Type} {F : Nat → Option α} {G : Nat → α → Option β} {R : α → Prop} {Q : β → Prop} (h : Tot F R) (g : ∀ a, R a → Tot (fun k => G k a) Q) : Tot (fun k => (F k).bind (G k)) Q := by
  obtain ⟨a, ha, ra⟩ := h
  obtain ⟨r, hr, q⟩ := g a ra
  exact ⟨r, Ev.bind ha hr, q⟩
theorem Tot.mono {α : Type} {F : Nat → Option α} {Q R : α → Prop} (h : Tot F Q) (hi : ∀ r, Q r → R r) : Tot F R := by
  obtain ⟨r, h, q⟩ := h
  exact ⟨r, h, hi r q⟩
mutual
/-- A term of the right form. -/
def RT : S53 → Prop
  | ⟨op, _, num, l⟩ => 1 ≤ op ∧ op ≤ 8 ∧ (op = 2 → 0 ≤ num) ∧ (op = 5 → l.length = 2) ∧ (op = 6 → l.length = 2) ∧ (op = 7 → l.length = 1) ∧ (op = 8 → l.length = 1) ∧ RTs l
def RTs : List S53 → Prop
  | [] => True
  | t :: r => RT t ∧ RTs r
end
mutual
/-- A claim of the right form. -/
def RC : S30 → Prop
  | ⟨op, _, _, l, c⟩ => 1 ≤ op ∧ op ≤ 12 ∧ (op = 4 → l.length = 2) ∧ (op = 5 → l.length = 2) ∧ (op = 6 → c.length = 1) ∧ (op = 11 → c.length = 1) ∧ (op = 12 → c.length = 1) ∧ (7 ≤ op → op ≤ 10 → c.length = 2) ∧ RTs l ∧ RCs c
def RCs : List S30 → Prop
  | [] => True
  | t :: r => RC t ∧ RCs r
end
mutual
/-- All names of at most 100 bytes. -/
def NT : S53 → Prop
  | ⟨_, name, _, l⟩ => name.size ≤ 100 ∧ NTs l
def NTs : List S53 → Prop
  | [] => True
  | t :: r => NT t ∧ NTs r
end
mutual
def NC : S30 → Prop
  | ⟨_, name, sort, l, c⟩ => name.size ≤ 100 ∧ sort.size ≤ 100 ∧ NTs l ∧ NCs c
def NCs : List S30 → Prop
  | [] => True
  | t :: r => NC t ∧ NCs r
end
theorem RTs_snoc {l : List S53} {i : Nat} (hi : i < l.length) (h : RTs (l.drop (i + 1))) (h1 : RT l[i]) : RTs (l.drop i) := by rw [List.drop_eq_getElem_cons hi]; exact ⟨h1, h⟩
theorem RCs_snoc {l : List S30} {i : Nat} (hi : i < l.length) (h : RCs (l.drop (i + 1))) (h1 : RC l[i]) : RCs (l.drop i) := by rw [List.drop_eq_getElem_cons hi]; exact ⟨h1, h⟩
theorem NTs_snoc {l : List S53} {i : Nat} (hi : i < l.length) (h : NTs (l.drop (i + 1))) (h1 : NT l[i]) : NTs (l.drop i) := by rw [List.drop_eq_getElem_cons hi]; exact ⟨h1, h⟩
theorem NCs_snoc {l : List S30} {i : Nat} (hi : i < l.length) (h : NCs (l.drop (i + 1))) (h1 : NC l[i]) : NCs (l.drop i) := by rw [List.drop_eq_getElem_cons hi]; exact ⟨h1, h⟩
theorem tall_tot : ∀ (N : Nat) (t : S53), wT t ≤ N → N ≤ 100000 → ∀ m : Nat, m ≤ 100 → Tot (fun k => sequiturref08_tall.f k t.f0 t.f1 t.f2 t.f3 (m : Int)) (fun v => 0 ≤ v ∧ v ≤ (m : Int) + 1)
  | 0, t, h, _, m, hm => by
    have := wT_pos t
    omega
  | N + 1, t, h, hN, m, hm => by
    rw [wT_eq] at h
    have hlen := wTs_len t.f3
    have loop : ∀ (j i : Nat) (b : Int), i + j = t.f3.length → 0 ≤ b → b ≤ (m : Int) → 1 < m → Tot (fun k => sequiturref08_tall.l0 k (m : Int) b (i : Int) t.f0 t.f1 t.f2 t.f3) (fun v => 0 ≤ v ∧ v ≤ (m : Int) + 1) := by
      intro j
      induction j with
      | zero =>
        intro i b hi h0 hb _
        refine Tot.step ?_
        simp only [sequiturref08_tall.l0]
        refine Tot.ite (fun h => by omega) (fun _ => Tot.const ?_)
        rw [IntWalk.wrap64_in _ (by omega)]
        omega
      | succ j ih =>
        intro i b hi h0 hb h1
        have hlt : i < t.f3.length := by omega
        have hw := wT_mem hlt
        refine Tot.step ?_
        simp only [sequiturref08_tall.l0]
        refine Tot.ite (fun _ => Tot.ite (fun _ => ?_) (fun h => by omega)) (fun h => by omega)
        rw [rdT hlt, wrapN (x := (m : Int) - 1) (n := m - 1) (by omega) (by omega), wrapN (x := (i : Int) + 1) (n := i + 1) (by omega) (by omega)]
        refine Tot.bind (tall_tot N t.f3[i] (by omega) (by omega) (m - 1) (by omega)) (fun a ha => ?_)
        exact Tot.ite (fun _ => ih (i + 1) a (by omega) ha.1 (by omega) h1) (fun _ => ih (i + 1) b (by omega) h0 hb h1)
    refine Tot.step ?_
    simp only [sequiturref08_tall.f]
    exact Tot.ite (fun _ => Tot.const (by omega)) (fun h1 => loop t.f3.length 0 0 (by omega) (by omega) (by omega) (by omega))
theorem deep_tot : ∀ (N : Nat) (t : S30), wC t ≤ N → N ≤ 100000 → ∀ m : Nat, m ≤ 100 → Tot (fun k => sequiturref08_deep.f k t.f0 t.f1 t.f2 t.f3 t.f4 (m : Int)) (fun v => 0 ≤ v ∧ v ≤ (m : Int) + 1)
  | 0, t, h, _, m, hm => by
    have := wC_pos t
    omega
  | N + 1, t, h, hN, m, hm => by
    rw [wC_eq] at h
    have hlen := wCs_len t.f4
    have loop : ∀ (j i : Nat) (b : Int), i + j = t.f4.length → 0 ≤ b → b ≤ (m : Int) → 1 < m → Tot (fun k => sequiturref08_deep.l0 k (m : Int) b (i : Int) t.f0 t.f1 t.f2 t.f3 t.f4) (fun v => 0 ≤ v ∧ v ≤ (m : Int) + 1) := by
      intro j
      induction j with
      | zero =>
        intro i b hi h0 hb _
        refine Tot.step ?_
        simp only [sequiturref08_deep.l0]
        refine Tot.ite (fun h => by omega) (fun _ => Tot.const ?_)
        rw [IntWalk.wrap64_in _ (by omega)]
        omega
      | succ j ih =>
        intro i b hi h0 hb h1
        have hlt : i < t.f4.length := by omega
        have hw := wC_mem hlt
        refine Tot.step ?_
        simp only [sequiturref08_deep.l0]
        refine Tot.ite (fun _ => Tot.ite (fun _ => ?_) (fun h => by omega)) (fun h => by omega)
        rw [rdC hlt, wrapN (x := (m : Int) - 1) (n := m - 1) (by omega) (by omega), wrapN (x := (i : Int) + 1) (n := i + 1) (by omega) (by omega)]
        refine Tot.bind (deep_tot N t.f4[i] (by omega) (by omega) (m - 1) (by omega)) (fun a ha => ?_)
        exact Tot.ite (fun _ => ih (i + 1) a (by omega) ha.1 (by omega) h1) (fun _ => ih (i + 1) b (by omega) h0 hb h1)
    refine Tot.step ?_
    simp only [sequiturref08_deep.f]
    exact Tot.ite (fun _ => Tot.const (by omega)) (fun h1 => loop t.f4.length 0 0 (by omega) (by omega) (by omega) (by omega))
theorem RT_of {t : S53} (h : 1 ≤ t.f0 ∧ t.f0 ≤ 8 ∧ (t.f0 = 2 → 0 ≤ t.f2) ∧ (t.f0 = 5 → t.f3.length = 2) ∧ (t.f0 = 6 → t.f3.length = 2) ∧ (t.f0 = 7 → t.f3.length = 1) ∧ (t.f0 = 8 → t.f3.length = 1) ∧ RTs t.f3) : RT t := by cases t; exact h
theorem RT_to {t : S53} (h : RT t) : 1 ≤ t.f0 ∧ t.f0 ≤ 8 ∧ (t.f0 = 2 → 0 ≤ t.f2) ∧ (t.f0 = 5 → t.f3.length = 2) ∧ (t.f0 = 6 → t.f3.length = 2) ∧ (t.f0 = 7 → t.f3.length = 1) ∧ (t.f0 = 8 → t.f3.length = 1) ∧ RTs t.f3 := by cases t; exact h
theorem parts_tot : ∀ (N : Nat) (t : S53), wT t ≤ N → N ≤ 100000 → Tot (fun k => sequiturref08_termParts.f k t.f0 t.f1 t.f2 t.f3) (fun v => v = 0 → RT t)
  | 0, t, h, _ => by
    have := wT_pos t
    omega
  | N + 1, t, h, hN => by
    rw [wT_eq] at h
    have hlen := wTs_len t.f3
    have loop : ∀ (j i : Nat), i + j = t.f3.length → Tot (fun k => sequiturref08_termParts.l0 k (i : Int) t.f0 t.f1 t.f2 t.f3) (fun v => v = 0 → RTs (t.f3.drop i)) := by
      intro j
      induction j with
      | zero =>
        intro i hi
        refine Tot.step ?_
        simp only [sequiturref08_termParts.l0]
        refine Tot.ite (fun h => by omega) (fun _ => Tot.const (fun _ => ?_))
        rw [List.drop_eq_nil_of_le (by omega)]
        exact trivial
      | succ j ih =>
        intro i hi
        have hlt : i < t.f3.length := by omega
        have hw := wT_mem hlt
        refine Tot.step ?_
        simp only [sequiturref08_termParts.l0]
        refine Tot.ite (fun _ => Tot.ite (fun _ => ?_) (fun h => by omega)) (fun h => by omega)
        rw [rdT hlt, wrapN (x := (i : Int) + 1) (n := i + 1) (by omega) (by omega)]
        refine Tot.bind (parts_tot N t.f3[i] (by omega) (by omega)) (fun a ha => ?_)
        exact Tot.ite (fun h0 => (ih (i + 1) (by omega)).mono (fun r hr h => RTs_snoc hlt (hr h) (ha h0))) (fun h0 => Tot.const (fun h => absurd h h0))
    have j6 : ∀ b : Bool, Tot (fun k => sequiturref08_termParts.j6 k b t.f0 t.f1 t.f2 t.f3) (fun v => v = 0 → b = false ∧ RTs t.f3) := by
      intro b
      refine Tot.step ?_
      simp only [sequiturref08_termParts.j6]
      refine Tot.ite (fun _ => Tot.const (fun h => by cases h)) (fun hb => ?_)
      have := loop t.f3.length 0 (by omega)
      rw [List.drop_zero] at this
      exact this.mono (fun r hr h => ⟨by simpa using hb, hr h⟩)
    have j5 : ∀ w : Int, Tot (fun k => sequiturref08_termParts.j5 k w t.f0 t.f1 t.f2 t.f3) (fun v => v = 0 → (t.f0 ≠ 3 → (t.f3.length : Int) = w) ∧ RTs t.f3) := by
      intro w
      refine Tot.step ?_
      simp only [sequiturref08_termParts.j5]
      refine Tot.ite (fun h3 => Tot.ite (fun _ => (j6 true).mono (fun r hr h => ?_)) (fun _ => (j6 false).mono (fun r hr h => ?_))) (fun h3 => (j6 _).mono (fun r hr h => ?_))
      · exact absurd (hr h).1 (by simp)
      · exact ⟨fun hn => absurd h3 hn, (hr h).2⟩
      · exact ⟨fun _ => by simpa using (hr h).1, (hr h).2⟩
    have j4 : ∀ (w : Int) (b : Bool), Tot (fun k => sequiturref08_termParts.j4 k w b t.f0 t.f1 t.f2 t.f3) (fun v => v = 0 → (t.f0 ≠ 3 → (t.f3.length : Int) = if b = true then 1 else w) ∧ RTs t.f3) := by
      intro w b
      refine Tot.step ?_
      simp only [sequiturref08_termParts.j4]
      refine Tot.ite (fun hb => (j5 1).mono (fun r hr h => ?_)) (fun hb => (j5 w).mono (fun r hr h => ?_))
      · rw [if_pos hb]; exact hr h
      · rw [if_neg hb]; exact hr h
    have j3 : ∀ b : Bool, (b = decide (t.f0 = 5 ∨ t.f0 = 6)) → Tot (fun k => sequiturref08_termParts.j3 k 0 t.f0 b t.f0 t.f1 t.f2 t.f3) (fun v => v = 0 → (t.f0 = 5 → t.f3.length = 2) ∧ (t.f0 = 6 → t.f3.length = 2) ∧ (t.f0 = 7 → t.f3.length = 1) ∧ (t.f0 = 8 → t.f3.length = 1) ∧ RTs t.f3) := by
      intro b hb
      refine Tot.step ?_
      simp only [sequiturref08_termParts.j3]
      refine Tot.ite (fun h1 => (j5 2).mono (fun r hr h => ?_)) (fun h1 => Tot.ite (fun h7 => (j4 0 _).mono (fun r hr h => ?_)) (fun h7 => (j4 0 _).mono (fun r hr h => ?_)))
      · obtain ⟨q1, q2⟩ := hr h
        have hb2 : t.f0 = 5 ∨ t.f0 = 6 := by rw [h1] at hb; exact of_decide_eq_true hb.symm
        have q3 := q1 (by omega)
        exact ⟨fun _ => by omega, fun _ => by omega, fun _ => by omega, fun _ => by omega, q2⟩
      · obtain ⟨q1, q2⟩ := hr h
        have q3 := q1 (by omega)
        rw [if_pos (by simpa using h7)] at q3
        exact ⟨fun _ => by omega, fun _ => by omega, fun _ => by omega, fun _ => by omega, q2⟩
      · obtain ⟨q1, q2⟩ := hr h
        have hb2 : ¬ (t.f0 = 5 ∨ t.f0 = 6) := by
          have h1' : b = false := by simpa using h1
          rw [h1'] at hb
          exact of_decide_eq_false hb.symm
        refine ⟨fun _ => by omega, fun _ => by omega, fun _ => by omega, fun h8 => ?_, q2⟩
        have q3 := q1 (by omega)
        rw [if_pos (by simpa using h8)] at q3
        omega
    have j2 : ∀ b : Bool, Tot (fun k => sequiturref08_termParts.j2 k b t.f0 t.f1 t.f2 t.f3) (fun v => v = 0 → b = false ∧ (t.f0 = 5 → t.f3.length = 2) ∧ (t.f0 = 6 → t.f3.length = 2) ∧ (t.f0 = 7 → t.f3.length = 1) ∧ (t.f0 = 8 → t.f3.length = 1) ∧ RTs t.f3) := by
      intro b
      refine Tot.step ?_
      simp only [sequiturref08_termParts.j2]
      refine Tot.ite (fun _ => Tot.const (fun h => by cases h)) (fun hb => Tot.ite (fun h5 => (j3 _ (by simp [h5])).mono (fun r hr h => ⟨by simpa using hb, hr h⟩)) (fun h5 => (j3 _ (by simp [h5]; rfl)).mono (fun r hr h => ⟨by simpa using hb, hr h⟩)))
    have yes : 1 ≤ t.f0 → t.f0 ≤ 8 → (t.f0 = 2 → 0 ≤ t.f2) → ∀ b : Bool, Tot (fun k => sequiturref08_termParts.j2 k b t.f0 t.f1 t.f2 t.f3) (fun v => v = 0 → RT t) := fun a1 a2 a3 b => (j2 b).mono (fun r hr h => RT_of ⟨a1, a2, a3, (hr h).2⟩)
    have j1 : ∀ a b : Bool, Tot (fun k => sequiturref08_termParts.j1 k a b t.f0 t.f1 t.f2 t.f3) (fun v => v = 0 → RT t) := by
      intro a b
      have no : Tot (fun k => sequiturref08_termParts.j2 k true t.f0 t.f1 t.f2 t.f3) (fun v => v = 0 → RT t) := (j2 true).mono (fun r hr h => absurd (hr h).1 (by simp))
      have low : 1 ≤ t.f0 → t.f0 ≤ 8 → t.f0 = 2 → Tot (fun k => sequiturref08_termParts.j2 k (decide (t.f2 < 0)) t.f0 t.f1 t.f2 t.f3) (fun v => v = 0 → RT t) := fun a1 a2 _ => (j2 _).mono (fun r hr h => RT_of ⟨a1, a2, fun _ => by have := of_decide_eq_false (hr h).1; omega, (hr h).2⟩)
      refine Tot.step ?_
      simp only [sequiturref08_termParts.j1]
      refine Tot.ite (fun _ => no) (fun g1 => Tot.ite (fun _ => no) (fun g2 => ?_))
      have a1 : 1 ≤ t.f0 := by omega
      have a2 : t.f0 ≤ 8 := by omega
      have rest : Tot (fun k => if b = true then (if t.f0 = 2 then (sequiturref08_termParts.j2 k (decide (t.f2 < 0)) t.f0 t.f1 t.f2 t.f3) else (sequiturref08_termParts.j2 k false t.f0 t.f1 t.f2 t.f3)) else (if t.f2 = 0 then (if t.f0 = 2 then (sequiturref08_termParts.j2 k (decide (t.f2 < 0)) t.f0 t.f1 t.f2 t.f3) else (sequiturref08_termParts.j2 k false t.f0 t.f1 t.f2 t.f3)) else (sequiturref08_termParts.j2 k true t.f0 t.f1 t.f2 t.f3))) (fun v => v = 0 → RT t) :=
        Tot.ite (fun _ => Tot.ite (fun h2 => low a1 a2 h2) (fun h2 => yes a1 a2 (fun e => absurd e h2) false)) (fun _ => Tot.ite (fun _ => Tot.ite (fun h2 => low a1 a2 h2) (fun h2 => yes a1 a2 (fun e => absurd e h2) false)) (fun _ => no))
      exact Tot.ite (fun _ => rest) (fun _ => Tot.ite (fun _ => rest) (fun _ => no))
    have j0 : ∀ a : Bool, Tot (fun k => sequiturref08_termParts.j0 k a t.f0 t.f1 t.f2 t.f3) (fun v => v = 0 → RT t) := by
      intro a
      refine Tot.step ?_
      simp only [sequiturref08_termParts.j0]
      exact Tot.ite (fun _ => j1 _ _) (fun _ => Tot.ite (fun _ => j1 _ _) (fun _ => j1 _ _))
    refine Tot.step ?_
    simp only [sequiturref08_termParts.f]
    exact Tot.ite (fun _ => j0 _) (fun _ => j0 _)
theorem termRight_tot (t : S53) (h : wT t ≤ 100000) : Tot (fun k => sequiturref08_TermRight.f k t.f0 t.f1 t.f2 t.f3) (fun v => v = 0 → RT t) := by
  simp only [sequiturref08_TermRight.f]
  refine Tot.bind (tall_tot _ t (Nat.le_refl _) h 65 (by omega)) (fun a _ => Tot.ite (fun _ => Tot.const (fun h => by cases h)) (fun _ => ?_))
  refine Tot.bind (Tot.of (sequiturref08_size_ev _ t (Nat.le_refl _) 4096 (by omega)) trivial) (fun b (_ : True) => Tot.ite (fun _ => Tot.const (fun h => by cases h)) (fun _ => ?_))
  exact Tot.bind (parts_tot _ t (Nat.le_refl _) h) (fun c hc => Tot.const hc)
theorem RC_of {t : S30} (h : 1 ≤ t.f0 ∧ t.f0 ≤ 12 ∧ (t.f0 = 4 → t.f3.length = 2) ∧ (t.f0 = 5 → t.f3.length = 2) ∧ (t.f0 = 6 → t.f4.length = 1) ∧ (t.f0 = 11 → t.f4.length = 1) ∧ (t.f0 = 12 → t.f4.length = 1) ∧ (7 ≤ t.f0 → t.f0 ≤ 10 → t.f4.length = 2) ∧ RTs t.f3 ∧ RCs t.f4) : RC t := by cases t; exact h
theorem RC_to {t : S30} (h : RC t) : 1 ≤ t.f0 ∧ t.f0 ≤ 12 ∧ (t.f0 = 4 → t.f3.length = 2) ∧ (t.f0 = 5 → t.f3.length = 2) ∧ (t.f0 = 6 → t.f4.length = 1) ∧ (t.f0 = 11 → t.f4.length = 1) ∧ (t.f0 = 12 → t.f4.length = 1) ∧ (7 ≤ t.f0 → t.f0 ≤ 10 → t.f4.length = 2) ∧ RTs t.f3 ∧ RCs t.f4 := by cases t; exact h
/-- What an Op wants. -/
def Wants (op : Int) (r : Int × Int) : Prop := (op = 4 → r.1 = 2) ∧ (op = 5 → r.1 = 2) ∧ (op = 6 → r.2 = 1) ∧ (op = 11 → r.2 = 1) ∧ (op = 12 → r.2 = 1) ∧ (7 ≤ op → op ≤ 10 → r.2 = 2)
theorem wants_tot (op : Int) : Tot (fun k => sequiturref08_wants.f k op) (Wants op) := by
  have j2 : ∀ b : Bool, b = decide (7 ≤ op ∧ op ≤ 10) → ¬ (op = 4 ∨ op = 5 ∨ op = 6 ∨ op = 11 ∨ op = 12) → Tot (fun k => sequiturref08_wants.j2 k b) (Wants op) := by
    intro b hb h
    refine Tot.step ?_
    simp only [sequiturref08_wants.j2]
    refine Tot.ite (fun h1 => Tot.const ?_) (fun h1 => Tot.const ?_)
    · exact ⟨fun _ => by omega, fun _ => by omega, fun _ => by omega, fun _ => by omega, fun _ => by omega, fun _ _ => rfl⟩
    · have h1' : b = false := by simpa using h1
      rw [h1'] at hb
      have := of_decide_eq_false hb.symm
      exact ⟨fun _ => by omega, fun _ => by omega, fun _ => by omega, fun _ => by omega, fun _ => by omega, fun _ _ => by omega⟩
  have j1 : ∀ b : Bool, b = decide (op = 6 ∨ op = 11 ∨ op = 12) → ¬ (op = 4 ∨ op = 5) → Tot (fun k => sequiturref08_wants.j1 k op b) (Wants op) := by
    intro b hb h
    refine Tot.step ?_
    simp only [sequiturref08_wants.j1]
    refine Tot.ite (fun h1 => Tot.const ?_) (fun h1 => ?_)
    · rw [h1] at hb
      have := of_decide_eq_true hb.symm
      exact ⟨fun _ => by omega, fun _ => by omega, fun _ => rfl, fun _ => rfl, fun _ => rfl, fun _ _ => by omega⟩
    · have h1' : b = false := by simpa using h1
      rw [h1'] at hb
      have := of_decide_eq_false hb.symm
      have e : ∀ n : Int, 7 ≤ n → n ≤ 10 → op = n → (op == n) = decide (7 ≤ op ∧ op ≤ 10) := fun n h7 h10 e => by subst e; simp [h7, h10]
      refine Tot.ite (fun h => j2 _ (e 7 (by omega) (by omega) h) (by omega)) (fun h => Tot.ite (fun h => j2 _ (e 8 (by omega) (by omega) h) (by omega)) (fun h => Tot.ite (fun h => j2 _ (e 9 (by omega) (by omega) h) (by omega)) (fun h => j2 _ ?_ (by omega))))
      by_cases h10 : op = 10
      · exact e 10 (by omega) (by omega) h10
      · rw [beq_eq_false_iff_ne.mpr h10]
        exact (decide_eq_false (by omega)).symm
  have j0 : ∀ b : Bool, b = decide (op = 4 ∨ op = 5) → Tot (fun k => sequiturref08_wants.j0 k op b) (Wants op) := by
    intro b hb
    refine Tot.step ?_
    simp only [sequiturref08_wants.j0]
    refine Tot.ite (fun h1 => Tot.const ?_) (fun h1 => ?_)
    · rw [h1] at hb
      have := of_decide_eq_true hb.symm
      exact ⟨fun _ => rfl, fun _ => rfl, fun _ => by omega, fun _ => by omega, fun _ => by omega, fun _ _ => by omega⟩
    · have h1' : b = false := by simpa using h1
      rw [h1'] at hb
      have := of_decide_eq_false hb.symm
      have e : ∀ n : Int, n = 6 ∨ n = 11 ∨ n = 12 → op = n → (op == n) = decide (op = 6 ∨ op = 11 ∨ op = 12) := fun n hn e => by subst e; simp [hn]
      refine Tot.ite (fun h => j1 _ (e 6 (by omega) h) (by omega)) (fun h => Tot.ite (fun h => j1 _ (e 11 (by omega) h) (by omega)) (fun h => j1 _ ?_ (by omega)))
      by_cases h12 : op = 12
      · exact e 12 (by omega) h12
      · rw [beq_eq_false_iff_ne.mpr h12]
        exact (decide_eq_false (by omega)).symm
  simp only [sequiturref08_wants.f]
  refine Tot.ite (fun h => j0 _ (by simp [h])) (fun h => j0 _ ?_)
  by_cases h5 : op = 5
  · simp [h5]
  · rw [beq_eq_false_iff_ne.mpr h5]
    exact (decide_eq_false (by omega)).symm
theorem cparts_tot : ∀ (N : Nat) (t : S30), wC t ≤ N → N ≤ 100000 → Tot (fun k => sequiturref08_parts.f k t.f0 t.f1 t.f2 t.f3 t.f4) (fun v => v = 0 → RC t)
  | 0, t, h, _ => by
    have := wC_pos t
    omega
  | N + 1, t, h, hN => by
    rw [wC_eq] at h
    have hlen3 := wTs_len t.f3
    have hlen4 := wCs_len t.f4
    have loop1 : ∀ (j i : Nat), i + j = t.f4.length → Tot (fun k => sequiturref08_parts.l1 k (i : Int) t.f0 t.f1 t.f2 t.f3 t.f4) (fun v => v = 0 → RCs (t.f4.drop i)) := by
      intro j
      induction j with
      | zero =>
        intro i hi
        refine Tot.step ?_
        simp only [sequiturref08_parts.l1]
        refine Tot.ite (fun h => by omega) (fun _ => Tot.const (fun _ => ?_))
        rw [List.drop_eq_nil_of_le (by omega)]
        exact trivial
      | succ j ih =>
        intro i hi
        have hlt : i < t.f4.length := by omega
        have hw := wC_mem hlt
        refine Tot.step ?_
        simp only [sequiturref08_parts.l1]
        refine Tot.ite (fun _ => Tot.ite (fun _ => ?_) (fun h => by omega)) (fun h => by omega)
        rw [rdC hlt, wrapN (x := (i : Int) + 1) (n := i + 1) (by omega) (by omega)]
        refine Tot.bind (cparts_tot N t.f4[i] (by omega) (by omega)) (fun a ha => ?_)
        exact Tot.ite (fun h0 => (ih (i + 1) (by omega)).mono (fun r hr h => RCs_snoc hlt (hr h) (ha h0))) (fun h0 => Tot.const (fun h => absurd h h0))
    have loop : ∀ (j i : Nat), i + j = t.f3.length → Tot (fun k => sequiturref08_parts.l0 k (i : Int) t.f0 t.f1 t.f2 t.f3 t.f4) (fun v => v = 0 → RTs (t.f3.drop i) ∧ RCs t.f4) := by
      intro j
      induction j with
      | zero =>
        intro i hi
        refine Tot.step ?_
        simp only [sequiturref08_parts.l0]
        refine Tot.ite (fun h => by omega) (fun _ => ?_)
        have := loop1 t.f4.length 0 (by omega)
        rw [List.drop_zero] at this
        refine this.mono (fun r hr h => ⟨?_, hr h⟩)
        rw [List.drop_eq_nil_of_le (by omega)]
        exact trivial
      | succ j ih =>
        intro i hi
        have hlt : i < t.f3.length := by omega
        have hw := wT_mem hlt
        refine Tot.step ?_
        simp only [sequiturref08_parts.l0]
        refine Tot.ite (fun _ => Tot.ite (fun _ => ?_) (fun h => by omega)) (fun h => by omega)
        rw [rdT hlt, wrapN (x := (i : Int) + 1) (n := i + 1) (by omega) (by omega)]
        refine Tot.bind (termRight_tot t.f3[i] (by omega)) (fun a ha => ?_)
        exact Tot.ite (fun h0 => (ih (i + 1) (by omega)).mono (fun r hr h => ⟨RTs_snoc hlt (hr h).1 (ha h0), (hr h).2⟩)) (fun h0 => Tot.const (fun h => absurd h h0))
    have j3 : ∀ b : Bool, Tot (fun k => sequiturref08_parts.j3 k b t.f0 t.f1 t.f2 t.f3 t.f4) (fun v => v = 0 → b = false ∧ RTs t.f3 ∧ RCs t.f4) := by
      intro b
      refine Tot.step ?_
      simp only [sequiturref08_parts.j3]
      refine Tot.ite (fun _ => Tot.const (fun h => by cases h)) (fun hb => ?_)
      have := loop t.f3.length 0 (by omega)
      rw [List.drop_zero] at this
      exact this.mono (fun r hr h => ⟨by simpa using hb, hr h⟩)
    have j2 : ∀ a b : Int, Tot (fun k => sequiturref08_parts.j2 k a b t.f0 t.f1 t.f2 t.f3 t.f4) (fun v => v = 0 → (t.f3.length : Int) = a ∧ (t.f4.length : Int) = b ∧ RTs t.f3 ∧ RCs t.f4) := by
      intro a b
      refine Tot.step ?_
      simp only [sequiturref08_parts.j2]
      refine Tot.ite (fun h1 => (j3 _).mono (fun r hr h => ⟨h1, by simpa using (hr h).1, (hr h).2⟩)) (fun _ => (j3 true).mono (fun r hr h => absurd (hr h).1 (by simp)))
    have j1 : ∀ b : Bool, 1 ≤ t.f0 ∧ t.f0 ≤ 12 ∨ b = true → Tot (fun k => sequiturref08_parts.j1 k b t.f0 t.f1 t.f2 t.f3 t.f4) (fun v => v = 0 → RC t) := by
      intro b ho
      refine Tot.step ?_
      simp only [sequiturref08_parts.j1]
      refine Tot.ite (fun _ => Tot.const (fun h => by cases h)) (fun hb => ?_)
      obtain ⟨o1, o2⟩ : 1 ≤ t.f0 ∧ t.f0 ≤ 12 := by
        rcases ho with ho | ho
        · exact ho
        · exact absurd ho hb
      refine Tot.bind (wants_tot t.f0) (fun w hw => ?_)
      obtain ⟨w1, w2, w3, w4, w5, w6⟩ := hw
      refine Tot.ite (fun h3 => Tot.ite (fun _ => Tot.const (fun h => by cases h)) (fun _ => (j2 _ _).mono (fun r hr h => ?_))) (fun h3 => (j2 _ _).mono (fun r hr h => ?_))
      · obtain ⟨q1, q2, q3, q4⟩ := hr h
        exact RC_of ⟨o1, o2, fun _ => by omega, fun _ => by omega, fun _ => by omega, fun _ => by omega, fun _ => by omega, fun _ _ => by omega, q3, q4⟩
      · obtain ⟨q1, q2, q3, q4⟩ := hr h
        exact RC_of ⟨o1, o2, fun e => by have := w1 e; omega, fun e => by have := w2 e; omega, fun e => by have := w3 e; omega, fun e => by have := w4 e; omega, fun e => by have := w5 e; omega, fun e f => by have := w6 e f; omega, q3, q4⟩
    have j0 : ∀ b : Bool, Tot (fun k => sequiturref08_parts.j0 k b t.f0 t.f1 t.f2 t.f3 t.f4) (fun v => v = 0 → RC t) := by
      intro b
      refine Tot.step ?_
      simp only [sequiturref08_parts.j0]
      refine Tot.ite (fun _ => j1 _ (.inr rfl)) (fun g1 => Tot.ite (fun _ => j1 _ (.inr rfl)) (fun g2 => ?_))
      have ho : 1 ≤ t.f0 ∧ t.f0 ≤ 12 := by omega
      exact Tot.ite (fun _ => j1 _ (.inl ho)) (fun _ => Tot.ite (fun _ => j1 _ (.inl ho)) (fun _ => Tot.ite (fun _ => j1 _ (.inl ho)) (fun _ => j1 _ (.inr rfl))))
    refine Tot.step ?_
    simp only [sequiturref08_parts.f]
    exact Tot.ite (fun _ => j0 _) (fun _ => j0 _)
theorem right_tot (t : S30) (h : wC t ≤ 100000) : Tot (fun k => sequiturref08_Right.f k t.f0 t.f1 t.f2 t.f3 t.f4) (fun v => v = 0 → RC t) := by
  simp only [sequiturref08_Right.f, sequiturref08_Depth.f, sequiturref08_Size.f]
  refine Tot.bind (Tot.bind (deep_tot _ t (Nat.le_refl _) h 65 (by omega)) (fun a _ => Tot.const trivial)) (fun a (_ : True) => Tot.ite (fun _ => Tot.const (fun h => by cases h)) (fun _ => ?_))
  refine Tot.bind (R := fun _ => True) (Tot.bind (Tot.of (sequiturref08_weigh_ev _ t (Nat.le_refl _) 4096 (by omega)) trivial) (fun b (_ : True) => Tot.ite (fun _ => Tot.const trivial) (fun _ => Tot.const trivial))) (fun b (_ : True) => Tot.ite (fun _ => Tot.const (fun h => by cases h)) (fun _ => ?_))
  exact Tot.bind (cparts_tot _ t (Nat.le_refl _) h) (fun c hc => Tot.const hc)
theorem NT_of {t : S53} (h : t.f1.size ≤ 100 ∧ NTs t.f3) : NT t := by cases t; exact h
theorem NC_of {t : S30} (h : t.f1.size ≤ 100 ∧ t.f2.size ≤ 100 ∧ NTs t.f3 ∧ NCs t.f4) : NC t := by cases t; exact h
theorem NT_to {t : S53} (h : NT t) : t.f1.size ≤ 100 ∧ NTs t.f3 := by cases t; exact h
theorem NC_to {t : S30} (h : NC t) : t.f1.size ≤ 100 ∧ t.f2.size ≤ 100 ∧ NTs t.f3 ∧ NCs t.f4 := by cases t; exact h
theorem short_tot : ∀ (N : Nat) (t : S53), wT t ≤ N → N ≤ 100000 → Tot (fun k => sequiturlaw14_short.f k t.f0 t.f1 t.f2 t.f3) (fun v => v = true → NT t)
  | 0, t, h, _ => by
    have := wT_pos t
    omega
  | N + 1, t, h, hN => by
    rw [wT_eq] at h
    have hlen := wTs_len t.f3
    have loop : ∀ (j i : Nat), i + j = t.f3.length → Tot (fun k => sequiturlaw14_short.l0 k t.f3 (t.f3.length : Int) (i : Int) t.f0 t.f1 t.f2 t.f3) (fun v => v = true → t.f1.size ≤ 100 ∧ NTs (t.f3.drop i)) := by
      intro j
      induction j with
      | zero =>
        intro i hi
        refine Tot.step ?_
        simp only [sequiturlaw14_short.l0]
        refine Tot.ite (fun h => by omega) (fun _ => Tot.const (fun h => ⟨by have := of_decide_eq_true h; omega, ?_⟩))
        rw [List.drop_eq_nil_of_le (by omega)]
        exact trivial
      | succ j ih =>
        intro i hi
        have hlt : i < t.f3.length := by omega
        have hw := wT_mem hlt
        refine Tot.step ?_
        simp only [sequiturlaw14_short.l0]
        refine Tot.ite (fun _ => Tot.ite (fun _ => Tot.ite (fun _ => ?_) (fun h => by omega)) (fun h => by omega)) (fun h => by omega)
        rw [rdT hlt, wrapN (x := (i : Int) + 1) (n := i + 1) (by omega) (by omega)]
        refine Tot.bind (short_tot N t.f3[i] (by omega) (by omega)) (fun a ha => ?_)
        exact Tot.ite (fun h0 => (ih (i + 1) (by omega)).mono (fun r hr h => ⟨(hr h).1, NTs_snoc hlt (hr h).2 (ha h0)⟩)) (fun h0 => Tot.const (fun h => by cases h))
    refine Tot.step ?_
    simp only [sequiturlaw14_short.f]
    have := loop t.f3.length 0 (by omega)
    rw [List.drop_zero] at this
    exact this.mono (fun r hr h => NT_of (hr h))
theorem named_tot : ∀ (N : Nat) (t : S30), wC t ≤ N → N ≤ 100000 → Tot (fun k => sequiturlaw14_named.f k t.f0 t.f1 t.f2 t.f3 t.f4) (fun v => v = true → NC t)
  | 0, t, h, _ => by
    have := wC_pos t
    omega
  | N + 1, t, h, hN => by
    rw [wC_eq] at h
    have hlen3 := wTs_len t.f3
    have hlen4 := wCs_len t.f4
    have loop1 : ∀ (j i : Nat), i + j = t.f4.length → Tot (fun k => sequiturlaw14_named.l1 k t.f4 (t.f4.length : Int) (i : Int) t.f0 t.f1 t.f2 t.f3 t.f4) (fun v => v = true → t.f1.size ≤ 100 ∧ t.f2.size ≤ 100 ∧ NCs (t.f4.drop i)) := by
      intro j
      induction j with
      | zero =>
        intro i hi
        refine Tot.step ?_
        simp only [sequiturlaw14_named.l1]
        refine Tot.ite (fun h => by omega) (fun _ => Tot.ite (fun h1 => Tot.const (fun h => ⟨by omega, by have := of_decide_eq_true h; omega, ?_⟩)) (fun _ => Tot.const (fun h => by cases h)))
        rw [List.drop_eq_nil_of_le (by omega)]
        exact trivial
      | succ j ih =>
        intro i hi
        have hlt : i < t.f4.length := by omega
        have hw := wC_mem hlt
        refine Tot.step ?_
        simp only [sequiturlaw14_named.l1]
        refine Tot.ite (fun _ => Tot.ite (fun _ => Tot.ite (fun _ => ?_) (fun h => by omega)) (fun h => by omega)) (fun h => by omega)
        rw [rdC hlt, wrapN (x := (i : Int) + 1) (n := i + 1) (by omega) (by omega)]
        refine Tot.bind (named_tot N t.f4[i] (by omega) (by omega)) (fun a ha => ?_)
        exact Tot.ite (fun h0 => (ih (i + 1) (by omega)).mono (fun r hr h => ⟨(hr h).1, (hr h).2.1, NCs_snoc hlt (hr h).2.2 (ha h0)⟩)) (fun h0 => Tot.const (fun h => by cases h))
    have loop : ∀ (j i : Nat), i + j = t.f3.length → Tot (fun k => sequiturlaw14_named.l0 k t.f3 (t.f3.length : Int) (i : Int) t.f0 t.f1 t.f2 t.f3 t.f4) (fun v => v = true → t.f1.size ≤ 100 ∧ t.f2.size ≤ 100 ∧ NTs (t.f3.drop i) ∧ NCs t.f4) := by
      intro j
      induction j with
      | zero =>
        intro i hi
        refine Tot.step ?_
        simp only [sequiturlaw14_named.l0]
        refine Tot.ite (fun h => by omega) (fun _ => ?_)
        have := loop1 t.f4.length 0 (by omega)
        rw [List.drop_zero] at this
        refine this.mono (fun r hr h => ⟨(hr h).1, (hr h).2.1, ?_, (hr h).2.2⟩)
        rw [List.drop_eq_nil_of_le (by omega)]
        exact trivial
      | succ j ih =>
        intro i hi
        have hlt : i < t.f3.length := by omega
        refine Tot.step ?_
        simp only [sequiturlaw14_named.l0]
        refine Tot.ite (fun _ => Tot.ite (fun _ => Tot.ite (fun _ => ?_) (fun h => by omega)) (fun h => by omega)) (fun h => by omega)
        have hw := wT_mem hlt
        rw [rdT hlt, wrapN (x := (i : Int) + 1) (n := i + 1) (by omega) (by omega)]
        refine Tot.bind (short_tot _ t.f3[i] (Nat.le_refl _) (by omega)) (fun a ha => ?_)
        exact Tot.ite (fun h0 => (ih (i + 1) (by omega)).mono (fun r hr h => ⟨(hr h).1, (hr h).2.1, NTs_snoc hlt (hr h).2.2.1 (ha h0), (hr h).2.2.2⟩)) (fun h0 => Tot.const (fun h => by cases h))
    refine Tot.step ?_
    simp only [sequiturlaw14_named.f]
    have := loop t.f3.length 0 (by omega)
    rw [List.drop_zero] at this
    exact this.mono (fun r hr h => NC_of (hr h))
/-- A claim that may be shown: at most so many parts, of the right form, with short names. -/
theorem plain_tot (t : S30) (most : Nat) (hm : most ≤ 1000) : Tot (fun k => sequiturlaw14_Plain.f k t.f0 t.f1 t.f2 t.f3 t.f4 (most : Int)) (fun v => v = true → wC t ≤ most ∧ RC t ∧ NC t) := by
  simp only [sequiturlaw14_Plain.f, sequiturbase_Big.f]
  refine Tot.bind (Tot.bind (Tot.of (Q := fun v => v = ((min (wC t) (most + 1) : Nat) : Int)) (sequiturbase_weight_ev _ t (Nat.le_refl _) most (by omega)) rfl) (fun b hb => Tot.const (Q := fun r => r = false → wC t ≤ most) (fun h => by have := of_decide_eq_false h; omega))) (fun b hb => ?_)
  refine Tot.ite (fun _ => Tot.const (fun h => by cases h)) (fun h1 => ?_)
  have hw := hb (by simpa using h1)
  refine Tot.bind (right_tot t (by omega)) (fun e he => Tot.ite (fun h0 => ?_) (fun _ => Tot.const (fun h => by cases h)))
  exact Tot.bind (named_tot _ t (Nat.le_refl _) (by omega)) (fun c hc => Tot.const (fun h => ⟨hw, he h0, hc h⟩))
end Go.Proofs.YtmlkllbaehegjaaDoor.PAll
end
section
namespace Go.Proofs.YtmlkllbaehegjaaDoor.PAll
open Go.RowKit Go.Proofs.YtmlkllbaehegjaaDoorW.PrintWords Go.Proofs.YtmlkllbaehegjaaDoorW.PrintLast Go.Proofs.YtmlkllbaehegjaaDoorW.PrintMore
attribute [local go_sem] max2_int min2_int max_two min_two max_three min_three max_four min_four
set_option linter.unusedVariables false
set_option linter.unusedSimpArgs false
/-! ### show_arg: function 57 -/
def show_arg.f (a0_0 : Int) (a0_1 : ByteArray) (a0_2 : Int) (l0_3 : List (S53)) (a1 : Int) : Option (Int × ByteArray × Int × (List (S53))) := if a1 < (l0_3.length : Int) then (if 0 ≤ a1 then (some ((rd_T53 l0_3 a1).f0, (rd_T53 l0_3 a1).f1, (rd_T53 l0_3 a1).f2, (rd_T53 l0_3 a1).f3)) else (none)) else (some (0, (⟨#[]⟩ : ByteArray), 0, ([] : List (S53))))
set_option maxHeartbeats 8000000 in
set_option maxRecDepth 100000 in
theorem show_arg.calls (a0_0 : Int) (a0_1 : ByteArray) (a0_2 : Int) (P0_3_ : Nat → Prop) (A0_3 : Option Addr) (c0_3 : Nat) (l0_3 : List (S53)) (a1 : Int) (r1 : Int) (r2 : ByteArray) (r3 : Int) (r4 : List (S53)) (w : World) (hs0_3 : Kd.V k53 53 w w.heap.size (fun k_ => P0_3_ k_) (.slice A0_3 l0_3.length c0_3) l0_3) (h : show_arg.f a0_0 a0_1 a0_2 l0_3 a1 = some (r1, r2, r3, r4)) :
    Calls Tryd.prog 57 #[.agg #[.int .i64 a0_0, .string a0_1, .int .i64 a0_2, .slice A0_3 l0_3.length c0_3], .int .i64 a1] w fun e w' => ∃ v3_ : Value, e = .returned (.agg #[.int .i64 r1, .string r2, .int .i64 r3, v3_]) ∧ Kd.V k53 53 w' w.heap.size (fun k_ => (P0_3_ k_ ∨ w.heap.size ≤ k_)) v3_ r4 ∧ Below w.heap.size w w' := by
  have hu53 := Tryd.underlying53; have HO0_3 := am (show Kd.V k53 53 w w.heap.size (fun k_ => (P0_3_ k_ ∨ w.heap.size ≤ k_)) (.slice A0_3 l0_3.length c0_3) l0_3 from Kd.V_mono hs0_3 (fun k_ hk => .inl hk)); have HB := am (Below.refl w.heap.size w); have H := h; unfold show_arg.f at H; clear h
  by_cases c3 : a1 < (l0_3.length : Int)
  ·rw [if_pos c3] at H
   have c3b0 : decide (a1 < (l0_3.length : Int)) = true := decide_eq_true c3; clear c3
   by_cases c4 : 0 ≤ a1
   ·rw [if_pos c4] at H
    have c4b0 : decide (0 ≤ a1) = true := decide_eq_true c4; clear c4; simp only [Option.some.injEq, Prod.mk.injEq] at H; obtain ⟨rfl, rfl, rfl, rfl⟩ := H
    go_enter Tryd.func57, Tryd.ntmps57
    go_wp2_with (first | ((with_reducible refine gate_dst (N := 2) rfl ?_); refine bE 2 #[.int .i64 a0_0, .string a0_1, .int .i64 a0_2, .slice A0_3 l0_3.length c0_3] 53 ?_; intro gb101 w5 BK101 hg hb; replace HO0_3 := vE HO0_3 hg hb; have GW101 := bZ hg; have GE101 := bZ hg; replace HB := bH hb; clear hb hg) | ((with_reducible refine gate_dst (N := 4) rfl ?_); refine bE 4 #[.int .i64 0, .string (⟨#[]⟩ : ByteArray), .int .i64 0, .slice none 0 0] 53 ?_; intro gb102 w6 BK102 hg hb; replace HO0_3 := vE HO0_3 hg hb; have GW102 := bZ hg; have GE102 := bZ hg; replace HB := bH hb; have NB101_102 := bN BK101 hg; have NB102_101 := bM BK101 hg; replace BK101 := bK BK101 hb; clear hb hg; have hnb7 := NB101_102.out; have hnc7 := NB102_101.out; obtain ⟨z8_0, z8_1, z8_2, z8_3, y8_0, y8_1, y8_2, y8_3⟩ := y4 BK101; have p103 : 0 ≤ (a1 : Int) := of_decide_eq_true eA; have q103 : a1 < (l0_3.length : Int) := of_decide_eq_true eA; obtain ⟨ad103, A103_3, c103_3, e103, hx103_0, hx103_1, hx103_2, hx103_3, hl103_3, hi103_3⟩ := at_T53 (Kd.V_reads' HO0_3.out).2.2 a1 p103 q103; cases e103; obtain ⟨ce103, hce103, hMe103, hcc103⟩ := Kd.V_get HO0_3.out z53 a1 p103 (by first | exact q103 | exact of_decide_eq_true eA | (have e_ := (Kd.V_reads' HO0_3.out).1; omega)); obtain ⟨ua103_3, uc103_3, rfl, ul103_3, ge103_3⟩ := k53_openF hMe103; have hv103_3 := hcc103 3 _ rfl; rw [add_field _ _ 3 (by omega)] at hv103_3; replace hv103_3 := Option.some.inj (hv103_3.symm.trans hx103_3); injection hv103_3 with hva_ hvn_ hvc_; rw [hva_] at ge103_3; rw [hvc_] at ul103_3; have HL103_3 := am (show Kd.V k53 53 _ w.heap.size _ _ ((rd_T53 l0_3 a1).f3) from Kd.V_mk ul103_3 ge103_3); clear hva_ hvn_ hvc_ ge103_3 ul103_3; clear hcc103 hce103; have HR103_3 := am hi103_3; have HC103_3 := am hl103_3; clear hi103_3 hl103_3; replace p103 := eq_true p103; replace q103 := eq_true q103; obtain ⟨z9_0, z9_1, z9_2, z9_3, y9_0, y9_1, y9_2, y9_3⟩ := y4 BK102))
    refine bodyPost_ret (results_cell_row rfl _ _ gb102 53 #[.int .i64 ((rd_T53 l0_3 a1).f0), .string ((rd_T53 l0_3 a1).f1), .int .i64 ((rd_T53 l0_3 a1).f2), .slice A103_3 ((rd_T53 l0_3 a1).f3).length c103_3] (0, 0) _ rfl (d10 BK102) Tryd.underlying53 rfl (by kernel_rfl)) rfl ?_
    exact ⟨_, eW, by (with_reducible repeat (first | apply Kd.V_alloc | apply Kd.V_drewN | apply Kd.V_drew)); exact Kd.V_mono (Kd.V_far (p := ⟨gb102, 3, none⟩) (Kd.V_far (p := ⟨gb102, 2, none⟩) (Kd.V_far (p := ⟨gb102, 1, none⟩) (Kd.V_far (p := ⟨gb102, 0, none⟩) (Kd.V_mono HL103_3.out (fun k_ hk => (⟨hk, hk.2⟩ : _ ∧ k_ ≠ gb102))) (fun _ hk => hk.2) (.int .i64 ((rd_T53 l0_3 a1).f0))) (fun _ hk => hk.2) (.string ((rd_T53 l0_3 a1).f1))) (fun _ hk => hk.2) (.int .i64 ((rd_T53 l0_3 a1).f2))) (fun _ hk => hk.2) (.slice A103_3 ((rd_T53 l0_3 a1).f3).length c103_3)) (fun _ hk => hk.1.1.1), bB⟩
   ·rw [if_neg c4] at H
    exact absurd H (by simp)
  ·rw [if_neg c3] at H
   have c3b0 : decide (a1 < (l0_3.length : Int)) = false := decide_eq_false c3; clear c3; simp only [Option.some.injEq, Prod.mk.injEq] at H; obtain ⟨rfl, rfl, rfl, rfl⟩ := H
   go_enter Tryd.func57, Tryd.ntmps57
   go_wp2_with (first | ((with_reducible refine gate_dst (N := 2) rfl ?_); refine bE 2 #[.int .i64 a0_0, .string a0_1, .int .i64 a0_2, .slice A0_3 l0_3.length c0_3] 53 ?_; intro gb101 w10 BK101 hg hb; replace HO0_3 := vE HO0_3 hg hb; have GW101 := bZ hg; have GE101 := bZ hg; replace HB := bH hb; clear hb hg) | ((with_reducible refine gate_dst (N := 4) rfl ?_); refine bE 4 #[.int .i64 0, .string (⟨#[]⟩ : ByteArray), .int .i64 0, .slice none 0 0] 53 ?_; intro gb102 w11 BK102 hg hb; replace HO0_3 := vE HO0_3 hg hb; have GW102 := bZ hg; have GE102 := bZ hg; replace HB := bH hb; have NB101_102 := bN BK101 hg; have NB102_101 := bM BK101 hg; replace BK101 := bK BK101 hb; clear hb hg; have hnb12 := NB101_102.out; have hnc12 := NB102_101.out; obtain ⟨z13_0, z13_1, z13_2, z13_3, y13_0, y13_1, y13_2, y13_3⟩ := y4 BK101; obtain ⟨z14_0, z14_1, z14_2, z14_3, y14_0, y14_1, y14_2, y14_3⟩ := y4 BK102))
   refine bodyPost_ret (results_cell_row rfl _ _ gb102 53 #[.int .i64 0, .string (⟨#[]⟩ : ByteArray), .int .i64 0, .slice none 0 0] (0, 0) _ rfl (d15 BK102) Tryd.underlying53 rfl (by kernel_rfl)) rfl ?_
   exact ⟨_, eW, d17, bB⟩
/-! ### show_sum: function 59 -/
def show_sum.f (a0_0 : Int) (a0_1 : ByteArray) (a0_2 : Int) (l0_3 : List (S53)) : Option (Bool) := if a0_0 = 5 then (some true) else (some (a0_0 == 6))
set_option maxHeartbeats 8000000 in
set_option maxRecDepth 100000 in
theorem show_sum.calls (a0_0 : Int) (a0_1 : ByteArray) (a0_2 : Int) (A0_3 : Option Addr) (c0_3 : Nat) (l0_3 : List (S53)) (r : Bool) (w : World) (hr0_3 : Kd.C k53 w A0_3 l0_3.length l0_3) (hc0_3 : l0_3.length ≤ c0_3) (h : show_sum.f a0_0 a0_1 a0_2 l0_3 = some r) :
    Calls Tryd.prog 59 #[.agg #[.int .i64 a0_0, .string a0_1, .int .i64 a0_2, .slice A0_3 l0_3.length c0_3]] w fun e w' => e = .returned (.bool r) ∧ Below w.heap.size w w' := by
  have hu53 := Tryd.underlying53; have HR0_3 := am hr0_3; have HC0_3 := am hc0_3; clear hr0_3 hc0_3; have HB := am (Below.refl w.heap.size w); have H := h; unfold show_sum.f at H; clear h
  by_cases c2 : a0_0 = 5
  ·rw [if_pos c2] at H
   have c2b0 := beq_iff_eq.mpr c2; have c2b1 := bne_eq_false_iff_eq.mpr c2; clear c2; obtain rfl := Option.some.inj H
   go_enter Tryd.func59, Tryd.ntmps59
   go_wp2_with (first | ((with_reducible refine gate_dst (N := 1) rfl ?_); refine bE 1 #[.int .i64 a0_0, .string a0_1, .int .i64 a0_2, .slice A0_3 l0_3.length c0_3] 53 ?_; intro gb104 w3 BK104 hg hb; have GW104 := bZ hg; have GE104 := bZ hg; replace HB := bH hb; clear hb hg; obtain ⟨z4_0, z4_1, z4_2, z4_3, y4_0, y4_1, y4_2, y4_3⟩ := y4 BK104))
   go_ret; exact ⟨eW, bB⟩
  ·rw [if_neg c2] at H
   have c2b0 := beq_eq_false_iff_ne.mpr c2; have c2b1 := bne_iff_ne.mpr c2; obtain rfl := Option.some.inj H
   go_enter Tryd.func59, Tryd.ntmps59
   go_wp2_with (first | ((with_reducible refine gate_dst (N := 1) rfl ?_); refine bE 1 #[.int .i64 a0_0, .string a0_1, .int .i64 a0_2, .slice A0_3 l0_3.length c0_3] 53 ?_; intro gb104 w5 BK104 hg hb; have GW104 := bZ hg; have GE104 := bZ hg; replace HB := bH hb; clear hb hg; obtain ⟨z6_0, z6_1, z6_2, z6_3, y6_0, y6_1, y6_2, y6_3⟩ := y4 BK104))
   go_ret; exact ⟨eW, bB⟩
end Go.Proofs.YtmlkllbaehegjaaDoor.PAll
end
section
namespace Go.Proofs.YtmlkllbaehegjaaDoor.PAll
open Go.RowKit Go.Proofs.YtmlkllbaehegjaaDoorW.PrintWords Go.Proofs.YtmlkllbaehegjaaDoorW.PrintLast Go.Proofs.YtmlkllbaehegjaaDoorW.PrintMore
attribute [local go_sem] max2_int min2_int max_two min_two max_three min_three max_four min_four   -- for this text's walks alone
set_option linter.unusedVariables false
set_option linter.unusedSimpArgs false
/-! ### show_text: function 38 -/
/-! ### show_apply: function 52 -/
/-! ### show_side: function 58 -/
mutual
def show_text.j0 : Nat → List ByteArray → Bool → Int → ByteArray → Int → List (S53) → Option (ByteArray)
  | 0, _, _, _, _, _, _ => none
  | k + 1, x1, x26, x165000, x165001, x165002, x165003 => if x26 = true then (if 0 ≤ (wrap64 ((wrap64 ((x1.length : Int) - 1)) - x165002)) then (if (wrap64 ((wrap64 ((x1.length : Int) - 1)) - x165002)) < (x1.length : Int) then (some (rdOf ByteArray.empty x1 (wrap64 ((wrap64 ((x1.length : Int) - 1)) - x165002)))) else (none)) else (none)) else ((digit_Text.f (wrap64 (x165002 - (x1.length : Int)))).bind fun t174 => (if 1 + t174.size ≤ 9223372036854775807 then (some ((⟨#[39]⟩ : ByteArray) ++ t174)) else (none)))
def show_text.f : Nat → Int → ByteArray → Int → List (S53) → List ByteArray → Option (ByteArray)
  | 0, _, _, _, _, _ => none
  | k + 1, a0_0, a0_1, a0_2, l0_3, l1 => (show_arg.f a0_0 a0_1 a0_2 l0_3 0).bind fun bt165 => (if a0_0 = 4 then ((digit_Text.f a0_2).bind fun t172 => (some t172)) else (if a0_0 = 2 then (if a0_2 ≥ 0 then (show_text.j0 k l1 (decide (a0_2 < (l1.length : Int))) a0_0 a0_1 a0_2 l0_3) else (show_text.j0 k l1 false a0_0 a0_1 a0_2 l0_3)) else (if a0_0 = 5 then ((show_side.f k bt165.1 bt165.2.1 bt165.2.2.1 bt165.2.2.2 l1 false).bind fun t175 => (if t175.size + 3 ≤ 9223372036854775807 then ((show_arg.f a0_0 a0_1 a0_2 l0_3 1).bind fun bt176 => ((show_arg.f a0_0 a0_1 a0_2 l0_3 1).bind fun bt182 => ((show_sum.f bt182.1 bt182.2.1 bt182.2.2.1 bt182.2.2.2).bind fun t188 => ((show_side.f k bt176.1 bt176.2.1 bt176.2.2.1 bt176.2.2.2 l1 t188).bind fun t189 => (if (t175 ++ (⟨#[32, 43, 32]⟩ : ByteArray)).size + t189.size ≤ 9223372036854775807 then (some ((t175 ++ (⟨#[32, 43, 32]⟩ : ByteArray)) ++ t189)) else (none)))))) else (none))) else (if a0_0 = 6 then ((show_side.f k bt165.1 bt165.2.1 bt165.2.2.1 bt165.2.2.2 l1 false).bind fun t190 => (if t190.size + 3 ≤ 9223372036854775807 then ((show_arg.f a0_0 a0_1 a0_2 l0_3 1).bind fun bt191 => ((show_arg.f a0_0 a0_1 a0_2 l0_3 1).bind fun bt197 => ((show_sum.f bt197.1 bt197.2.1 bt197.2.2.1 bt197.2.2.2).bind fun t203 => ((show_side.f k bt191.1 bt191.2.1 bt191.2.2.1 bt191.2.2.2 l1 t203).bind fun t204 => (if (t190 ++ (⟨#[32, 45, 32]⟩ : ByteArray)).size + t204.size ≤ 9223372036854775807 then (some ((t190 ++ (⟨#[32, 45, 32]⟩ : ByteArray)) ++ t204)) else (none)))))) else (none))) else (if a0_0 = 7 then (if bt165.1 = 4 then ((show_side.f k bt165.1 bt165.2.1 bt165.2.2.1 bt165.2.2.2 l1 true).bind fun t205 => (if 1 + t205.size ≤ 9223372036854775807 then (some ((⟨#[45]⟩ : ByteArray) ++ t205)) else (none))) else ((show_sum.f bt165.1 bt165.2.1 bt165.2.2.1 bt165.2.2.2).bind fun t206 => (if t206 = true then ((show_side.f k bt165.1 bt165.2.1 bt165.2.2.1 bt165.2.2.2 l1 true).bind fun t207 => (if 1 + t207.size ≤ 9223372036854775807 then (some ((⟨#[45]⟩ : ByteArray) ++ t207)) else (none))) else ((show_side.f k bt165.1 bt165.2.1 bt165.2.2.1 bt165.2.2.2 l1 (bt165.1 == 8)).bind fun t208 => (if 1 + t208.size ≤ 9223372036854775807 then (some ((⟨#[45]⟩ : ByteArray) ++ t208)) else (none)))))) else (if a0_0 = 8 then ((show_side.f k 4 (⟨#[]⟩ : ByteArray) a0_2 ([] : List (S53)) ([] : List ByteArray) false).bind fun t209 => (if t209.size + 3 ≤ 9223372036854775807 then ((show_sum.f bt165.1 bt165.2.1 bt165.2.2.1 bt165.2.2.2).bind fun t210 => (if t210 = true then ((show_side.f k bt165.1 bt165.2.1 bt165.2.2.1 bt165.2.2.2 l1 true).bind fun t211 => (if (t209 ++ (⟨#[32, 42, 32]⟩ : ByteArray)).size + t211.size ≤ 9223372036854775807 then (some ((t209 ++ (⟨#[32, 42, 32]⟩ : ByteArray)) ++ t211)) else (none))) else ((show_side.f k bt165.1 bt165.2.1 bt165.2.2.1 bt165.2.2.2 l1 (bt165.1 == 8)).bind fun t212 => (if (t209 ++ (⟨#[32, 42, 32]⟩ : ByteArray)).size + t212.size ≤ 9223372036854775807 then (some ((t209 ++ (⟨#[32, 42, 32]⟩ : ByteArray)) ++ t212)) else (none))))) else (none))) else ((show_apply.f k a0_1 l0_3 l1).bind fun t213 => (some t213))))))))
def show_apply.l0 : Nat → ByteArray → List ByteArray → List ByteArray → List (S53) → Int → Int → Option (ByteArray)
  | 0, _, _, _, _, _, _ => none
  | k + 1, x0, x2, x7, x14, x15, x16 => if x16 < x15 then (if 0 ≤ x16 then (if x16 < (x14.length : Int) then ((show_text.f k ((rd_T53 x14 x16).f0) ((rd_T53 x14 x16).f1) ((rd_T53 x14 x16).f2) ((rd_T53 x14 x16).f3) x2).bind fun t216 => (if x7.length < 8796093022208 then (show_apply.l0 k x0 x2 (x7 ++ [t216]) x14 x15 (wrap64 (x16 + 1))) else (none))) else (none)) else (none)) else (if x0.size + 1 ≤ 9223372036854775807 then ((strings_Join.f x7 (⟨#[44, 32]⟩ : ByteArray)).bind fun t220 => (if (x0 ++ (⟨#[40]⟩ : ByteArray)).size + t220.size ≤ 9223372036854775807 then (if ((x0 ++ (⟨#[40]⟩ : ByteArray)) ++ t220).size + 1 ≤ 9223372036854775807 then (some (((x0 ++ (⟨#[40]⟩ : ByteArray)) ++ t220) ++ (⟨#[41]⟩ : ByteArray))) else (none)) else (none))) else (none))
def show_apply.f : Nat → ByteArray → List (S53) → List ByteArray → Option (ByteArray)
  | 0, _, _, _ => none
  | k + 1, a0, l1, l2 => if (l1.length : Int) = 0 then (some a0) else (show_apply.l0 k a0 l2 ([] : List ByteArray) l1 (l1.length : Int) 0)
def show_side.j0 : Nat → ByteArray → Bool → Option (ByteArray)
  | 0, _, _ => none
  | k + 1, x7, x21 => if x21 = true then (if 1 + x7.size ≤ 9223372036854775807 then (if ((⟨#[40]⟩ : ByteArray) ++ x7).size + 1 ≤ 9223372036854775807 then (some (((⟨#[40]⟩ : ByteArray) ++ x7) ++ (⟨#[41]⟩ : ByteArray))) else (none)) else (none)) else (some x7)
def show_side.f : Nat → Int → ByteArray → Int → List (S53) → List ByteArray → Bool → Option (ByteArray)
  | 0, _, _, _, _, _, _ => none
  | k + 1, a0_0, a0_1, a0_2, l0_3, l1, a2 => (show_text.f k a0_0 a0_1 a0_2 l0_3 l1).bind fun t222 => (if a2 = true then (show_side.j0 k t222 true) else (if a0_0 = 4 then (show_side.j0 k t222 (decide (a0_2 < 0))) else (show_side.j0 k t222 false)))
end
end Go.Proofs.YtmlkllbaehegjaaDoor.PAll
end
