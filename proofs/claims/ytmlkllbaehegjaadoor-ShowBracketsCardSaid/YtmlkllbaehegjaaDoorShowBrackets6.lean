-- Words of the kit's print, walks printed by a program of this session (wip/prt) in shorter words, and texts of this session, merged (pack.py).
import Derived.Test.YtmlkllbaehegjaaDoorShowBrackets3
import Derived.Test.YtmlkllbaehegjaaDoorShowBrackets4
import Derived.Test.YtmlkllbaehegjaaDoorShowBrackets5
section
namespace Go.Proofs.YtmlkllbaehegjaaDoor.PAll
open Go.RowKit Go.Proofs.YtmlkllbaehegjaaDoorW.PrintWords Go.Proofs.YtmlkllbaehegjaaDoorW.PrintLast Go.Proofs.YtmlkllbaehegjaaDoorW.PrintMore
attribute [local go_sem] max2_int min2_int max_two min_two max_three min_three max_four min_four   -- for this text's walks alone
set_option linter.unusedVariables false
set_option linter.unusedSimpArgs false
/-! ### sequiturref08_parts: function 31 -/
mutual
def sequiturref08_parts.j0 : Nat → Bool → Int → ByteArray → ByteArray → List (S53) → List (S30) → Option (Int)
  | 0, _, _, _, _, _, _ => none
  | k + 1, x3, x362000, x362001, x362002, x362003, x362004 => if x362000 < 1 then (sequiturref08_parts.j1 k true x362000 x362001 x362002 x362003 x362004) else (if x362000 > 12 then (sequiturref08_parts.j1 k true x362000 x362001 x362002 x362003 x362004) else (if x3 = true then (sequiturref08_parts.j1 k false x362000 x362001 x362002 x362003 x362004) else (if x362000 = 3 then (sequiturref08_parts.j1 k (x362002.toList != ([] : List UInt8)) x362000 x362001 x362002 x362003 x362004) else (if x362001.toList = ([] : List UInt8) then (sequiturref08_parts.j1 k (x362002.toList != ([] : List UInt8)) x362000 x362001 x362002 x362003 x362004) else (sequiturref08_parts.j1 k true x362000 x362001 x362002 x362003 x362004)))))
def sequiturref08_parts.j1 : Nat → Bool → Int → ByteArray → ByteArray → List (S53) → List (S30) → Option (Int)
  | 0, _, _, _, _, _, _ => none
  | k + 1, x48, x362000, x362001, x362002, x362003, x362004 => if x48 = true then (some 7) else ((sequiturref08_wants.f k x362000).bind fun bt362 => (if x362000 = 3 then (if (x362003.length : Int) > 8 then (some 12) else (sequiturref08_parts.j2 k (x362003.length : Int) bt362.2 x362000 x362001 x362002 x362003 x362004)) else (sequiturref08_parts.j2 k bt362.1 bt362.2 x362000 x362001 x362002 x362003 x362004)))
def sequiturref08_parts.j2 : Nat → Int → Int → Int → ByteArray → ByteArray → List (S53) → List (S30) → Option (Int)
  | 0, _, _, _, _, _, _, _ => none
  | k + 1, x4, x5, x362000, x362001, x362002, x362003, x362004 => if (x362003.length : Int) = x4 then (sequiturref08_parts.j3 k ((x362004.length : Int) != x5) x362000 x362001 x362002 x362003 x362004) else (sequiturref08_parts.j3 k true x362000 x362001 x362002 x362003 x362004)
def sequiturref08_parts.j3 : Nat → Bool → Int → ByteArray → ByteArray → List (S53) → List (S30) → Option (Int)
  | 0, _, _, _, _, _, _ => none
  | k + 1, x74, x362000, x362001, x362002, x362003, x362004 => if x74 = true then (some 12) else (sequiturref08_parts.l0 k 0 x362000 x362001 x362002 x362003 x362004)
def sequiturref08_parts.l0 : Nat → Int → Int → ByteArray → ByteArray → List (S53) → List (S30) → Option (Int)
  | 0, _, _, _, _, _, _ => none
  | k + 1, x6, x362000, x362001, x362002, x362003, x362004 => if x6 < (x362003.length : Int) then (if 0 ≤ x6 then ((sequiturref08_TermRight.f k ((rd_T53 x362003 x6).f0) ((rd_T53 x362003 x6).f1) ((rd_T53 x362003 x6).f2) ((rd_T53 x362003 x6).f3)).bind fun t365 => (if t365 = 0 then (sequiturref08_parts.l0 k (wrap64 (x6 + 1)) x362000 x362001 x362002 x362003 x362004) else (some t365))) else (none)) else (sequiturref08_parts.l1 k 0 x362000 x362001 x362002 x362003 x362004)
def sequiturref08_parts.l1 : Nat → Int → Int → ByteArray → ByteArray → List (S53) → List (S30) → Option (Int)
  | 0, _, _, _, _, _, _ => none
  | k + 1, x8, x362000, x362001, x362002, x362003, x362004 => if x8 < (x362004.length : Int) then (if 0 ≤ x8 then ((sequiturref08_parts.f k ((rd_T30 x362004 x8).f0) ((rd_T30 x362004 x8).f1) ((rd_T30 x362004 x8).f2) ((rd_T30 x362004 x8).f3) ((rd_T30 x362004 x8).f4)).bind fun t367 => (if t367 = 0 then (sequiturref08_parts.l1 k (wrap64 (x8 + 1)) x362000 x362001 x362002 x362003 x362004) else (some t367))) else (none)) else (some 0)
def sequiturref08_parts.f : Nat → Int → ByteArray → ByteArray → List (S53) → List (S30) → Option (Int)
  | 0, _, _, _, _, _ => none
  | k + 1, a0_0, a0_1, a0_2, l0_3, l0_4 => if a0_0 = 11 then (sequiturref08_parts.j0 k true a0_0 a0_1 a0_2 l0_3 l0_4) else (sequiturref08_parts.j0 k (a0_0 == 12) a0_0 a0_1 a0_2 l0_3 l0_4)
end
set_option maxHeartbeats 8000000 in
set_option maxRecDepth 100000 in
theorem sequiturref08_parts.calls (k : Nat) : ∀ (a0_0 : Int) (a0_1 : ByteArray) (a0_2 : ByteArray) (A0_3 : Option Addr) (c0_3 : Nat) (l0_3 : List (S53)) (A0_4 : Option Addr) (c0_4 : Nat) (l0_4 : List (S30)) (r : Int) (w : World) (hr0_3 : Kd.C k53 w A0_3 l0_3.length l0_3) (hc0_3 : l0_3.length ≤ c0_3) (hr0_4 : Kd.C k30 w A0_4 l0_4.length l0_4) (hc0_4 : l0_4.length ≤ c0_4) (h : sequiturref08_parts.f k a0_0 a0_1 a0_2 l0_3 l0_4 = some r),
    Calls Tryd.prog 31 #[.agg #[.int .i64 a0_0, .string a0_1, .string a0_2, .slice A0_3 l0_3.length c0_3, .slice A0_4 l0_4.length c0_4]] w fun e w' => e = .returned (.int .i64 r) ∧ Below w.heap.size w w' := by
  induction k using Nat.strongRecOn with
  | _ k ih =>
  intro a0_0 a0_1 a0_2 A0_3 c0_3 l0_3 A0_4 c0_4 l0_4 r w hr0_3 hc0_3 hr0_4 hc0_4 h
  cases k with
  | zero => exact absurd h (by simp [sequiturref08_parts.f])
  | succ k =>
  simp only [sequiturref08_parts.f] at h; have hu30 := Tryd.underlying30; have hu53 := Tryd.underlying53; have HR0_3 := am hr0_3; have HC0_3 := am hc0_3; clear hr0_3 hc0_3; have HR0_4 := am hr0_4; have HC0_4 := am hc0_4; clear hr0_4 hc0_4; have HB := am (Below.refl w.heap.size w); have H := h; clear h; have HC2 := am H; clear H
  go_enter Tryd.func31, Tryd.ntmps31
  go_upto_region 1 with (first | ((with_reducible refine gate_dst (N := 1) rfl ?_); (try (refine gate_guard (by rfl) ?_; dsimp only)); refine bE 1 #[.int .i64 a0_0, .string a0_1, .string a0_2, .slice A0_3 l0_3.length c0_3, .slice A0_4 l0_4.length c0_4] 30 ?_; intro gb361 w3 BK361 hg hb; have GW361 := bZ hg; have GE361 := bZ hg; replace HB := bH hb; clear hb hg))
  (try simp only [Act.put, List.setIfInBounds_toArray, List.set_cons_zero, List.set_cons_succ])
  go_cut [3] (fun v3 wc => ∃ (kq : Nat) (x3_1 : Bool), v3 = .bool x3_1 ∧ Aside0 (sequiturref08_parts.j0 kq x3_1 a0_0 a0_1 a0_2 l0_3 l0_4 = some r) ∧ Aside0 (kq ≤ k) ∧ Aside0 (wc.heap[gb361]? = some (.cells #[.int .i64 a0_0, .string a0_1, .string a0_2, (.slice A0_3 l0_3.length c0_3), (.slice A0_4 l0_4.length c0_4)] 30 (0, 0))) ∧ Aside0 (Below w.heap.size w wc))
  case first =>
   have H := HC2.out; clear HC2
   by_cases c4 : a0_0 = 11
   ·rw [if_pos c4] at H
    have c4b0 := beq_iff_eq.mpr c4; have c4b1 := bne_eq_false_iff_eq.mpr c4; clear c4; (first | rw [c4b0] | (simp only [i64_w, i32_w]; rw [c4b0]) | skip); have H' := am H; clear H; obtain ⟨z5_0, z5_1, z5_2, z5_3, z5_4, y5_0, y5_1, y5_2, y5_3, y5_4⟩ := y5 BK361; go_wp2; go_meet
    case rel => exact ⟨_, (true), eS, H', ⟨eO⟩, ⟨bD BK361⟩, ⟨bB⟩⟩
   ·rw [if_neg c4] at H
    have c4b0 := beq_eq_false_iff_ne.mpr c4; have c4b1 := bne_iff_ne.mpr c4; (first | rw [c4b0] | (simp only [i64_w, i32_w]; rw [c4b0]) | skip); have H' := am H; clear H; obtain ⟨z6_0, z6_1, z6_2, z6_3, z6_4, y6_0, y6_1, y6_2, y6_3, y6_4⟩ := y5 BK361; go_wp2; go_meet
    case rel => exact ⟨_, ((a0_0 == 12)), eS, H', ⟨eO⟩, ⟨bD BK361⟩, ⟨bB⟩⟩
  case rest =>
   clear HC2; (try clear p2); (try clear c3); (try clear c4); (try clear c4b0); (try clear c4b1); (try clear z5_0 z5_1 z5_2 z5_3 z5_4); (try clear z6_0 z6_1 z6_2 z6_3 z6_4); (try clear y5_0 y5_1 y5_2 y5_3 y5_4); (try clear y6_0 y6_1 y6_2 y6_3 y6_4); obtain ⟨kq, x3_1, rfl, HA, HJ1, BK361, HB⟩ := hcut
   cases kq with
   | zero => exact absurd HA.out (by simp [sequiturref08_parts.j0])
   | succ kj1 =>
    have H := HA.out; clear HA; simp only [sequiturref08_parts.j0] at H; have HC7 := am H; clear H
    go_upto_region 2 with (fail)
    go_cut [48] (fun v48 wc => ∃ (kq : Nat) (x48_6 : Bool), v48 = .bool x48_6 ∧ Aside0 (sequiturref08_parts.j1 kq x48_6 a0_0 a0_1 a0_2 l0_3 l0_4 = some r) ∧ Aside0 (kq ≤ kj1) ∧ Aside0 (wc.heap[gb361]? = some (.cells #[.int .i64 a0_0, .string a0_1, .string a0_2, (.slice A0_3 l0_3.length c0_3), (.slice A0_4 l0_4.length c0_4)] 30 (0, 0))) ∧ Aside0 (Below w.heap.size w wc))
    case first =>
     have H := HC7.out; clear HC7
     by_cases c8 : a0_0 < 1
     ·rw [if_pos c8] at H
      have c8b0 : decide (a0_0 < 1) = true := decide_eq_true c8; clear c8; (first | rw [c8b0] | (simp only [i64_w, i32_w]; rw [c8b0]) | skip); have H' := am H; clear H; obtain ⟨z9_0, z9_1, z9_2, z9_3, z9_4, y9_0, y9_1, y9_2, y9_3, y9_4⟩ := y5 BK361; go_wp2; go_meet
      case rel => exact ⟨_, (true), eS, H', ⟨by have := HJ1.out; first | omega | exact Nat.le_refl _⟩, ⟨bD BK361⟩, ⟨bB⟩⟩
     ·rw [if_neg c8] at H
      have c8b0 : decide (a0_0 < 1) = false := decide_eq_false c8; clear c8; (first | rw [c8b0] | (simp only [i64_w, i32_w]; rw [c8b0]) | skip)
      by_cases c10 : a0_0 > 12
      ·rw [if_pos c10] at H
       have c10b0 : decide (12 < a0_0) = true := decide_eq_true c10; clear c10; have H' := am H; clear H; obtain ⟨z11_0, z11_1, z11_2, z11_3, z11_4, y11_0, y11_1, y11_2, y11_3, y11_4⟩ := y5 BK361; go_wp2; go_meet
       case rel => exact ⟨_, (true), eS, H', ⟨by have := HJ1.out; first | omega | exact Nat.le_refl _⟩, ⟨bD BK361⟩, ⟨bB⟩⟩
      ·rw [if_neg c10] at H
       have c10b0 : decide (12 < a0_0) = false := decide_eq_false c10; clear c10
       by_cases c12 : x3_1 = true
       ·subst c12
        rw [if_pos rfl] at H; have H' := am H; clear H; obtain ⟨z13_0, z13_1, z13_2, z13_3, z13_4, y13_0, y13_1, y13_2, y13_3, y13_4⟩ := y5 BK361; go_wp2; go_meet
        case rel => exact ⟨_, (false), eS, H', ⟨by have := HJ1.out; first | omega | exact Nat.le_refl _⟩, ⟨bD BK361⟩, ⟨bB⟩⟩
       ·replace c12 := Bool.eq_false_iff.mpr c12
        subst c12; rw [if_neg (show ¬ (false = true) by decide)] at H
        by_cases c14 : a0_0 = 3
        ·rw [if_pos c14] at H
         have c14b0 := beq_iff_eq.mpr c14; have c14b1 := bne_eq_false_iff_eq.mpr c14; clear c14; have H' := am H; clear H; obtain ⟨z15_0, z15_1, z15_2, z15_3, z15_4, y15_0, y15_1, y15_2, y15_3, y15_4⟩ := y5 BK361; go_wp2; go_meet
         case rel => exact ⟨_, ((a0_2.toList != ([] : List UInt8))), eS, H', ⟨by have := HJ1.out; first | omega | exact Nat.le_refl _⟩, ⟨bD BK361⟩, ⟨bB⟩⟩
        ·rw [if_neg c14] at H
         have c14b0 := beq_eq_false_iff_ne.mpr c14; have c14b1 := bne_iff_ne.mpr c14
         by_cases c16 : a0_1.toList = ([] : List UInt8)
         ·rw [if_pos c16] at H
          have c16b0 := beq_iff_eq.mpr c16; have c16b1 := bne_eq_false_iff_eq.mpr c16; clear c16; have H' := am H; clear H; obtain ⟨z17_0, z17_1, z17_2, z17_3, z17_4, y17_0, y17_1, y17_2, y17_3, y17_4⟩ := y5 BK361; go_wp2; go_meet
          case rel => exact ⟨_, ((a0_2.toList != ([] : List UInt8))), eS, H', ⟨by have := HJ1.out; first | omega | exact Nat.le_refl _⟩, ⟨bD BK361⟩, ⟨bB⟩⟩
         ·rw [if_neg c16] at H
          have c16b0 := beq_eq_false_iff_ne.mpr c16; have c16b1 := bne_iff_ne.mpr c16; have H' := am H; clear H; obtain ⟨z18_0, z18_1, z18_2, z18_3, z18_4, y18_0, y18_1, y18_2, y18_3, y18_4⟩ := y5 BK361; go_wp2; go_meet
          case rel => exact ⟨_, (true), eS, H', ⟨by have := HJ1.out; first | omega | exact Nat.le_refl _⟩, ⟨bD BK361⟩, ⟨bB⟩⟩
    case rest =>
     clear HC7; (try clear c1); (try clear p2); (try clear c3); (try clear c4); (try clear c4b0); (try clear c4b1); (try clear c8); (try clear c8b0); (try clear c10); (try clear c10b0); (try clear c12); (try clear c14); (try clear c14b0); (try clear c14b1); (try clear c16); (try clear c16b0); (try clear c16b1); (try clear z11_0 z11_1 z11_2 z11_3 z11_4); (try clear z13_0 z13_1 z13_2 z13_3 z13_4); (try clear z15_0 z15_1 z15_2 z15_3 z15_4); (try clear z17_0 z17_1 z17_2 z17_3 z17_4); (try clear z18_0 z18_1 z18_2 z18_3 z18_4); (try clear z5_0 z5_1 z5_2 z5_3 z5_4); (try clear z6_0 z6_1 z6_2 z6_3 z6_4); (try clear z9_0 z9_1 z9_2 z9_3 z9_4); (try clear y11_0 y11_1 y11_2 y11_3 y11_4); (try clear y13_0 y13_1 y13_2 y13_3 y13_4); (try clear y15_0 y15_1 y15_2 y15_3 y15_4); (try clear y17_0 y17_1 y17_2 y17_3 y17_4); (try clear y18_0 y18_1 y18_2 y18_3 y18_4); try clear y5_0 y5_1 y5_2 y5_3 y5_4
     (try clear y6_0 y6_1 y6_2 y6_3 y6_4); (try clear y9_0 y9_1 y9_2 y9_3 y9_4); (try clear p2); obtain ⟨kq, x48_6, rfl, HA, HJ6, BK361, HB⟩ := hcut
     cases kq with
     | zero => exact absurd HA.out (by simp [sequiturref08_parts.j1])
     | succ kj6 =>
      have H := HA.out; clear HA; simp only [sequiturref08_parts.j1] at H
      by_cases c19 : x48_6 = true
      ·subst c19
       rw [if_pos rfl] at H; obtain rfl := Option.some.inj H; go_wp2; go_ret; exact ⟨eW, bB⟩
      ·replace c19 := Bool.eq_false_iff.mpr c19
       subst c19; rw [if_neg (show ¬ (false = true) by decide)] at H; obtain ⟨⟨t362, t363⟩, A20, H⟩ := bO H; (try dsimp only at H); have HC21 := am H; clear H; obtain ⟨z22_0, z22_1, z22_2, z22_3, z22_4, y22_0, y22_1, y22_2, y22_3, y22_4⟩ := y5 BK361
       go_upto_if 57 with (first | ((with_reducible refine gate_callee (f := 46) rfl ?_); refine gL 52 Tryd.func46 #[.int .i64 a0_0] ?_; (with_reducible refine (sequiturref08_wants.calls kj6 a0_0 t362 t363 _ A20.out).mono ?_); rintro e w' ⟨rfl, ⟨nd, rfl⟩⟩; refine ⟨_, rfl, ?_⟩))
       (try simp only [Act.put, List.setIfInBounds_toArray, List.set_cons_zero, List.set_cons_succ])
       go_cut [4] (fun v4 wc => ∃ (kq : Nat) (x4_20 : Int), v4 = .int .i64 x4_20 ∧ Aside0 (sequiturref08_parts.j2 kq x4_20 t363 a0_0 a0_1 a0_2 l0_3 l0_4 = some r) ∧ Aside0 (kq ≤ kj6) ∧ Aside0 (wc.heap[gb361]? = some (.cells #[.int .i64 a0_0, .string a0_1, .string a0_2, (.slice A0_3 l0_3.length c0_3), (.slice A0_4 l0_4.length c0_4)] 30 (0, 0))) ∧ Aside0 (Below w.heap.size w wc))
       case first =>
        have H := HC21.out; clear HC21
        by_cases c23 : a0_0 = 3
        ·rw [if_pos c23] at H
         have c23b0 := beq_iff_eq.mpr c23; have c23b1 := bne_eq_false_iff_eq.mpr c23; clear c23; (first | rw [c23b0] | (simp only [i64_w, i32_w]; rw [c23b0]) | skip)
         by_cases c24 : (l0_3.length : Int) > 8
         ·rw [if_pos c24] at H
          have c24b0 : decide (8 < (l0_3.length : Int)) = true := decide_eq_true c24; have c24b1 : decide (8 < l0_3.length) = true := decide_eq_true (by omega); clear c24; obtain rfl := Option.some.inj H; obtain ⟨z25_0, z25_1, z25_2, z25_3, z25_4, y25_0, y25_1, y25_2, y25_3, y25_4⟩ := y5 BK361; go_wp2; go_ret; exact ⟨eW, bB⟩
         ·rw [if_neg c24] at H
          have c24b0 : decide (8 < (l0_3.length : Int)) = false := decide_eq_false c24; have c24b1 : decide (8 < l0_3.length) = false := decide_eq_false (by omega); clear c24; have H' := am H; clear H; obtain ⟨z26_0, z26_1, z26_2, z26_3, z26_4, y26_0, y26_1, y26_2, y26_3, y26_4⟩ := y5 BK361; go_wp2; go_meet
          case rel => exact ⟨_, ((l0_3.length : Int)), eS, H', ⟨by have := HJ1.out; have := HJ6.out; first | omega | exact Nat.le_refl _⟩, ⟨bD BK361⟩, ⟨bB⟩⟩
        ·rw [if_neg c23] at H
         have c23b0 := beq_eq_false_iff_ne.mpr c23; have c23b1 := bne_iff_ne.mpr c23; (first | rw [c23b0] | (simp only [i64_w, i32_w]; rw [c23b0]) | skip); have H' := am H; clear H; go_wp2; go_meet
         case rel => exact ⟨_, (t362), eS, H', ⟨by have := HJ1.out; have := HJ6.out; first | omega | exact Nat.le_refl _⟩, ⟨bD BK361⟩, ⟨bB⟩⟩
       case rest =>
        clear HC21; (try clear c1); (try clear c2); (try clear p2); (try clear c3); (try clear c4); (try clear c4b0); (try clear c4b1); (try clear c8); (try clear c8b0); (try clear c10); (try clear c10b0); (try clear c12); (try clear c14); (try clear c14b0); (try clear c14b1); (try clear c16); (try clear c16b0); (try clear c16b1); (try clear c19); (try clear c23); (try clear c23b0); (try clear c23b1); (try clear c24); (try clear c24b0); (try clear c24b1); (try clear z11_0 z11_1 z11_2 z11_3 z11_4); (try clear z13_0 z13_1 z13_2 z13_3 z13_4); (try clear z15_0 z15_1 z15_2 z15_3 z15_4); (try clear z17_0 z17_1 z17_2 z17_3 z17_4); (try clear z18_0 z18_1 z18_2 z18_3 z18_4); (try clear z22_0 z22_1 z22_2 z22_3 z22_4); (try clear z25_0 z25_1 z25_2 z25_3 z25_4); (try clear z26_0 z26_1 z26_2 z26_3 z26_4); (try clear z5_0 z5_1 z5_2 z5_3 z5_4); (try clear z6_0 z6_1 z6_2 z6_3 z6_4); (try clear z9_0 z9_1 z9_2 z9_3 z9_4); try clear y11_0 y11_1 y11_2 y11_3 y11_4
        (try clear y13_0 y13_1 y13_2 y13_3 y13_4); (try clear y15_0 y15_1 y15_2 y15_3 y15_4); (try clear y17_0 y17_1 y17_2 y17_3 y17_4); (try clear y18_0 y18_1 y18_2 y18_3 y18_4); (try clear y22_0 y22_1 y22_2 y22_3 y22_4); (try clear y25_0 y25_1 y25_2 y25_3 y25_4); (try clear y26_0 y26_1 y26_2 y26_3 y26_4); (try clear y5_0 y5_1 y5_2 y5_3 y5_4); (try clear y6_0 y6_1 y6_2 y6_3 y6_4); (try clear y9_0 y9_1 y9_2 y9_3 y9_4); (try clear p2); obtain ⟨kq, x4_20, rfl, HA, HJ20, BK361, HB⟩ := hcut
        cases kq with
        | zero => exact absurd HA.out (by simp [sequiturref08_parts.j2])
        | succ kj20 =>
         have H := HA.out; clear HA; simp only [sequiturref08_parts.j2] at H; have HC27 := am H; clear H
         go_upto_region 9 with (fail)
         go_cut [74] (fun v74 wc => ∃ (kq : Nat) (x74_26 : Bool), v74 = .bool x74_26 ∧ Aside0 (sequiturref08_parts.j3 kq x74_26 a0_0 a0_1 a0_2 l0_3 l0_4 = some r) ∧ Aside0 (kq ≤ kj20) ∧ Aside0 (wc.heap[gb361]? = some (.cells #[.int .i64 a0_0, .string a0_1, .string a0_2, (.slice A0_3 l0_3.length c0_3), (.slice A0_4 l0_4.length c0_4)] 30 (0, 0))) ∧ Aside0 (Below w.heap.size w wc))
         case first =>
          have H := HC27.out; clear HC27
          by_cases c28 : (l0_3.length : Int) = x4_20
          ·rw [if_pos c28] at H
           have c28b0 := beq_iff_eq.mpr c28; have c28b1 := bne_eq_false_iff_eq.mpr c28; clear c28; (first | rw [c28b0] | (simp only [i64_w, i32_w]; rw [c28b0]) | skip); have H' := am H; clear H; obtain ⟨z29_0, z29_1, z29_2, z29_3, z29_4, y29_0, y29_1, y29_2, y29_3, y29_4⟩ := y5 BK361; go_wp2; go_meet
           case rel => exact ⟨_, (((l0_4.length : Int) != t363)), eS, H', ⟨by have := HJ1.out; have := HJ6.out; have := HJ20.out; first | omega | exact Nat.le_refl _⟩, ⟨bD BK361⟩, ⟨bB⟩⟩
          ·rw [if_neg c28] at H
           have c28b0 := beq_eq_false_iff_ne.mpr c28; have c28b1 := bne_iff_ne.mpr c28; (first | rw [c28b0] | (simp only [i64_w, i32_w]; rw [c28b0]) | skip); have H' := am H; clear H; obtain ⟨z30_0, z30_1, z30_2, z30_3, z30_4, y30_0, y30_1, y30_2, y30_3, y30_4⟩ := y5 BK361; go_wp2; go_meet
           case rel => exact ⟨_, (true), eS, H', ⟨by have := HJ1.out; have := HJ6.out; have := HJ20.out; first | omega | exact Nat.le_refl _⟩, ⟨bD BK361⟩, ⟨bB⟩⟩
         case rest =>
          clear HC27; (try clear c1); (try clear c2); (try clear p2); (try clear c3); (try clear c4); (try clear c4b0); (try clear c4b1); (try clear c8); (try clear c8b0); (try clear c10); (try clear c10b0); (try clear c12); (try clear c14); (try clear c14b0); (try clear c14b1); (try clear c16); (try clear c16b0); (try clear c16b1); (try clear c19); (try clear c23); (try clear c23b0); (try clear c23b1); (try clear c24); (try clear c24b0); (try clear c24b1); (try clear c28); (try clear c28b0); (try clear c28b1); (try clear z11_0 z11_1 z11_2 z11_3 z11_4); (try clear z13_0 z13_1 z13_2 z13_3 z13_4); (try clear z15_0 z15_1 z15_2 z15_3 z15_4); (try clear z17_0 z17_1 z17_2 z17_3 z17_4); (try clear z18_0 z18_1 z18_2 z18_3 z18_4); (try clear z22_0 z22_1 z22_2 z22_3 z22_4); (try clear z25_0 z25_1 z25_2 z25_3 z25_4); (try clear z26_0 z26_1 z26_2 z26_3 z26_4); (try clear z29_0 z29_1 z29_2 z29_3 z29_4); (try clear z30_0 z30_1 z30_2 z30_3 z30_4); try clear z5_0 z5_1 z5_2 z5_3 z5_4
          (try clear z6_0 z6_1 z6_2 z6_3 z6_4); (try clear z9_0 z9_1 z9_2 z9_3 z9_4); (try clear y11_0 y11_1 y11_2 y11_3 y11_4); (try clear y13_0 y13_1 y13_2 y13_3 y13_4); (try clear y15_0 y15_1 y15_2 y15_3 y15_4); (try clear y17_0 y17_1 y17_2 y17_3 y17_4); (try clear y18_0 y18_1 y18_2 y18_3 y18_4); (try clear y22_0 y22_1 y22_2 y22_3 y22_4); (try clear y25_0 y25_1 y25_2 y25_3 y25_4); (try clear y26_0 y26_1 y26_2 y26_3 y26_4); (try clear y29_0 y29_1 y29_2 y29_3 y29_4); (try clear y30_0 y30_1 y30_2 y30_3 y30_4); (try clear y5_0 y5_1 y5_2 y5_3 y5_4); (try clear y6_0 y6_1 y6_2 y6_3 y6_4); (try clear y9_0 y9_1 y9_2 y9_3 y9_4); (try clear p2); obtain ⟨kq, x74_26, rfl, HA, HJ26, BK361, HB⟩ := hcut
          cases kq with
          | zero => exact absurd HA.out (by simp [sequiturref08_parts.j3])
          | succ kj26 =>
           have H := HA.out; clear HA; simp only [sequiturref08_parts.j3] at H
           by_cases c31 : x74_26 = true
           ·subst c31
            rw [if_pos rfl] at H; obtain rfl := Option.some.inj H; go_wp2; go_ret; exact ⟨eW, bB⟩
           ·replace c31 := Bool.eq_false_iff.mpr c31
            subst c31; rw [if_neg (show ¬ (false = true) by decide)] at H; have H' := am H; clear H; go_wp2
            go_loopg [6] kj26 (fun kq v6 w' => ∃ (x6_5 : Int), v6 = .int .i64 x6_5 ∧ Aside0 (sequiturref08_parts.l0 kq x6_5 a0_0 a0_1 a0_2 l0_3 l0_4 = some r) ∧ Aside0 (kq ≤ kj26) ∧ Aside0 (w'.heap[gb361]? = some (.cells #[.int .i64 a0_0, .string a0_1, .string a0_2, (.slice A0_3 l0_3.length c0_3), (.slice A0_4 l0_4.length c0_4)] 30 (0, 0))) ∧ Aside0 (Below w.heap.size w w'))
            case atStart => exact ⟨(0), eS, H', ⟨Nat.le_refl _⟩, ⟨bD BK361⟩, ⟨bB⟩⟩
            case round =>
             clear H'; (try clear c1); (try clear c2); (try clear p2); (try clear c3); (try clear c4); (try clear c4b0); (try clear c4b1); (try clear c8); (try clear c8b0); (try clear c10); (try clear c10b0); (try clear c12); (try clear c14); (try clear c14b0); (try clear c14b1); (try clear c16); (try clear c16b0); (try clear c16b1); (try clear c19); (try clear c23); (try clear c23b0); (try clear c23b1); (try clear c24); (try clear c24b0); (try clear c24b1); (try clear c28); (try clear c28b0); (try clear c28b1); (try clear c31); (try clear z11_0 z11_1 z11_2 z11_3 z11_4); (try clear z13_0 z13_1 z13_2 z13_3 z13_4); (try clear z15_0 z15_1 z15_2 z15_3 z15_4); (try clear z17_0 z17_1 z17_2 z17_3 z17_4); (try clear z18_0 z18_1 z18_2 z18_3 z18_4); (try clear z22_0 z22_1 z22_2 z22_3 z22_4); (try clear z25_0 z25_1 z25_2 z25_3 z25_4); (try clear z26_0 z26_1 z26_2 z26_3 z26_4); (try clear z29_0 z29_1 z29_2 z29_3 z29_4); (try clear z30_0 z30_1 z30_2 z30_3 z30_4); try clear z5_0 z5_1 z5_2 z5_3 z5_4
             (try clear z6_0 z6_1 z6_2 z6_3 z6_4); (try clear z9_0 z9_1 z9_2 z9_3 z9_4); (try clear y11_0 y11_1 y11_2 y11_3 y11_4); (try clear y13_0 y13_1 y13_2 y13_3 y13_4); (try clear y15_0 y15_1 y15_2 y15_3 y15_4); (try clear y17_0 y17_1 y17_2 y17_3 y17_4); (try clear y18_0 y18_1 y18_2 y18_3 y18_4); (try clear y22_0 y22_1 y22_2 y22_3 y22_4); (try clear y25_0 y25_1 y25_2 y25_3 y25_4); (try clear y26_0 y26_1 y26_2 y26_3 y26_4); (try clear y29_0 y29_1 y29_2 y29_3 y29_4); (try clear y30_0 y30_1 y30_2 y30_3 y30_4); (try clear y5_0 y5_1 y5_2 y5_3 y5_4); (try clear y6_0 y6_1 y6_2 y6_3 y6_4); (try clear y9_0 y9_1 y9_2 y9_3 y9_4); (try clear p2); obtain ⟨x6_5, rfl, HA, HK5, BK361, HB⟩ := hrel
             cases gk with
             | zero => exact absurd HA.out (by simp [sequiturref08_parts.l0])
             | succ k5 =>
              have H := HA.out; clear HA; simp only [sequiturref08_parts.l0] at H
              by_cases c32 : x6_5 < (l0_3.length : Int)
              ·rw [if_pos c32] at H
               have c32b0 : decide (x6_5 < (l0_3.length : Int)) = true := decide_eq_true c32; clear c32
               by_cases c33 : 0 ≤ x6_5
               ·rw [if_pos c33] at H
                have c33b0 : decide (0 ≤ x6_5) = true := decide_eq_true c33; clear c33; obtain ⟨t365, A34, H⟩ := bO H
                by_cases c35 : t365 = 0
                ·rw [if_pos c35] at H
                 have c35b0 := beq_iff_eq.mpr c35; have c35b1 := bne_eq_false_iff_eq.mpr c35; clear c35; have H' := am H; clear H; obtain ⟨z36_0, z36_1, z36_2, z36_3, z36_4, y36_0, y36_1, y36_2, y36_3, y36_4⟩ := y5 BK361; have p364 : 0 ≤ (x6_5 : Int) := of_decide_eq_true eA; have q364 : x6_5 < (l0_3.length : Int) := of_decide_eq_true eA; obtain ⟨ad364, A364_3, c364_3, e364, hx364_0, hx364_1, hx364_2, hx364_3, hl364_3, hi364_3⟩ := at_T53 HR0_3.out x6_5 p364 q364
                 cases e364
                 replace hx364_0 := cX HB hx364_0; replace hx364_1 := cX HB hx364_1; replace hx364_2 := cX HB hx364_2; replace hx364_3 := cX HB hx364_3; have HR364_3 := am hi364_3; have HC364_3 := am hl364_3; clear hi364_3 hl364_3; replace p364 := eq_true p364; replace q364 := eq_true q364
                 go_wp2_with (first | ((with_reducible refine gate_callee (f := 47) rfl ?_); refine gL 87 Tryd.func47 #[.agg #[.int .i64 ((rd_T53 l0_3 x6_5).f0), .string ((rd_T53 l0_3 x6_5).f1), .int .i64 ((rd_T53 l0_3 x6_5).f2), .slice A364_3 ((rd_T53 l0_3 x6_5).f3).length c364_3]] ?_; (with_reducible refine (sequiturref08_TermRight.calls k5 ((rd_T53 l0_3 x6_5).f0) ((rd_T53 l0_3 x6_5).f1) ((rd_T53 l0_3 x6_5).f2) _ _ ((rd_T53 l0_3 x6_5).f3) t365 _ ?side1 HC364_3.out A34.out).mono ?_); (case side1 => exact cB HR364_3); rintro e w37 ⟨rfl, hb⟩; refine ⟨_, rfl, ?_⟩; replace BK361 := bK BK361 hb; replace HB := bH hb; clear hb))
                 go_roundg k5
                 case measure => have := HJ1.out; have := HJ6.out; have := HJ20.out; have := HJ26.out; have := HK5.out; omega
                 case rel => exact ⟨(wrap64 (x6_5 + 1)), eS, H', ⟨by have := HJ1.out; have := HJ6.out; have := HJ20.out; have := HJ26.out; have := HK5.out; omega⟩, ⟨bD BK361⟩, ⟨bB⟩⟩
                ·rw [if_neg c35] at H
                 have c35b0 := beq_eq_false_iff_ne.mpr c35; have c35b1 := bne_iff_ne.mpr c35; obtain rfl := Option.some.inj H; obtain ⟨z38_0, z38_1, z38_2, z38_3, z38_4, y38_0, y38_1, y38_2, y38_3, y38_4⟩ := y5 BK361; have p364 : 0 ≤ (x6_5 : Int) := of_decide_eq_true eA; have q364 : x6_5 < (l0_3.length : Int) := of_decide_eq_true eA; obtain ⟨ad364, A364_3, c364_3, e364, hx364_0, hx364_1, hx364_2, hx364_3, hl364_3, hi364_3⟩ := at_T53 HR0_3.out x6_5 p364 q364
                 cases e364
                 replace hx364_0 := cX HB hx364_0; replace hx364_1 := cX HB hx364_1; replace hx364_2 := cX HB hx364_2; replace hx364_3 := cX HB hx364_3; have HR364_3 := am hi364_3; have HC364_3 := am hl364_3; clear hi364_3 hl364_3; replace p364 := eq_true p364; replace q364 := eq_true q364
                 go_wp2_with (first | ((with_reducible refine gate_callee (f := 47) rfl ?_); refine gL 87 Tryd.func47 #[.agg #[.int .i64 ((rd_T53 l0_3 x6_5).f0), .string ((rd_T53 l0_3 x6_5).f1), .int .i64 ((rd_T53 l0_3 x6_5).f2), .slice A364_3 ((rd_T53 l0_3 x6_5).f3).length c364_3]] ?_; (with_reducible refine (sequiturref08_TermRight.calls k5 ((rd_T53 l0_3 x6_5).f0) ((rd_T53 l0_3 x6_5).f1) ((rd_T53 l0_3 x6_5).f2) _ _ ((rd_T53 l0_3 x6_5).f3) t365 _ ?side1 HC364_3.out A34.out).mono ?_); (case side1 => exact cB HR364_3); rintro e w39 ⟨rfl, hb⟩; refine ⟨_, rfl, ?_⟩; replace BK361 := bK BK361 hb; replace HB := bH hb; clear hb))
                 go_ret; exact ⟨eW, bB⟩
               ·rw [if_neg c33] at H
                exact absurd H (by simp)
              ·rw [if_neg c32] at H
               have c32b0 : decide (x6_5 < (l0_3.length : Int)) = false := decide_eq_false c32; clear c32; have H' := am H; clear H; obtain ⟨z40_0, z40_1, z40_2, z40_3, z40_4, y40_0, y40_1, y40_2, y40_3, y40_4⟩ := y5 BK361; go_wp2
               go_loopg [8] k5 (fun kq v8 w' => ∃ (x8_6 : Int), v8 = .int .i64 x8_6 ∧ Aside0 (sequiturref08_parts.l1 kq x8_6 a0_0 a0_1 a0_2 l0_3 l0_4 = some r) ∧ Aside0 (kq ≤ k5) ∧ Aside0 (w'.heap[gb361]? = some (.cells #[.int .i64 a0_0, .string a0_1, .string a0_2, (.slice A0_3 l0_3.length c0_3), (.slice A0_4 l0_4.length c0_4)] 30 (0, 0))) ∧ Aside0 (Below w.heap.size w w'))
               case atStart => exact ⟨(0), eS, H', ⟨Nat.le_refl _⟩, ⟨bD BK361⟩, ⟨bB⟩⟩
               case round =>
                clear H'; (try clear c1); (try clear c2); (try clear p2); (try clear c3); (try clear p3); (try clear q3); (try clear hx3); (try clear c4); (try clear c4b0); (try clear c4b1); (try clear p6); (try clear c8); (try clear c8b0); (try clear c10); (try clear c10b0); (try clear c12); (try clear c14); (try clear c14b0); (try clear c14b1); (try clear c16); (try clear c16b0); (try clear c16b1); (try clear c19); (try clear c23); (try clear c23b0); (try clear c23b1); (try clear c24); (try clear c24b0); (try clear c24b1); (try clear c28); (try clear c28b0); (try clear c28b1); (try clear c31); (try clear c32); (try clear c32b0); (try clear c33); (try clear c33b0); (try clear c35); (try clear c35b0); (try clear c35b1); (try clear c36); (try clear p36); (try clear q36); (try clear hx36); (try clear z11_0 z11_1 z11_2 z11_3 z11_4); (try clear z13_0 z13_1 z13_2 z13_3 z13_4); (try clear z15_0 z15_1 z15_2 z15_3 z15_4); (try clear z17_0 z17_1 z17_2 z17_3 z17_4); (try clear z18_0 z18_1 z18_2 z18_3 z18_4); (try clear z22_0 z22_1 z22_2 z22_3 z22_4); try clear z25_0 z25_1 z25_2 z25_3 z25_4
                (try clear z26_0 z26_1 z26_2 z26_3 z26_4); (try clear z29_0 z29_1 z29_2 z29_3 z29_4); (try clear z30_0 z30_1 z30_2 z30_3 z30_4); (try clear z36_0 z36_1 z36_2 z36_3 z36_4); (try clear z38_0 z38_1 z38_2 z38_3 z38_4); (try clear z40_0 z40_1 z40_2 z40_3 z40_4); (try clear z5_0 z5_1 z5_2 z5_3 z5_4); (try clear z6_0 z6_1 z6_2 z6_3 z6_4); (try clear z9_0 z9_1 z9_2 z9_3 z9_4); (try clear y11_0 y11_1 y11_2 y11_3 y11_4); (try clear y13_0 y13_1 y13_2 y13_3 y13_4); (try clear y15_0 y15_1 y15_2 y15_3 y15_4); (try clear y17_0 y17_1 y17_2 y17_3 y17_4); (try clear y18_0 y18_1 y18_2 y18_3 y18_4); (try clear y22_0 y22_1 y22_2 y22_3 y22_4); (try clear y25_0 y25_1 y25_2 y25_3 y25_4); (try clear y26_0 y26_1 y26_2 y26_3 y26_4); (try clear y29_0 y29_1 y29_2 y29_3 y29_4); try clear y30_0 y30_1 y30_2 y30_3 y30_4
                (try clear y36_0 y36_1 y36_2 y36_3 y36_4); (try clear y38_0 y38_1 y38_2 y38_3 y38_4); (try clear y40_0 y40_1 y40_2 y40_3 y40_4); (try clear y5_0 y5_1 y5_2 y5_3 y5_4); (try clear y6_0 y6_1 y6_2 y6_3 y6_4); (try clear y9_0 y9_1 y9_2 y9_3 y9_4); (try clear hx364_0); (try clear hx364_1); (try clear hx364_2); (try clear hx364_3); (try clear p2); (try clear p364); (try clear q364); obtain ⟨x8_6, rfl, HA, HK6, BK361, HB⟩ := hrel
                cases gk with
                | zero => exact absurd HA.out (by simp [sequiturref08_parts.l1])
                | succ k6 =>
                 have H := HA.out; clear HA; simp only [sequiturref08_parts.l1] at H
                 by_cases c41 : x8_6 < (l0_4.length : Int)
                 ·rw [if_pos c41] at H
                  have c41b0 : decide (x8_6 < (l0_4.length : Int)) = true := decide_eq_true c41; clear c41
                  by_cases c42 : 0 ≤ x8_6
                  ·rw [if_pos c42] at H
                   have c42b0 : decide (0 ≤ x8_6) = true := decide_eq_true c42; clear c42; obtain ⟨t367, A43, H⟩ := bO H
                   by_cases c44 : t367 = 0
                   ·rw [if_pos c44] at H
                    have c44b0 := beq_iff_eq.mpr c44; have c44b1 := bne_eq_false_iff_eq.mpr c44; clear c44; have H' := am H; clear H; obtain ⟨z45_0, z45_1, z45_2, z45_3, z45_4, y45_0, y45_1, y45_2, y45_3, y45_4⟩ := y5 BK361; have p366 : 0 ≤ (x8_6 : Int) := of_decide_eq_true eA; have q366 : x8_6 < (l0_4.length : Int) := of_decide_eq_true eA; obtain ⟨ad366, A366_3, c366_3, A366_4, c366_4, e366, hx366_0, hx366_1, hx366_2, hx366_3, hx366_4, hl366_3, hi366_3, hl366_4, hi366_4⟩ := at_T30 HR0_4.out x8_6 p366 q366
                    cases e366
                    replace hx366_0 := cX HB hx366_0; replace hx366_1 := cX HB hx366_1; replace hx366_2 := cX HB hx366_2; replace hx366_3 := cX HB hx366_3; replace hx366_4 := cX HB hx366_4; have HR366_3 := am hi366_3; have HC366_3 := am hl366_3; clear hi366_3 hl366_3; have HR366_4 := am hi366_4; have HC366_4 := am hl366_4; clear hi366_4 hl366_4; replace p366 := eq_true p366; replace q366 := eq_true q366
                    go_wp2_with (first | ((with_reducible refine gate_callee (f := 31) rfl ?_); refine gL 103 Tryd.func31 #[.agg #[.int .i64 ((rd_T30 l0_4 x8_6).f0), .string ((rd_T30 l0_4 x8_6).f1), .string ((rd_T30 l0_4 x8_6).f2), .slice A366_3 ((rd_T30 l0_4 x8_6).f3).length c366_3, .slice A366_4 ((rd_T30 l0_4 x8_6).f4).length c366_4]] ?_; (with_reducible refine (ih k6 (by have := HJ1.out; have := HJ6.out; have := HJ20.out; have := HJ26.out; have := HK5.out; have := HK6.out; omega) ((rd_T30 l0_4 x8_6).f0) ((rd_T30 l0_4 x8_6).f1) ((rd_T30 l0_4 x8_6).f2) _ _ ((rd_T30 l0_4 x8_6).f3) _ _ ((rd_T30 l0_4 x8_6).f4) t367 _ ?side1 HC366_3.out ?side3 HC366_4.out A43.out).mono ?_); (case side1 => exact cB HR366_3); (case side3 => exact cB HR366_4); rintro e w46 ⟨rfl, hb⟩; refine ⟨_, rfl, ?_⟩; replace BK361 := bK BK361 hb; replace HB := bH hb; clear hb))
                    go_roundg k6
                    case measure => have := HJ1.out; have := HJ6.out; have := HJ20.out; have := HJ26.out; have := HK5.out; have := HK6.out; omega
                    case rel => exact ⟨(wrap64 (x8_6 + 1)), eS, H', ⟨by have := HJ1.out; have := HJ6.out; have := HJ20.out; have := HJ26.out; have := HK5.out; have := HK6.out; omega⟩, ⟨bD BK361⟩, ⟨bB⟩⟩
                   ·rw [if_neg c44] at H
                    have c44b0 := beq_eq_false_iff_ne.mpr c44; have c44b1 := bne_iff_ne.mpr c44; obtain rfl := Option.some.inj H; obtain ⟨z47_0, z47_1, z47_2, z47_3, z47_4, y47_0, y47_1, y47_2, y47_3, y47_4⟩ := y5 BK361; have p366 : 0 ≤ (x8_6 : Int) := of_decide_eq_true eA; have q366 : x8_6 < (l0_4.length : Int) := of_decide_eq_true eA; obtain ⟨ad366, A366_3, c366_3, A366_4, c366_4, e366, hx366_0, hx366_1, hx366_2, hx366_3, hx366_4, hl366_3, hi366_3, hl366_4, hi366_4⟩ := at_T30 HR0_4.out x8_6 p366 q366
                    cases e366
                    replace hx366_0 := cX HB hx366_0; replace hx366_1 := cX HB hx366_1; replace hx366_2 := cX HB hx366_2; replace hx366_3 := cX HB hx366_3; replace hx366_4 := cX HB hx366_4; have HR366_3 := am hi366_3; have HC366_3 := am hl366_3; clear hi366_3 hl366_3; have HR366_4 := am hi366_4; have HC366_4 := am hl366_4; clear hi366_4 hl366_4; replace p366 := eq_true p366; replace q366 := eq_true q366
                    go_wp2_with (first | ((with_reducible refine gate_callee (f := 31) rfl ?_); refine gL 103 Tryd.func31 #[.agg #[.int .i64 ((rd_T30 l0_4 x8_6).f0), .string ((rd_T30 l0_4 x8_6).f1), .string ((rd_T30 l0_4 x8_6).f2), .slice A366_3 ((rd_T30 l0_4 x8_6).f3).length c366_3, .slice A366_4 ((rd_T30 l0_4 x8_6).f4).length c366_4]] ?_; (with_reducible refine (ih k6 (by have := HJ1.out; have := HJ6.out; have := HJ20.out; have := HJ26.out; have := HK5.out; have := HK6.out; omega) ((rd_T30 l0_4 x8_6).f0) ((rd_T30 l0_4 x8_6).f1) ((rd_T30 l0_4 x8_6).f2) _ _ ((rd_T30 l0_4 x8_6).f3) _ _ ((rd_T30 l0_4 x8_6).f4) t367 _ ?side1 HC366_3.out ?side3 HC366_4.out A43.out).mono ?_); (case side1 => exact cB HR366_3); (case side3 => exact cB HR366_4); rintro e w48 ⟨rfl, hb⟩; refine ⟨_, rfl, ?_⟩; replace BK361 := bK BK361 hb; replace HB := bH hb; clear hb))
                    go_ret; exact ⟨eW, bB⟩
                  ·rw [if_neg c42] at H
                   exact absurd H (by simp)
                 ·rw [if_neg c41] at H
                  have c41b0 : decide (x8_6 < (l0_4.length : Int)) = false := decide_eq_false c41; clear c41; obtain rfl := Option.some.inj H; obtain ⟨z49_0, z49_1, z49_2, z49_3, z49_4, y49_0, y49_1, y49_2, y49_3, y49_4⟩ := y5 BK361; go_wp2; go_ret; exact ⟨eW, bB⟩
end Go.Proofs.YtmlkllbaehegjaaDoor.PAll
end
section
namespace Go.Proofs.YtmlkllbaehegjaaDoor.PAll
open Go.RowKit Go.Proofs.YtmlkllbaehegjaaDoorW.PrintWords Go.Proofs.YtmlkllbaehegjaaDoorW.PrintLast Go.Proofs.YtmlkllbaehegjaaDoorW.PrintMore
attribute [local go_sem] max2_int min2_int max_two min_two max_three min_three max_four min_four
set_option linter.unusedVariables false
set_option linter.unusedSimpArgs false
/-! ### sequiturref08_Right: function 13 -/
def sequiturref08_Right.f (k : Nat) (a0_0 : Int) (a0_1 : ByteArray) (a0_2 : ByteArray) (l0_3 : List (S53)) (l0_4 : List (S30)) : Option (Int) := (sequiturref08_Depth.f k a0_0 a0_1 a0_2 l0_3 l0_4).bind fun t369 => (if t369 > 64 then (some 6) else ((sequiturref08_Size.f k a0_0 a0_1 a0_2 l0_3 l0_4).bind fun t370 => (if t370 > 4096 then (some 2) else ((sequiturref08_parts.f k a0_0 a0_1 a0_2 l0_3 l0_4).bind fun t371 => (some t371)))))
set_option maxHeartbeats 8000000 in
set_option maxRecDepth 100000 in
theorem sequiturref08_Right.calls (k : Nat) (a0_0 : Int) (a0_1 : ByteArray) (a0_2 : ByteArray) (A0_3 : Option Addr) (c0_3 : Nat) (l0_3 : List (S53)) (A0_4 : Option Addr) (c0_4 : Nat) (l0_4 : List (S30)) (r : Int) (w : World) (hr0_3 : Kd.C k53 w A0_3 l0_3.length l0_3) (hc0_3 : l0_3.length ≤ c0_3) (hr0_4 : Kd.C k30 w A0_4 l0_4.length l0_4) (hc0_4 : l0_4.length ≤ c0_4) (h : sequiturref08_Right.f k a0_0 a0_1 a0_2 l0_3 l0_4 = some r) :
    Calls Tryd.prog 13 #[.agg #[.int .i64 a0_0, .string a0_1, .string a0_2, .slice A0_3 l0_3.length c0_3, .slice A0_4 l0_4.length c0_4]] w fun e w' => e = .returned (.int .i64 r) ∧ Below w.heap.size w w' := by
  have hu30 := Tryd.underlying30; have HR0_3 := am hr0_3; have HC0_3 := am hc0_3; clear hr0_3 hc0_3; have HR0_4 := am hr0_4; have HC0_4 := am hc0_4; clear hr0_4 hc0_4; have HB := am (Below.refl w.heap.size w); have H := h; unfold sequiturref08_Right.f at H; clear h; obtain ⟨t369, A2, H⟩ := bO H
  by_cases c3 : t369 > 64
  ·rw [if_pos c3] at H
   have c3b0 : decide (64 < t369) = true := decide_eq_true c3; clear c3; obtain rfl := Option.some.inj H
   go_enter Tryd.func13, Tryd.ntmps13
   go_wp2_with (first | ((with_reducible refine gate_dst (N := 1) rfl ?_); refine bE 1 #[.int .i64 a0_0, .string a0_1, .string a0_2, .slice A0_3 l0_3.length c0_3, .slice A0_4 l0_4.length c0_4] 30 ?_; intro gb368 w4 BK368 hg hb; have GW368 := bZ hg; have GE368 := bZ hg; replace HB := bH hb; clear hb hg; obtain ⟨z5_0, z5_1, z5_2, z5_3, z5_4, y5_0, y5_1, y5_2, y5_3, y5_4⟩ := y5 BK368) | ((with_reducible refine gate_callee (f := 29) rfl ?_); refine gL 4 Tryd.func29 #[.agg #[.int .i64 a0_0, .string a0_1, .string a0_2, .slice A0_3 l0_3.length c0_3, .slice A0_4 l0_4.length c0_4]] ?_; (with_reducible refine (sequiturref08_Depth.calls k a0_0 a0_1 a0_2 _ _ l0_3 _ _ l0_4 t369 _ ?side1 HC0_3.out ?side3 HC0_4.out A2.out).mono ?_); (case side1 => exact cB HR0_3); (case side3 => exact cB HR0_4); rintro e w6 ⟨rfl, hb⟩; refine ⟨_, rfl, ?_⟩; replace BK368 := bK BK368 hb; replace HB := bH hb; clear hb))
   go_ret; exact ⟨eW, bB⟩
  ·rw [if_neg c3] at H
   have c3b0 : decide (64 < t369) = false := decide_eq_false c3; clear c3; obtain ⟨t370, A7, H⟩ := bO H
   by_cases c8 : t370 > 4096
   ·rw [if_pos c8] at H
    have c8b0 : decide (4096 < t370) = true := decide_eq_true c8; clear c8; obtain rfl := Option.some.inj H
    go_enter Tryd.func13, Tryd.ntmps13
    go_wp2_with (first | ((with_reducible refine gate_dst (N := 1) rfl ?_); refine bE 1 #[.int .i64 a0_0, .string a0_1, .string a0_2, .slice A0_3 l0_3.length c0_3, .slice A0_4 l0_4.length c0_4] 30 ?_; intro gb368 w9 BK368 hg hb; have GW368 := bZ hg; have GE368 := bZ hg; replace HB := bH hb; clear hb hg; obtain ⟨z10_0, z10_1, z10_2, z10_3, z10_4, y10_0, y10_1, y10_2, y10_3, y10_4⟩ := y5 BK368) | ((with_reducible refine gate_callee (f := 29) rfl ?_); refine gL 4 Tryd.func29 #[.agg #[.int .i64 a0_0, .string a0_1, .string a0_2, .slice A0_3 l0_3.length c0_3, .slice A0_4 l0_4.length c0_4]] ?_; (with_reducible refine (sequiturref08_Depth.calls k a0_0 a0_1 a0_2 _ _ l0_3 _ _ l0_4 t369 _ ?side1 ?side2 ?side3 ?side4 A2.out).mono ?_); (case side1 => exact cB HR0_3); (case side2 => exact HC0_3.out); (case side3 => exact cB HR0_4); (case side4 => exact HC0_4.out); rintro e w11 ⟨rfl, hb⟩; refine ⟨_, rfl, ?_⟩; replace BK368 := bK BK368 hb; replace HB := bH hb; clear hb; obtain ⟨z12_0, z12_1, z12_2, z12_3, z12_4, y12_0, y12_1, y12_2, y12_3, y12_4⟩ := y5 BK368) | ((with_reducible refine gate_callee (f := 30) rfl ?_); refine gL 7 Tryd.func30 #[.agg #[.int .i64 a0_0, .string a0_1, .string a0_2, .slice A0_3 l0_3.length c0_3, .slice A0_4 l0_4.length c0_4]] ?_; (with_reducible refine (sequiturref08_Size.calls k a0_0 a0_1 a0_2 _ _ l0_3 _ _ l0_4 t370 _ ?side1 ?side2 ?side3 ?side4 A7.out).mono ?_); (case side1 => exact cB HR0_3); (case side2 => exact HC0_3.out); (case side3 => exact cB HR0_4); (case side4 => exact HC0_4.out); rintro e w13 ⟨rfl, hb⟩; refine ⟨_, rfl, ?_⟩; replace BK368 := bK BK368 hb; replace HB := bH hb; clear hb))
    go_ret; exact ⟨eW, bB⟩
   ·rw [if_neg c8] at H
    have c8b0 : decide (4096 < t370) = false := decide_eq_false c8; clear c8; obtain ⟨t371, A14, H⟩ := bO H; obtain rfl := Option.some.inj H
    go_enter Tryd.func13, Tryd.ntmps13
    go_wp2_with (first | ((with_reducible refine gate_dst (N := 1) rfl ?_); refine bE 1 #[.int .i64 a0_0, .string a0_1, .string a0_2, .slice A0_3 l0_3.length c0_3, .slice A0_4 l0_4.length c0_4] 30 ?_; intro gb368 w15 BK368 hg hb; have GW368 := bZ hg; have GE368 := bZ hg; replace HB := bH hb; clear hb hg; obtain ⟨z16_0, z16_1, z16_2, z16_3, z16_4, y16_0, y16_1, y16_2, y16_3, y16_4⟩ := y5 BK368) | ((with_reducible refine gate_callee (f := 29) rfl ?_); refine gL 4 Tryd.func29 #[.agg #[.int .i64 a0_0, .string a0_1, .string a0_2, .slice A0_3 l0_3.length c0_3, .slice A0_4 l0_4.length c0_4]] ?_; (with_reducible refine (sequiturref08_Depth.calls k a0_0 a0_1 a0_2 _ _ l0_3 _ _ l0_4 t369 _ ?side1 ?side2 ?side3 ?side4 A2.out).mono ?_); (case side1 => exact cB HR0_3); (case side2 => exact HC0_3.out); (case side3 => exact cB HR0_4); (case side4 => exact HC0_4.out); rintro e w17 ⟨rfl, hb⟩; refine ⟨_, rfl, ?_⟩; replace BK368 := bK BK368 hb; replace HB := bH hb; clear hb; obtain ⟨z18_0, z18_1, z18_2, z18_3, z18_4, y18_0, y18_1, y18_2, y18_3, y18_4⟩ := y5 BK368) | ((with_reducible refine gate_callee (f := 30) rfl ?_); refine gL 7 Tryd.func30 #[.agg #[.int .i64 a0_0, .string a0_1, .string a0_2, .slice A0_3 l0_3.length c0_3, .slice A0_4 l0_4.length c0_4]] ?_; (with_reducible refine (sequiturref08_Size.calls k a0_0 a0_1 a0_2 _ _ l0_3 _ _ l0_4 t370 _ ?side1 ?side2 ?side3 ?side4 A7.out).mono ?_); (case side1 => exact cB HR0_3); (case side2 => exact HC0_3.out); (case side3 => exact cB HR0_4); (case side4 => exact HC0_4.out); rintro e w19 ⟨rfl, hb⟩; refine ⟨_, rfl, ?_⟩; replace BK368 := bK BK368 hb; replace HB := bH hb; clear hb; obtain ⟨z20_0, z20_1, z20_2, z20_3, z20_4, y20_0, y20_1, y20_2, y20_3, y20_4⟩ := y5 BK368) | ((with_reducible refine gate_callee (f := 31) rfl ?_); refine gL 10 Tryd.func31 #[.agg #[.int .i64 a0_0, .string a0_1, .string a0_2, .slice A0_3 l0_3.length c0_3, .slice A0_4 l0_4.length c0_4]] ?_; (with_reducible refine (sequiturref08_parts.calls k a0_0 a0_1 a0_2 _ _ l0_3 _ _ l0_4 t371 _ ?side1 ?side2 ?side3 ?side4 A14.out).mono ?_); (case side1 => exact cB HR0_3); (case side2 => exact HC0_3.out); (case side3 => exact cB HR0_4); (case side4 => exact HC0_4.out); rintro e w21 ⟨rfl, hb⟩; refine ⟨_, rfl, ?_⟩; replace BK368 := bK BK368 hb; replace HB := bH hb; clear hb))
    go_ret; exact ⟨eW, bB⟩
end Go.Proofs.YtmlkllbaehegjaaDoor.PAll
end
section
namespace Go.Proofs.YtmlkllbaehegjaaDoor.PAll
open Go.RowKit Go.Proofs.YtmlkllbaehegjaaDoorW.PrintWords Go.Proofs.YtmlkllbaehegjaaDoorW.PrintLast Go.Proofs.YtmlkllbaehegjaaDoorW.PrintMore
attribute [local go_sem] max2_int min2_int max_two min_two max_three min_three max_four min_four   -- for this text's walks alone
set_option linter.unusedVariables false
set_option linter.unusedSimpArgs false
/-! ### sequiturbase_Size: function 61 -/
mutual
def sequiturbase_Size.l0 : Nat → Int → Int → Int → Int → ByteArray → Int → List (S53) → Option (Int)
  | 0, _, _, _, _, _, _, _ => none
  | k + 1, x1, x5, x6, x373000, x373001, x373002, x373003 => if x6 < (x373003.length : Int) then (if x5 ≤ x1 then (if 0 ≤ x6 then ((sequiturbase_Size.f k ((rd_T53 x373003 x6).f0) ((rd_T53 x373003 x6).f1) ((rd_T53 x373003 x6).f2) ((rd_T53 x373003 x6).f3) (wrap64 (x1 - x5))).bind fun t374 => (sequiturbase_Size.l0 k x1 (wrap64 (x5 + t374)) (wrap64 (x6 + 1)) x373000 x373001 x373002 x373003)) else (none)) else (some x5)) else (some x5)
def sequiturbase_Size.f : Nat → Int → ByteArray → Int → List (S53) → Int → Option (Int)
  | 0, _, _, _, _, _ => none
  | k + 1, a0_0, a0_1, a0_2, l0_3, a1 => sequiturbase_Size.l0 k a1 1 0 a0_0 a0_1 a0_2 l0_3
end
set_option maxHeartbeats 8000000 in
set_option maxRecDepth 100000 in
theorem sequiturbase_Size.calls (k : Nat) : ∀ (a0_0 : Int) (a0_1 : ByteArray) (a0_2 : Int) (A0_3 : Option Addr) (c0_3 : Nat) (l0_3 : List (S53)) (a1 : Int) (r : Int) (w : World) (hr0_3 : Kd.C k53 w A0_3 l0_3.length l0_3) (hc0_3 : l0_3.length ≤ c0_3) (h : sequiturbase_Size.f k a0_0 a0_1 a0_2 l0_3 a1 = some r),
    Calls Tryd.prog 61 #[.agg #[.int .i64 a0_0, .string a0_1, .int .i64 a0_2, .slice A0_3 l0_3.length c0_3], .int .i64 a1] w fun e w' => e = .returned (.int .i64 r) ∧ Below w.heap.size w w' := by
  induction k using Nat.strongRecOn with
  | _ k ih =>
  intro a0_0 a0_1 a0_2 A0_3 c0_3 l0_3 a1 r w hr0_3 hc0_3 h
  cases k with
  | zero => exact absurd h (by simp [sequiturbase_Size.f])
  | succ k =>
  simp only [sequiturbase_Size.f] at h; have hu53 := Tryd.underlying53; have HR0_3 := am hr0_3; have HC0_3 := am hc0_3; clear hr0_3 hc0_3; have HB := am (Below.refl w.heap.size w); have H := h; clear h; have H' := am H; clear H
  go_enter Tryd.func61, Tryd.ntmps61
  go_wp2_with (first | ((with_reducible refine gate_dst (N := 2) rfl ?_); refine bE 2 #[.int .i64 a0_0, .string a0_1, .int .i64 a0_2, .slice A0_3 l0_3.length c0_3] 53 ?_; intro gb372 w3 BK372 hg hb; have GW372 := bZ hg; have GE372 := bZ hg; replace HB := bH hb; clear hb hg))
  go_loopg [5, 6] k (fun kq v5 v6 w' => ∃ (x5_1 : Int) (x6_1 : Int), v5 = .int .i64 x5_1 ∧ v6 = .int .i64 x6_1 ∧ Aside0 (sequiturbase_Size.l0 kq a1 x5_1 x6_1 a0_0 a0_1 a0_2 l0_3 = some r) ∧ Aside0 (kq ≤ k) ∧ Aside0 (w'.heap[gb372]? = some (.cells #[.int .i64 a0_0, .string a0_1, .int .i64 a0_2, (.slice A0_3 l0_3.length c0_3)] 53 (0, 0))) ∧ Aside0 (Below w.heap.size w w'))
  case atStart => exact ⟨(1), (0), eS, eS, H', ⟨Nat.le_refl _⟩, ⟨bD BK372⟩, ⟨bB⟩⟩
  case round =>
   clear H'; (try clear p2); obtain ⟨x5_1, x6_1, rfl, rfl, HA, HK1, BK372, HB⟩ := hrel
   cases gk with
   | zero => exact absurd HA.out (by simp [sequiturbase_Size.l0])
   | succ k1 =>
    have H := HA.out; clear HA; simp only [sequiturbase_Size.l0] at H
    by_cases c4 : x6_1 < (l0_3.length : Int)
    ·rw [if_pos c4] at H
     have c4b0 : decide (x6_1 < (l0_3.length : Int)) = true := decide_eq_true c4; clear c4
     by_cases c5 : x5_1 ≤ a1
     ·rw [if_pos c5] at H
      have c5b0 : decide (x5_1 ≤ a1) = true := decide_eq_true c5; clear c5
      by_cases c6 : 0 ≤ x6_1
      ·rw [if_pos c6] at H
       have c6b0 : decide (0 ≤ x6_1) = true := decide_eq_true c6; clear c6; obtain ⟨t374, A7, H⟩ := bO H; have H' := am H; clear H; obtain ⟨z8_0, z8_1, z8_2, z8_3, y8_0, y8_1, y8_2, y8_3⟩ := y4 BK372; have p373 : 0 ≤ (x6_1 : Int) := of_decide_eq_true eA; have q373 : x6_1 < (l0_3.length : Int) := of_decide_eq_true eA; obtain ⟨ad373, A373_3, c373_3, e373, hx373_0, hx373_1, hx373_2, hx373_3, hl373_3, hi373_3⟩ := at_T53 HR0_3.out x6_1 p373 q373
       cases e373
       replace hx373_0 := cX HB hx373_0; replace hx373_1 := cX HB hx373_1; replace hx373_2 := cX HB hx373_2; replace hx373_3 := cX HB hx373_3; have HR373_3 := am hi373_3; have HC373_3 := am hl373_3; clear hi373_3 hl373_3; replace p373 := eq_true p373; replace q373 := eq_true q373
       go_wp2_with (first | ((with_reducible refine gate_callee (f := 61) rfl ?_); refine gL 28 Tryd.func61 #[.agg #[.int .i64 ((rd_T53 l0_3 x6_1).f0), .string ((rd_T53 l0_3 x6_1).f1), .int .i64 ((rd_T53 l0_3 x6_1).f2), .slice A373_3 ((rd_T53 l0_3 x6_1).f3).length c373_3], .int .i64 (wrap64 (a1 - x5_1))] ?_; (with_reducible refine (ih k1 (by have := HK1.out; omega) ((rd_T53 l0_3 x6_1).f0) ((rd_T53 l0_3 x6_1).f1) ((rd_T53 l0_3 x6_1).f2) _ _ ((rd_T53 l0_3 x6_1).f3) (wrap64 (a1 - x5_1)) t374 _ ?side1 HC373_3.out A7.out).mono ?_); (case side1 => exact cB HR373_3); rintro e w9 ⟨rfl, hb⟩; refine ⟨_, rfl, ?_⟩; replace BK372 := bK BK372 hb; replace HB := bH hb; clear hb))
       go_roundg k1
       case measure => have := HK1.out; omega
       case rel => exact ⟨(wrap64 (x5_1 + t374)), (wrap64 (x6_1 + 1)), eS, eS, H', ⟨by have := HK1.out; omega⟩, ⟨bD BK372⟩, ⟨bB⟩⟩
      ·rw [if_neg c6] at H
       exact absurd H (by simp)
     ·rw [if_neg c5] at H
      have c5b0 : decide (x5_1 ≤ a1) = false := decide_eq_false c5; clear c5; obtain rfl := Option.some.inj H; obtain ⟨z10_0, z10_1, z10_2, z10_3, y10_0, y10_1, y10_2, y10_3⟩ := y4 BK372; go_wp2; go_ret; exact ⟨eW, bB⟩
    ·rw [if_neg c4] at H
     have c4b0 : decide (x6_1 < (l0_3.length : Int)) = false := decide_eq_false c4; clear c4; obtain rfl := Option.some.inj H; obtain ⟨z11_0, z11_1, z11_2, z11_3, y11_0, y11_1, y11_2, y11_3⟩ := y4 BK372; go_wp2; go_ret; exact ⟨eW, bB⟩
end Go.Proofs.YtmlkllbaehegjaaDoor.PAll
end
