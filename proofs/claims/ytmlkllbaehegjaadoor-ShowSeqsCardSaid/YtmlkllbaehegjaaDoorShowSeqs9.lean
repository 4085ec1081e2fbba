import Derived.Test.YtmlkllbaehegjaaDoorShowSeqs2
import Derived.Test.YtmlkllbaehegjaaDoorShowSeqs3
import Derived.Test.YtmlkllbaehegjaaDoorShowSeqs8
section
namespace Go.Proofs.YtmlkllbaehegjaaDoor.PAll
open Go.RowKit Go.Proofs.YtmlkllbaehegjaaDoorW.PrintWords Go.Proofs.YtmlkllbaehegjaaDoorW.PrintLast Go.Proofs.YtmlkllbaehegjaaDoorW.PrintMore
attribute [local go_sem] max2_int min2_int max_two min_two max_three min_three max_four min_four
set_option linter.unusedVariables false
set_option linter.unusedSimpArgs false
def sequiturref14_term.T6 : Bool × List (List Nat × List Nat) := (true, [([], []), ([0], [0]), ([], []), ([2], [2]), ([], []), ([3, 4], [3, 4]), ([5, 5], [5]), ([1, 6], [1, 6]), ([7, 6, 0, 1, 2, 3, 4, 5, 6, 7], [7])])
def sequiturref14_term.B6 : List Nat := [0, 1, 0, 4, 0, 28, 60, 127, 255]
theorem sequiturref14_term.tab6 : rtab .any (opsOf Tryd.f68 6) = sequiturref14_term.T6 := by kernel_rfl
theorem sequiturref14_term.bits6 : waitsOk sequiturref14_term.T6.2 sequiturref14_term.B6 = true := by kernel_rfl
def sequiturref14_term.T15 : Bool × List (List Nat × List Nat) := (true, [([], []), ([0], [0]), ([1], [1]), ([2], [2]), ([], []), ([3, 4], [3, 4]), ([5], [5]), ([], []), ([7], [7]), ([8], [8]), ([9], [9]), ([], []), ([], []), ([12], [12]), ([13], [13]), ([14], [14]), ([15, 5], [15]), ([10, 11, 16, 16], [10, 11, 16]), ([6, 17], [6, 17]), ([18, 17, 0, 1, 2, 3, 4, 5, 6, 7, 8, 9, 10, 11, 12, 13, 14, 15, 16, 17, 18], [18])])
def sequiturref14_term.B15 : List Nat := [0, 1, 3, 7, 0, 31, 63, 0, 128, 384, 896, 0, 0, 4096, 12288, 28672, 61503, 131007, 262143, 524287]
theorem sequiturref14_term.tab15 : rtab .any (opsOf Tryd.f68 15) = sequiturref14_term.T15 := by kernel_rfl
theorem sequiturref14_term.bits15 : waitsOk sequiturref14_term.T15.2 sequiturref14_term.B15 = true := by kernel_rfl
def sequiturref14_term.T17 : Bool × List (List Nat × List Nat) := (true, [([], []), ([0], [0]), ([1], [1]), ([2], [2]), ([], []), ([3, 4], [3, 4]), ([5], [5]), ([], []), ([7], [7]), ([8], [8]), ([9], [9]), ([], []), ([], []), ([12], [12]), ([13], [13]), ([14], [14]), ([15, 5], [15]), ([10, 11, 16, 16], [10, 11, 16]), ([6, 17], [6, 17]), ([18, 17, 0, 1, 2, 3, 4, 5, 6, 7, 8, 9, 10, 11, 12, 13, 14, 15, 16, 17, 18], [18])])
def sequiturref14_term.B17 : List Nat := [0, 1, 3, 7, 0, 31, 63, 0, 128, 384, 896, 0, 0, 4096, 12288, 28672, 61503, 131007, 262143, 524287]
theorem sequiturref14_term.tab17 : rtab .any (opsOf Tryd.f68 17) = sequiturref14_term.T17 := by kernel_rfl
theorem sequiturref14_term.bits17 : waitsOk sequiturref14_term.T17.2 sequiturref14_term.B17 = true := by kernel_rfl
def sequiturref14_term.T20 : Bool × List (List Nat × List Nat) := (true, [([], []), ([], []), ([], []), ([2], [2]), ([3, 3], [3]), ([4], [4]), ([5, 4], [4, 5]), ([6, 4], [4, 6]), ([4, 7], [4, 7]), ([8, 4], [8]), ([9], [9]), ([10, 9], [9, 10]), ([11, 9], [9, 11]), ([9, 12], [9, 12]), ([0, 1, 13, 9], [0, 1, 13]), ([14], [14]), ([15, 14, 0, 1, 2, 3, 4, 5, 6, 7, 8, 9, 10, 11, 12, 13, 14, 15], [15])])
def sequiturref14_term.B20 : List Nat := [0, 0, 0, 4, 12, 28, 60, 124, 252, 508, 1020, 2044, 4092, 8188, 16383, 32767, 65535]
theorem sequiturref14_term.tab20 : rtab .any (opsOf Tryd.f68 20) = sequiturref14_term.T20 := by kernel_rfl
theorem sequiturref14_term.bits20 : waitsOk sequiturref14_term.T20.2 sequiturref14_term.B20 = true := by kernel_rfl
def sequiturref14_term.T25 : Bool × List (List Nat × List Nat) := (true, [([], []), ([0], [0]), ([], []), ([], []), ([], []), ([4], [4]), ([5, 5], [5]), ([6], [6]), ([7, 6], [6, 7]), ([8, 6], [6, 8]), ([6, 9], [6, 9]), ([2, 3, 10, 6], [2, 3, 10]), ([1, 11], [1, 11]), ([12, 11, 0, 1, 2, 3, 4, 5, 6, 7, 8, 9, 10, 11, 12], [12])])
def sequiturref14_term.B25 : List Nat := [0, 1, 0, 0, 0, 16, 48, 112, 240, 496, 1008, 2044, 4095, 8191]
theorem sequiturref14_term.tab25 : rtab .any (opsOf Tryd.f68 25) = sequiturref14_term.T25 := by kernel_rfl
theorem sequiturref14_term.bits25 : waitsOk sequiturref14_term.T25.2 sequiturref14_term.B25 = true := by kernel_rfl
set_option maxHeartbeats 8000000 in
set_option maxRecDepth 100000 in
theorem sequiturref14_term.step (k : Nat) (ih : ∀ j_, j_ < k → ∀ (a0_0 : Int) (a0_1 : ByteArray) (a0_2 : Int) (A0_3 : Option Addr) (c0_3 : Nat) (l0_3 : List (S53)) (A1 : Option Addr) (c1 : Nat) (l1 : List ByteArray) (r : ByteArray) (w : World) (hr0_3 : Kd.C k53 w A0_3 l0_3.length l0_3) (hc0_3 : l0_3.length ≤ c0_3) (hr1 : Kd.C Kd.string w A1 l1.length l1) (hc1 : l1.length ≤ c1) (h : sequiturref14_term.f j_ a0_0 a0_1 a0_2 l0_3 l1 = some r),
    Calls Tryd.prog 68 #[.agg #[.int .i64 a0_0, .string a0_1, .int .i64 a0_2, .slice A0_3 l0_3.length c0_3], .slice A1 l1.length c1] w fun e w' => e = .returned (.string r) ∧ Below w.heap.size w w') (ih_sequiturref14_list : ∀ j_, j_ < k → ∀ (A0 : Option Addr) (c0 : Nat) (l0 : List (S53)) (A1 : Option Addr) (c1 : Nat) (l1 : List ByteArray) (r : ByteArray) (w : World) (hr0 : Kd.C k53 w A0 l0.length l0) (hc0 : l0.length ≤ c0) (hr1 : Kd.C Kd.string w A1 l1.length l1) (hc1 : l1.length ≤ c1) (h : sequiturref14_list.f j_ l0 l1 = some r),
    Calls Tryd.prog 80 #[.slice A0 l0.length c0, .slice A1 l1.length c1] w fun e w' => e = .returned (.string r) ∧ Below w.heap.size w w') (ih_sequiturref14_side : ∀ j_, j_ < k → ∀ (a0_0 : Int) (a0_1 : ByteArray) (a0_2 : Int) (A0_3 : Option Addr) (c0_3 : Nat) (l0_3 : List (S53)) (A1 : Option Addr) (c1 : Nat) (l1 : List ByteArray) (a2 : Bool) (r : ByteArray) (w : World) (hr0_3 : Kd.C k53 w A0_3 l0_3.length l0_3) (hc0_3 : l0_3.length ≤ c0_3) (hr1 : Kd.C Kd.string w A1 l1.length l1) (hc1 : l1.length ≤ c1) (h : sequiturref14_side.f j_ a0_0 a0_1 a0_2 l0_3 l1 a2 = some r),
    Calls Tryd.prog 81 #[.agg #[.int .i64 a0_0, .string a0_1, .int .i64 a0_2, .slice A0_3 l0_3.length c0_3], .slice A1 l1.length c1, .bool a2] w fun e w' => e = .returned (.string r) ∧ Below w.heap.size w w') : ∀ (a0_0 : Int) (a0_1 : ByteArray) (a0_2 : Int) (A0_3 : Option Addr) (c0_3 : Nat) (l0_3 : List (S53)) (A1 : Option Addr) (c1 : Nat) (l1 : List ByteArray) (r : ByteArray) (w : World) (hr0_3 : Kd.C k53 w A0_3 l0_3.length l0_3) (hc0_3 : l0_3.length ≤ c0_3) (hr1 : Kd.C Kd.string w A1 l1.length l1) (hc1 : l1.length ≤ c1) (h : sequiturref14_term.f k a0_0 a0_1 a0_2 l0_3 l1 = some r),
    Calls Tryd.prog 68 #[.agg #[.int .i64 a0_0, .string a0_1, .int .i64 a0_2, .slice A0_3 l0_3.length c0_3], .slice A1 l1.length c1] w fun e w' => e = .returned (.string r) ∧ Below w.heap.size w w' := by
  intro a0_0 a0_1 a0_2 A0_3 c0_3 l0_3 A1 c1 l1 r w hr0_3 hc0_3 hr1 hc1 h
  cases k with
  | zero => exact absurd h (by simp [sequiturref14_term.f])
  | succ k =>
  simp only [sequiturref14_term.f] at h; have hu53 := Tryd.underlying53; have HR0_3 := am hr0_3; have HC0_3 := am hc0_3; clear hr0_3 hc0_3; have HR1 := am hr1; have HC1 := am hc1; clear hr1 hc1; have HB := am (Below.refl w.heap.size w); have H := h; clear h; have HC3 := am H; clear H
  go_enter Tryd.func68, Tryd.ntmps68
  go_upto_if 11 with (first | ((with_reducible refine gate_dst (N := 2) rfl ?_); refine bE 2 #[.int .i64 a0_0, .string a0_1, .int .i64 a0_2, .slice A0_3 l0_3.length c0_3] 53 ?_; intro gb478 w4 BK478 hg hb; have GW478 := bZ hg; have GE478 := bZ hg; replace HB := bH hb; clear hb hg; obtain ⟨z5_0, z5_1, z5_2, z5_3, y5_0, y5_1, y5_2, y5_3⟩ := y4 BK478))
  (try simp only [Act.put, List.setIfInBounds_toArray, List.set_cons_zero, List.set_cons_succ])
  go_cut [11] (fun v11 wc => ∃ (kq : Nat) (x11_2 : Bool), v11 = .bool x11_2 ∧ Aside0 (sequiturref14_term.j0 kq l1 a0_0 x11_2 a0_0 a0_1 a0_2 l0_3 = some r) ∧ Aside0 (kq ≤ k) ∧ Aside0 (wc.heap[gb478]? = some (.cells #[.int .i64 a0_0, .string a0_1, .int .i64 a0_2, (.slice A0_3 l0_3.length c0_3)] 53 (0, 0))) ∧ Aside0 (Below w.heap.size w wc))
  case first =>
   have H := HC3.out; clear HC3
   by_cases c6 : a0_0 = 1
   ·rw [if_pos c6] at H
    have c6b0 := beq_iff_eq.mpr c6; have c6b1 := bne_eq_false_iff_eq.mpr c6; clear c6; (first | rw [c6b0] | (simp only [i64_w, i32_w]; rw [c6b0]) | skip); have H' := am H; clear H; go_wp2; go_meet
    case rel => exact ⟨_, ((a0_0 == 1)), eS, H', ⟨eO⟩, ⟨bD BK478⟩, ⟨bB⟩⟩
   ·rw [if_neg c6] at H
    have c6b0 := beq_eq_false_iff_ne.mpr c6; have c6b1 := bne_iff_ne.mpr c6; (first | rw [c6b0] | (simp only [i64_w, i32_w]; rw [c6b0]) | skip); have H' := am H; clear H; go_wp2; go_meet
    case rel => exact ⟨_, ((a0_0 == 3)), eS, H', ⟨eO⟩, ⟨bD BK478⟩, ⟨bB⟩⟩
  case rest =>
   clear HC3; (try clear c1); (try clear p2); (try clear c6); (try clear c6b0); (try clear c6b1); (try clear z5_0 z5_1 z5_2 z5_3 y5_0 y5_1 y5_2 y5_3); obtain ⟨kq, x11_2, rfl, HA, HJ2, BK478, HB⟩ := hcut
   cases kq with
   | zero => exact absurd HA.out (by simp [sequiturref14_term.j0])
   | succ kj2 =>
    have H := HA.out; clear HA; simp only [sequiturref14_term.j0] at H
    by_cases c7 : x11_2 = true
    ·subst c7
     rw [if_pos rfl] at H
     by_cases c8 : (l0_3.length : Int) = 0
     ·rw [if_pos c8] at H
      have c8b0 := beq_iff_eq.mpr c8; have c8b1 := bne_eq_false_iff_eq.mpr c8; clear c8; obtain rfl := Option.some.inj H; obtain ⟨z9_0, z9_1, z9_2, z9_3, y9_0, y9_1, y9_2, y9_3⟩ := y4 BK478; go_wp2; go_ret; exact ⟨eW, bB⟩
     ·rw [if_neg c8] at H
      have c8b0 := beq_eq_false_iff_ne.mpr c8; have c8b1 := bne_iff_ne.mpr c8; have c8b2 : ¬ (l0_3 = []) := fun h_ => c8 (by rw [h_]; rfl)
      obtain ⟨t479, A10, H⟩ := bO H; obtain ⟨t480, A11, H⟩ := bO H
      by_cases c12 : a0_1.size + t480.size ≤ 9223372036854775807
      ·rw [if_pos c12] at H
       have c12b0 := eq_true c12; have c12b1 := decide_eq_true c12
       try have c12b2 := eq_false (Nat.not_lt.2 c12)
       obtain rfl := Option.some.inj H; obtain ⟨z13_0, z13_1, z13_2, z13_3, y13_0, y13_1, y13_2, y13_3⟩ := y4 BK478
       try go_wp2
       replace BK478 := am (blk_drew BK478.out); replace HB := am (below_drew1 HB.out); refine sS 9 (e4 BK478) fun hHeld => ?_
       refine with_tabW sequiturref14_term.tab6 sequiturref14_term.bits6 (fun HT_ HW_ => ?_); generalize wc.drew = w14 at BK478 HB hHeld ⊢
       refine pS 0 20 ?_; refine pS 2 22 ?_; refine pS 4 24 ?_; refine tS 1 21 ?_; refine tS 3 23 ?_; refine oS 5 25 fun K hK => ?_
       refine goS Tryd.func80 #[.slice A0_3 l0_3.length c0_3, .slice A1 l1.length c1] ?_; (with_reducible refine (ih_sequiturref14_list kj2 (by have := HJ2.out; omega) _ _ l0_3 _ _ l1 t479 _ ?side1 HC0_3.out ?side3 HC1.out A10.out).mono ?_); (case side1 => exact cB HR0_3); (case side3 => exact cB HR1); rintro e w15 ⟨rfl, hb⟩; refine ⟨_, rfl, ?_⟩; replace BK478 := bK BK478 hb; replace HB := bH hb; clear hb; refine hK.out _ _ (e4 BK478) fun hHeld => ?_
       clear hK K; refine nS 25 ?_; refine oS 6 26 fun K hK => ?_
       refine goS Tryd.func69 #[.string t479] ?_; (with_reducible refine (sequiturref14_brackets.calls t479 t480 _ A11.out).mono ?_); rintro e w' ⟨rfl, ⟨nd, rfl⟩⟩; refine ⟨_, rfl, ?_⟩; refine hK.out _ _ (e4 BK478) fun hHeld => ?_
       clear hK K; refine nS 26 ?_; refine pS 7 27 ?_; refine pS 8 4 ?_; refine done_ (done_of HT_.out (by kernel_rfl)) ?_
       try go_wp2
       go_ret; exact ⟨eW, bB⟩
      ·rw [if_neg c12] at H
       exact absurd H (by simp)
    ·replace c7 := Bool.eq_false_iff.mpr c7
     subst c7; rw [if_neg (show ¬ (false = true) by decide)] at H
     by_cases c16 : a0_0 = 2
     ·rw [if_pos c16] at H
      have c16b0 := beq_iff_eq.mpr c16; have c16b1 := bne_eq_false_iff_eq.mpr c16; clear c16
      by_cases c17 : a0_2 < (l1.length : Int)
      ·rw [if_pos c17] at H
       have c17b0 : decide (a0_2 < (l1.length : Int)) = true := decide_eq_true c17; clear c17; obtain ⟨ji18, hji18⟩ : ∃ j_ : Int, (wrap64 ((wrap64 ((l1.length : Int) - 1)) - a0_2)) = j_ := ⟨_, rfl⟩; replace H : (if 0 ≤ (ji18) then (if (ji18) < (l1.length : Int) then (some (rdOf ByteArray.empty l1 (ji18))) else (none)) else (none)) = some r := by first | (rw [hji18] at H; exact H) | (simp only [hji18] at H ⊢; exact H)
       have hji18w : (IntKind.i64.wrap ((wrap64 ((l1.length : Int) - 1)) - a0_2)) = ji18 := (i64_w _).trans hji18
       by_cases c19 : 0 ≤ (ji18)
       ·rw [if_pos c19] at H
        have c19b0 : decide (0 ≤ (ji18)) = true := decide_eq_true c19; clear c19
        by_cases c20 : (ji18) < (l1.length : Int)
        ·rw [if_pos c20] at H
         have c20b0 : decide ((ji18) < (l1.length : Int)) = true := decide_eq_true c20; clear c20; obtain rfl := Option.some.inj H; obtain ⟨z21_0, z21_1, z21_2, z21_3, y21_0, y21_1, y21_2, y21_3⟩ := y4 BK478; have p481 : 0 ≤ ((ji18) : Int) := of_decide_eq_true eA; have q481 : (ji18) < (l1.length : Int) := of_decide_eq_true eA; obtain ⟨ad481, e481, hx481_0⟩ := Kd.at_string HR1.out (ji18) p481 q481
         cases e481
         replace hx481_0 := cX HB hx481_0; replace p481 := eq_true p481; replace q481 := eq_true q481; go_wp2; go_ret; exact ⟨by first | rfl | (simp [errW_none, errW_some] <;> rfl) | (simp only [← hji18]; first | rfl | (simp [errW_none, errW_some] <;> rfl)) | (simp [*, errW_none, errW_some] <;> rfl), bB⟩
        ·rw [if_neg c20] at H
         exact absurd H (by simp)
       ·rw [if_neg c19] at H
        exact absurd H (by simp)
      ·rw [if_neg c17] at H
       have c17b0 : decide (a0_2 < (l1.length : Int)) = false := decide_eq_false c17; clear c17; obtain ⟨t482, A22, H⟩ := bO H
       by_cases c23 : 1 + t482.size ≤ 9223372036854775807
       ·rw [if_pos c23] at H
        have c23b0 := eq_true c23; have c23b1 := decide_eq_true c23
        try have c23b2 := eq_false (Nat.not_lt.2 c23)
        obtain rfl := Option.some.inj H; obtain ⟨z24_0, z24_1, z24_2, z24_3, y24_0, y24_1, y24_2, y24_3⟩ := y4 BK478
        go_wp2_with (first | ((with_reducible refine gate_callee (f := 24) rfl ?_); refine gL 48 Tryd.func24 #[.int .i64 (wrap64 (a0_2 - (l1.length : Int)))] ?_; (with_reducible refine (sequiturbase_Digits.calls kj2 (wrap64 (a0_2 - (l1.length : Int))) t482 _ A22.out).mono ?_); rintro e w25 ⟨rfl, hb⟩; refine ⟨_, rfl, ?_⟩; replace BK478 := bK BK478 hb; replace HB := bH hb; clear hb))
        go_ret; exact ⟨eW, bB⟩
       ·rw [if_neg c23] at H
        exact absurd H (by simp)
     ·rw [if_neg c16] at H
      have c16b0 := beq_eq_false_iff_ne.mpr c16; have c16b1 := bne_iff_ne.mpr c16
      by_cases c26 : a0_0 = 4
      ·rw [if_pos c26] at H
       have c26b0 := beq_iff_eq.mpr c26; have c26b1 := bne_eq_false_iff_eq.mpr c26; clear c26; obtain ⟨t483, A27, H⟩ := bO H; obtain rfl := Option.some.inj H; obtain ⟨z28_0, z28_1, z28_2, z28_3, y28_0, y28_1, y28_2, y28_3⟩ := y4 BK478
       go_wp2_with (first | ((with_reducible refine gate_callee (f := 24) rfl ?_); refine gL 54 Tryd.func24 #[.int .i64 a0_2] ?_; (with_reducible refine (sequiturbase_Digits.calls kj2 a0_2 t483 _ A27.out).mono ?_); rintro e w29 ⟨rfl, hb⟩; refine ⟨_, rfl, ?_⟩; replace BK478 := bK BK478 hb; replace HB := bH hb; clear hb))
       go_ret; exact ⟨eW, bB⟩
      ·rw [if_neg c26] at H
       have c26b0 := beq_eq_false_iff_ne.mpr c26; have c26b1 := bne_iff_ne.mpr c26
       by_cases c30 : a0_0 = 5
       ·rw [if_pos c30] at H
        have c30b0 := beq_iff_eq.mpr c30; have c30b1 := bne_eq_false_iff_eq.mpr c30; clear c30
        by_cases c31 : 0 < (l0_3.length : Int)
        ·rw [if_pos c31] at H
         have c31b0 : decide (0 < (l0_3.length : Int)) = true := decide_eq_true c31; have c31b1 : decide (0 < l0_3.length) = true := decide_eq_true (by omega); clear c31; obtain ⟨t485, A32, H⟩ := bO H
         by_cases c33 : t485.size + 3 ≤ 9223372036854775807
         ·rw [if_pos c33] at H
          have c33b0 := eq_true c33; have c33b1 := decide_eq_true c33
          try have c33b2 := eq_false (Nat.not_lt.2 c33)
          by_cases c34 : 1 < (l0_3.length : Int)
          ·rw [if_pos c34] at H
           have c34b0 : decide (1 < (l0_3.length : Int)) = true := decide_eq_true c34; have c34b1 : decide (1 < l0_3.length) = true := decide_eq_true (by omega); clear c34; obtain ⟨t488, A35, H⟩ := bO H; obtain ⟨t489, A36, H⟩ := bO H
           by_cases c37 : (t485 ++ (⟨#[32, 43, 32]⟩ : ByteArray)).size + t489.size ≤ 9223372036854775807
           ·rw [if_pos c37] at H
            have c37b0 := eq_true c37; have c37b1 := decide_eq_true c37; have c37n : t485.size + 3 + t489.size ≤ 9223372036854775807 := by have h_ := c37; simp only [ByteArray.size_append] at h_; have z0_ : (⟨#[32, 43, 32]⟩ : ByteArray).size = 3 := rfl; first | exact h_ | omega
            have c37b3 := eq_true c37n; have c37b4 : (9223372036854775807 < t485.size + 3 + t489.size) = False := eq_false (Nat.not_lt.2 c37n)
            try have c37b2 := eq_false (Nat.not_lt.2 c37)
            obtain rfl := Option.some.inj H
            try go_wp2
            replace BK478 := am (blk_drew BK478.out); replace HB := am (below_drew1 HB.out); have p484 : 0 ≤ (0 : Int) := (by omega); have q484 : 0 < (l0_3.length : Int) := of_decide_eq_true eA; obtain ⟨ad484, A484_3, c484_3, e484, hx484_0, hx484_1, hx484_2, hx484_3, hl484_3, hi484_3⟩ := at_T53 HR0_3.out 0 p484 q484; have hw484_3 := hx484_3; (try rw [show ((0 : Int)).toNat = 0 from rfl] at hw484_3); (try rw [show 0 * 4 = 0 from rfl] at hw484_3); (try rw [Addr.add_zero'] at hw484_3); have hw484_2 := hx484_2; (try rw [show ((0 : Int)).toNat = 0 from rfl] at hw484_2); (try rw [show 0 * 4 = 0 from rfl] at hw484_2); (try rw [Addr.add_zero'] at hw484_2); have hw484_1 := hx484_1; (try rw [show ((0 : Int)).toNat = 0 from rfl] at hw484_1); (try rw [show 0 * 4 = 0 from rfl] at hw484_1); (try rw [Addr.add_zero'] at hw484_1); have hw484_0 := hx484_0; (try rw [show ((0 : Int)).toNat = 0 from rfl] at hw484_0); (try rw [show 0 * 4 = 0 from rfl] at hw484_0)
            (try rw [Addr.add_zero'] at hw484_0)
            cases e484
            have qi484 : (0 < l0_3.length) = True := eq_true (by omega); (try rw [show ((0 : Int)).toNat = 0 from rfl] at hx484_0); (try rw [show 0 * 4 = 0 from rfl] at hx484_0); (try rw [Addr.add_zero'] at hx484_0); (try rw [show ((0 : Int)).toNat = 0 from rfl] at hx484_1); (try rw [show 0 * 4 = 0 from rfl] at hx484_1); (try rw [Addr.add_zero'] at hx484_1); (try rw [show ((0 : Int)).toNat = 0 from rfl] at hx484_2); (try rw [show 0 * 4 = 0 from rfl] at hx484_2); (try rw [Addr.add_zero'] at hx484_2); (try rw [show ((0 : Int)).toNat = 0 from rfl] at hx484_3); (try rw [show 0 * 4 = 0 from rfl] at hx484_3); (try rw [Addr.add_zero'] at hx484_3); replace hx484_0 := cX HB hx484_0; replace hx484_1 := cX HB hx484_1; replace hx484_2 := cX HB hx484_2; replace hx484_3 := cX HB hx484_3; have HR484_3 := am hi484_3; have HC484_3 := am hl484_3; clear hi484_3 hl484_3; replace p484 := eq_true p484; replace q484 := eq_true q484; have p486 : 0 ≤ (1 : Int) := (by omega)
            have q486 : 1 < (l0_3.length : Int) := of_decide_eq_true eA; obtain ⟨ad486, A486_3, c486_3, e486, hx486_0, hx486_1, hx486_2, hx486_3, hl486_3, hi486_3⟩ := at_T53 HR0_3.out 1 p486 q486; have hw486_3 := hx486_3; (try rw [show ((1 : Int)).toNat = 1 from rfl] at hw486_3); (try rw [show 1 * 4 = 4 from rfl] at hw486_3); (try simp only [Nat.reduceMul, Nat.reduceEqDiff, Go.Addr.add, ↓reduceIte] at hw486_3); have hw486_2 := hx486_2; (try rw [show ((1 : Int)).toNat = 1 from rfl] at hw486_2); (try rw [show 1 * 4 = 4 from rfl] at hw486_2); (try simp only [Nat.reduceMul, Nat.reduceEqDiff, Go.Addr.add, ↓reduceIte] at hw486_2); have hw486_1 := hx486_1; (try rw [show ((1 : Int)).toNat = 1 from rfl] at hw486_1); (try rw [show 1 * 4 = 4 from rfl] at hw486_1); (try simp only [Nat.reduceMul, Nat.reduceEqDiff, Go.Addr.add, ↓reduceIte] at hw486_1); have hw486_0 := hx486_0; (try rw [show ((1 : Int)).toNat = 1 from rfl] at hw486_0); (try rw [show 1 * 4 = 4 from rfl] at hw486_0)
            (try simp only [Nat.reduceMul, Nat.reduceEqDiff, Go.Addr.add, ↓reduceIte] at hw486_0); obtain rfl : ad484 = ad486 := (by injection e486); (try simp only [show (1 : Int).toNat = 1 from rfl, Nat.reduceMul, Nat.reduceEqDiff, Go.Addr.add, ↓reduceIte] at hx486_0); (try simp only [show (1 : Int).toNat = 1 from rfl, Nat.reduceMul, Nat.reduceEqDiff, Go.Addr.add, ↓reduceIte] at hx486_1); (try simp only [show (1 : Int).toNat = 1 from rfl, Nat.reduceMul, Nat.reduceEqDiff, Go.Addr.add, ↓reduceIte] at hx486_2); (try simp only [show (1 : Int).toNat = 1 from rfl, Nat.reduceMul, Nat.reduceEqDiff, Go.Addr.add, ↓reduceIte] at hx486_3); have qi486 : (1 < l0_3.length) = True := eq_true (by omega); (try rw [show ((1 : Int)).toNat = 1 from rfl] at hx486_0); (try rw [show 1 * 4 = 4 from rfl] at hx486_0); (try rw [show ((1 : Int)).toNat = 1 from rfl] at hx486_1); (try rw [show 1 * 4 = 4 from rfl] at hx486_1); (try rw [show ((1 : Int)).toNat = 1 from rfl] at hx486_2)
            (try rw [show 1 * 4 = 4 from rfl] at hx486_2); (try rw [show ((1 : Int)).toNat = 1 from rfl] at hx486_3); (try rw [show 1 * 4 = 4 from rfl] at hx486_3); replace hx486_0 := cX HB hx486_0; replace hx486_1 := cX HB hx486_1; replace hx486_2 := cX HB hx486_2; replace hx486_3 := cX HB hx486_3; have HR486_3 := am hi486_3; have HC486_3 := am hl486_3; clear hi486_3 hl486_3; replace p486 := eq_true p486; replace q486 := eq_true q486; have p487 : 0 ≤ (1 : Int) := (by omega); have q487 : 1 < (l0_3.length : Int) := of_decide_eq_true eA; obtain ⟨ad487, A487_3, c487_3, e487, hx487_0, hx487_1, hx487_2, hx487_3, hl487_3, hi487_3⟩ := at_T53 HR0_3.out 1 p487 q487; have hw487_3 := hx487_3; (try rw [show ((1 : Int)).toNat = 1 from rfl] at hw487_3); (try rw [show 1 * 4 = 4 from rfl] at hw487_3); (try simp only [Nat.reduceMul, Nat.reduceEqDiff, Go.Addr.add, ↓reduceIte] at hw487_3); have hw487_2 := hx487_2; (try rw [show ((1 : Int)).toNat = 1 from rfl] at hw487_2)
            (try rw [show 1 * 4 = 4 from rfl] at hw487_2); (try simp only [Nat.reduceMul, Nat.reduceEqDiff, Go.Addr.add, ↓reduceIte] at hw487_2); have hw487_1 := hx487_1; (try rw [show ((1 : Int)).toNat = 1 from rfl] at hw487_1); (try rw [show 1 * 4 = 4 from rfl] at hw487_1); (try simp only [Nat.reduceMul, Nat.reduceEqDiff, Go.Addr.add, ↓reduceIte] at hw487_1); have hw487_0 := hx487_0; (try rw [show ((1 : Int)).toNat = 1 from rfl] at hw487_0); (try rw [show 1 * 4 = 4 from rfl] at hw487_0); (try simp only [Nat.reduceMul, Nat.reduceEqDiff, Go.Addr.add, ↓reduceIte] at hw487_0); obtain rfl : ad484 = ad487 := (by injection e487); (try simp only [show (1 : Int).toNat = 1 from rfl, Nat.reduceMul, Nat.reduceEqDiff, Go.Addr.add, ↓reduceIte] at hx487_0); (try simp only [show (1 : Int).toNat = 1 from rfl, Nat.reduceMul, Nat.reduceEqDiff, Go.Addr.add, ↓reduceIte] at hx487_1); (try simp only [show (1 : Int).toNat = 1 from rfl, Nat.reduceMul, Nat.reduceEqDiff, Go.Addr.add, ↓reduceIte] at hx487_2)
            (try simp only [show (1 : Int).toNat = 1 from rfl, Nat.reduceMul, Nat.reduceEqDiff, Go.Addr.add, ↓reduceIte] at hx487_3); have qi487 : (1 < l0_3.length) = True := eq_true (by omega); (try rw [show ((1 : Int)).toNat = 1 from rfl] at hx487_0); (try rw [show 1 * 4 = 4 from rfl] at hx487_0); (try rw [show ((1 : Int)).toNat = 1 from rfl] at hx487_1); (try rw [show 1 * 4 = 4 from rfl] at hx487_1); (try rw [show ((1 : Int)).toNat = 1 from rfl] at hx487_2); (try rw [show 1 * 4 = 4 from rfl] at hx487_2); (try rw [show ((1 : Int)).toNat = 1 from rfl] at hx487_3); (try rw [show 1 * 4 = 4 from rfl] at hx487_3); replace hx487_0 := cX HB hx487_0; replace hx487_1 := cX HB hx487_1; replace hx487_2 := cX HB hx487_2; replace hx487_3 := cX HB hx487_3; have HR487_3 := am hi487_3; have HC487_3 := am hl487_3; clear hi487_3 hl487_3; replace p487 := eq_true p487; replace q487 := eq_true q487; have ea_ := Option.some.inj (hx486_3.symm.trans hx487_3)
            injection ea_ with ea_ en_ ec_
            subst ea_; subst ec_; clear en_; refine sS 20 (k4 BK478 (kW8 HB hw484_0 hw484_1 hw484_2 hw484_3 hw486_0 hw486_1 hw486_2 hw486_3 (eW4 HB hw487_0 hw487_1 hw487_2 hw487_3))) fun hHeld => ?_
            refine with_tabW sequiturref14_term.tab15 sequiturref14_term.bits15 (fun HT_ HW_ => ?_); generalize wc.drew = w38 at BK478 HB HR484_3 HR486_3 HR487_3 hx484_0 hx484_1 hx484_2 hx484_3 hx486_0 hx486_1 hx486_2 hx486_3 hx487_0 hx487_1 hx487_2 hx487_3 hHeld ⊢
            refine pS 0 57 ?_; refine pS 4 61 ?_; refine pS 7 64 ?_; refine pS 11 68 ?_; refine pS 12 69 ?_; refine tS 1 58 ?_; refine pS 2 59 ?_; refine tS 3 60 ?_; refine tS 8 65 ?_; refine pS 9 66 ?_; refine tS 10 67 ?_; refine tS 13 70 ?_; refine pS 14 71 ?_; refine tS 15 72 ?_; refine oS 5 62 fun K hK => ?_
            refine goS Tryd.func81 #[.agg #[.int .i64 ((rd_T53 l0_3 0).f0), .string ((rd_T53 l0_3 0).f1), .int .i64 ((rd_T53 l0_3 0).f2), .slice A484_3 ((rd_T53 l0_3 0).f3).length c484_3], .slice A1 l1.length c1, .bool false] ?_; (with_reducible refine (ih_sequiturref14_side kj2 (by have := HJ2.out; omega) ((rd_T53 l0_3 0).f0) ((rd_T53 l0_3 0).f1) ((rd_T53 l0_3 0).f2) _ _ ((rd_T53 l0_3 0).f3) _ _ l1 false t485 _ ?side1 HC484_3.out ?side3 HC1.out A32.out).mono ?_); (case side1 => exact cB HR484_3); (case side3 => exact cB HR1); rintro e w39 ⟨rfl, hb⟩; refine ⟨_, rfl, ?_⟩; replace BK478 := bK BK478 hb; replace HB := bH hb; clear hb; refine hK.out _ _ (k4 BK478 (kW8 HB hw484_0 hw484_1 hw484_2 hw484_3 hw486_0 hw486_1 hw486_2 hw486_3 (eW4 HB hw487_0 hw487_1 hw487_2 hw487_3))) fun hHeld => ?_
            clear hK K; refine nS 62 ?_; refine pS 6 63 ?_; refine oS 16 73 fun K hK => ?_
            refine goS Tryd.func82 #[.agg #[.int .i64 ((rd_T53 l0_3 1).f0), .string ((rd_T53 l0_3 1).f1), .int .i64 ((rd_T53 l0_3 1).f2), .slice A486_3 ((rd_T53 l0_3 1).f3).length c486_3]] ?_; (with_reducible refine (sequiturref14_sum.calls ((rd_T53 l0_3 1).f0) ((rd_T53 l0_3 1).f1) ((rd_T53 l0_3 1).f2) _ _ ((rd_T53 l0_3 1).f3) t488 _ ?side1 HC487_3.out A35.out).mono ?_); (case side1 => exact cB HR487_3); rintro e w40 ⟨rfl, hb⟩; refine ⟨_, rfl, ?_⟩; replace BK478 := bK BK478 hb; replace HB := bH hb; clear hb; refine hK.out _ _ (k4 BK478 (kW8 HB hw484_0 hw484_1 hw484_2 hw484_3 hw486_0 hw486_1 hw486_2 hw486_3 (eW4 HB hw487_0 hw487_1 hw487_2 hw487_3))) fun hHeld => ?_
            clear hK K; refine nS 73 ?_; refine oS 17 74 fun K hK => ?_
            refine goS Tryd.func81 #[.agg #[.int .i64 ((rd_T53 l0_3 1).f0), .string ((rd_T53 l0_3 1).f1), .int .i64 ((rd_T53 l0_3 1).f2), .slice A486_3 ((rd_T53 l0_3 1).f3).length c486_3], .slice A1 l1.length c1, .bool t488] ?_; (with_reducible refine (ih_sequiturref14_side kj2 (by have := HJ2.out; omega) ((rd_T53 l0_3 1).f0) ((rd_T53 l0_3 1).f1) ((rd_T53 l0_3 1).f2) _ _ ((rd_T53 l0_3 1).f3) _ _ l1 t488 t489 _ ?side1 HC486_3.out ?side3 HC1.out A36.out).mono ?_); (case side1 => exact cB HR486_3); (case side3 => exact cB HR1); rintro e w41 ⟨rfl, hb⟩; refine ⟨_, rfl, ?_⟩; replace BK478 := bK BK478 hb; replace HB := bH hb; clear hb; refine hK.out _ _ (k4 BK478 (kW8 HB hw484_0 hw484_1 hw484_2 hw484_3 hw486_0 hw486_1 hw486_2 hw486_3 (eW4 HB hw487_0 hw487_1 hw487_2 hw487_3))) fun hHeld => ?_
            clear hK K; refine nS 74 ?_; refine pS 18 75 ?_; refine pS 19 4 ?_; refine done_ (done_of HT_.out (by kernel_rfl)) ?_
            try go_wp2
            go_ret; exact ⟨eW, bB⟩
           ·rw [if_neg c37] at H
            exact absurd H (by simp)
          ·rw [if_neg c34] at H
           exact absurd H (by simp)
         ·rw [if_neg c33] at H
          exact absurd H (by simp)
        ·rw [if_neg c31] at H
         exact absurd H (by simp)
       ·rw [if_neg c30] at H
        have c30b0 := beq_eq_false_iff_ne.mpr c30; have c30b1 := bne_iff_ne.mpr c30
        by_cases c42 : a0_0 = 6
        ·rw [if_pos c42] at H
         have c42b0 := beq_iff_eq.mpr c42; have c42b1 := bne_eq_false_iff_eq.mpr c42; clear c42
         by_cases c43 : 0 < (l0_3.length : Int)
         ·rw [if_pos c43] at H
          have c43b0 : decide (0 < (l0_3.length : Int)) = true := decide_eq_true c43; have c43b1 : decide (0 < l0_3.length) = true := decide_eq_true (by omega); clear c43; obtain ⟨t491, A44, H⟩ := bO H
          by_cases c45 : t491.size + 3 ≤ 9223372036854775807
          ·rw [if_pos c45] at H
           have c45b0 := eq_true c45; have c45b1 := decide_eq_true c45
           try have c45b2 := eq_false (Nat.not_lt.2 c45)
           by_cases c46 : 1 < (l0_3.length : Int)
           ·rw [if_pos c46] at H
            have c46b0 : decide (1 < (l0_3.length : Int)) = true := decide_eq_true c46; have c46b1 : decide (1 < l0_3.length) = true := decide_eq_true (by omega); clear c46; obtain ⟨t494, A47, H⟩ := bO H; obtain ⟨t495, A48, H⟩ := bO H
            by_cases c49 : (t491 ++ (⟨#[32, 45, 32]⟩ : ByteArray)).size + t495.size ≤ 9223372036854775807
            ·rw [if_pos c49] at H
             have c49b0 := eq_true c49; have c49b1 := decide_eq_true c49; have c49n : t491.size + 3 + t495.size ≤ 9223372036854775807 := by have h_ := c49; simp only [ByteArray.size_append] at h_; have z0_ : (⟨#[32, 45, 32]⟩ : ByteArray).size = 3 := rfl; first | exact h_ | omega
             have c49b3 := eq_true c49n; have c49b4 : (9223372036854775807 < t491.size + 3 + t495.size) = False := eq_false (Nat.not_lt.2 c49n)
             try have c49b2 := eq_false (Nat.not_lt.2 c49)
             obtain rfl := Option.some.inj H
             try go_wp2
             replace BK478 := am (blk_drew BK478.out); replace HB := am (below_drew1 HB.out); have p490 : 0 ≤ (0 : Int) := (by omega); have q490 : 0 < (l0_3.length : Int) := of_decide_eq_true eA; obtain ⟨ad490, A490_3, c490_3, e490, hx490_0, hx490_1, hx490_2, hx490_3, hl490_3, hi490_3⟩ := at_T53 HR0_3.out 0 p490 q490; have hw490_3 := hx490_3; (try rw [show ((0 : Int)).toNat = 0 from rfl] at hw490_3); (try rw [show 0 * 4 = 0 from rfl] at hw490_3); (try rw [Addr.add_zero'] at hw490_3); have hw490_2 := hx490_2; (try rw [show ((0 : Int)).toNat = 0 from rfl] at hw490_2); (try rw [show 0 * 4 = 0 from rfl] at hw490_2); (try rw [Addr.add_zero'] at hw490_2); have hw490_1 := hx490_1; (try rw [show ((0 : Int)).toNat = 0 from rfl] at hw490_1); (try rw [show 0 * 4 = 0 from rfl] at hw490_1); (try rw [Addr.add_zero'] at hw490_1); have hw490_0 := hx490_0; (try rw [show ((0 : Int)).toNat = 0 from rfl] at hw490_0); (try rw [show 0 * 4 = 0 from rfl] at hw490_0)
             (try rw [Addr.add_zero'] at hw490_0)
             cases e490
             have qi490 : (0 < l0_3.length) = True := eq_true (by omega); (try rw [show ((0 : Int)).toNat = 0 from rfl] at hx490_0); (try rw [show 0 * 4 = 0 from rfl] at hx490_0); (try rw [Addr.add_zero'] at hx490_0); (try rw [show ((0 : Int)).toNat = 0 from rfl] at hx490_1); (try rw [show 0 * 4 = 0 from rfl] at hx490_1); (try rw [Addr.add_zero'] at hx490_1); (try rw [show ((0 : Int)).toNat = 0 from rfl] at hx490_2); (try rw [show 0 * 4 = 0 from rfl] at hx490_2); (try rw [Addr.add_zero'] at hx490_2); (try rw [show ((0 : Int)).toNat = 0 from rfl] at hx490_3); (try rw [show 0 * 4 = 0 from rfl] at hx490_3); (try rw [Addr.add_zero'] at hx490_3); replace hx490_0 := cX HB hx490_0; replace hx490_1 := cX HB hx490_1; replace hx490_2 := cX HB hx490_2; replace hx490_3 := cX HB hx490_3; have HR490_3 := am hi490_3; have HC490_3 := am hl490_3; clear hi490_3 hl490_3; replace p490 := eq_true p490; replace q490 := eq_true q490; have p492 : 0 ≤ (1 : Int) := (by omega)
             have q492 : 1 < (l0_3.length : Int) := of_decide_eq_true eA; obtain ⟨ad492, A492_3, c492_3, e492, hx492_0, hx492_1, hx492_2, hx492_3, hl492_3, hi492_3⟩ := at_T53 HR0_3.out 1 p492 q492; have hw492_3 := hx492_3; (try rw [show ((1 : Int)).toNat = 1 from rfl] at hw492_3); (try rw [show 1 * 4 = 4 from rfl] at hw492_3); (try simp only [Nat.reduceMul, Nat.reduceEqDiff, Go.Addr.add, ↓reduceIte] at hw492_3); have hw492_2 := hx492_2; (try rw [show ((1 : Int)).toNat = 1 from rfl] at hw492_2); (try rw [show 1 * 4 = 4 from rfl] at hw492_2); (try simp only [Nat.reduceMul, Nat.reduceEqDiff, Go.Addr.add, ↓reduceIte] at hw492_2); have hw492_1 := hx492_1; (try rw [show ((1 : Int)).toNat = 1 from rfl] at hw492_1); (try rw [show 1 * 4 = 4 from rfl] at hw492_1); (try simp only [Nat.reduceMul, Nat.reduceEqDiff, Go.Addr.add, ↓reduceIte] at hw492_1); have hw492_0 := hx492_0; (try rw [show ((1 : Int)).toNat = 1 from rfl] at hw492_0); (try rw [show 1 * 4 = 4 from rfl] at hw492_0)
             (try simp only [Nat.reduceMul, Nat.reduceEqDiff, Go.Addr.add, ↓reduceIte] at hw492_0); obtain rfl : ad490 = ad492 := (by injection e492); (try simp only [show (1 : Int).toNat = 1 from rfl, Nat.reduceMul, Nat.reduceEqDiff, Go.Addr.add, ↓reduceIte] at hx492_0); (try simp only [show (1 : Int).toNat = 1 from rfl, Nat.reduceMul, Nat.reduceEqDiff, Go.Addr.add, ↓reduceIte] at hx492_1); (try simp only [show (1 : Int).toNat = 1 from rfl, Nat.reduceMul, Nat.reduceEqDiff, Go.Addr.add, ↓reduceIte] at hx492_2); (try simp only [show (1 : Int).toNat = 1 from rfl, Nat.reduceMul, Nat.reduceEqDiff, Go.Addr.add, ↓reduceIte] at hx492_3); have qi492 : (1 < l0_3.length) = True := eq_true (by omega); (try rw [show ((1 : Int)).toNat = 1 from rfl] at hx492_0); (try rw [show 1 * 4 = 4 from rfl] at hx492_0); (try rw [show ((1 : Int)).toNat = 1 from rfl] at hx492_1); (try rw [show 1 * 4 = 4 from rfl] at hx492_1); (try rw [show ((1 : Int)).toNat = 1 from rfl] at hx492_2)
             (try rw [show 1 * 4 = 4 from rfl] at hx492_2); (try rw [show ((1 : Int)).toNat = 1 from rfl] at hx492_3); (try rw [show 1 * 4 = 4 from rfl] at hx492_3); replace hx492_0 := cX HB hx492_0; replace hx492_1 := cX HB hx492_1; replace hx492_2 := cX HB hx492_2; replace hx492_3 := cX HB hx492_3; have HR492_3 := am hi492_3; have HC492_3 := am hl492_3; clear hi492_3 hl492_3; replace p492 := eq_true p492; replace q492 := eq_true q492; have p493 : 0 ≤ (1 : Int) := (by omega); have q493 : 1 < (l0_3.length : Int) := of_decide_eq_true eA; obtain ⟨ad493, A493_3, c493_3, e493, hx493_0, hx493_1, hx493_2, hx493_3, hl493_3, hi493_3⟩ := at_T53 HR0_3.out 1 p493 q493; have hw493_3 := hx493_3; (try rw [show ((1 : Int)).toNat = 1 from rfl] at hw493_3); (try rw [show 1 * 4 = 4 from rfl] at hw493_3); (try simp only [Nat.reduceMul, Nat.reduceEqDiff, Go.Addr.add, ↓reduceIte] at hw493_3); have hw493_2 := hx493_2; (try rw [show ((1 : Int)).toNat = 1 from rfl] at hw493_2)
             (try rw [show 1 * 4 = 4 from rfl] at hw493_2); (try simp only [Nat.reduceMul, Nat.reduceEqDiff, Go.Addr.add, ↓reduceIte] at hw493_2); have hw493_1 := hx493_1; (try rw [show ((1 : Int)).toNat = 1 from rfl] at hw493_1); (try rw [show 1 * 4 = 4 from rfl] at hw493_1); (try simp only [Nat.reduceMul, Nat.reduceEqDiff, Go.Addr.add, ↓reduceIte] at hw493_1); have hw493_0 := hx493_0; (try rw [show ((1 : Int)).toNat = 1 from rfl] at hw493_0); (try rw [show 1 * 4 = 4 from rfl] at hw493_0); (try simp only [Nat.reduceMul, Nat.reduceEqDiff, Go.Addr.add, ↓reduceIte] at hw493_0); obtain rfl : ad490 = ad493 := (by injection e493); (try simp only [show (1 : Int).toNat = 1 from rfl, Nat.reduceMul, Nat.reduceEqDiff, Go.Addr.add, ↓reduceIte] at hx493_0); (try simp only [show (1 : Int).toNat = 1 from rfl, Nat.reduceMul, Nat.reduceEqDiff, Go.Addr.add, ↓reduceIte] at hx493_1); (try simp only [show (1 : Int).toNat = 1 from rfl, Nat.reduceMul, Nat.reduceEqDiff, Go.Addr.add, ↓reduceIte] at hx493_2)
             (try simp only [show (1 : Int).toNat = 1 from rfl, Nat.reduceMul, Nat.reduceEqDiff, Go.Addr.add, ↓reduceIte] at hx493_3); have qi493 : (1 < l0_3.length) = True := eq_true (by omega); (try rw [show ((1 : Int)).toNat = 1 from rfl] at hx493_0); (try rw [show 1 * 4 = 4 from rfl] at hx493_0); (try rw [show ((1 : Int)).toNat = 1 from rfl] at hx493_1); (try rw [show 1 * 4 = 4 from rfl] at hx493_1); (try rw [show ((1 : Int)).toNat = 1 from rfl] at hx493_2); (try rw [show 1 * 4 = 4 from rfl] at hx493_2); (try rw [show ((1 : Int)).toNat = 1 from rfl] at hx493_3); (try rw [show 1 * 4 = 4 from rfl] at hx493_3); replace hx493_0 := cX HB hx493_0; replace hx493_1 := cX HB hx493_1; replace hx493_2 := cX HB hx493_2; replace hx493_3 := cX HB hx493_3; have HR493_3 := am hi493_3; have HC493_3 := am hl493_3; clear hi493_3 hl493_3; replace p493 := eq_true p493; replace q493 := eq_true q493; have ea_ := Option.some.inj (hx492_3.symm.trans hx493_3)
             injection ea_ with ea_ en_ ec_
             subst ea_; subst ec_; clear en_; refine sS 20 (k4 BK478 (kW8 HB hw490_0 hw490_1 hw490_2 hw490_3 hw492_0 hw492_1 hw492_2 hw492_3 (eW4 HB hw493_0 hw493_1 hw493_2 hw493_3))) fun hHeld => ?_
             refine with_tabW sequiturref14_term.tab17 sequiturref14_term.bits17 (fun HT_ HW_ => ?_); generalize wc.drew = w50 at BK478 HB HR490_3 HR492_3 HR493_3 hx490_0 hx490_1 hx490_2 hx490_3 hx492_0 hx492_1 hx492_2 hx492_3 hx493_0 hx493_1 hx493_2 hx493_3 hHeld ⊢
             refine pS 0 78 ?_; refine pS 4 82 ?_; refine pS 7 85 ?_; refine pS 11 89 ?_; refine pS 12 90 ?_; refine tS 1 79 ?_; refine pS 2 80 ?_; refine tS 3 81 ?_; refine tS 8 86 ?_; refine pS 9 87 ?_; refine tS 10 88 ?_; refine tS 13 91 ?_; refine pS 14 92 ?_; refine tS 15 93 ?_; refine oS 5 83 fun K hK => ?_
             refine goS Tryd.func81 #[.agg #[.int .i64 ((rd_T53 l0_3 0).f0), .string ((rd_T53 l0_3 0).f1), .int .i64 ((rd_T53 l0_3 0).f2), .slice A490_3 ((rd_T53 l0_3 0).f3).length c490_3], .slice A1 l1.length c1, .bool false] ?_; (with_reducible refine (ih_sequiturref14_side kj2 (by have := HJ2.out; omega) ((rd_T53 l0_3 0).f0) ((rd_T53 l0_3 0).f1) ((rd_T53 l0_3 0).f2) _ _ ((rd_T53 l0_3 0).f3) _ _ l1 false t491 _ ?side1 HC490_3.out ?side3 HC1.out A44.out).mono ?_); (case side1 => exact cB HR490_3); (case side3 => exact cB HR1); rintro e w51 ⟨rfl, hb⟩; refine ⟨_, rfl, ?_⟩; replace BK478 := bK BK478 hb; replace HB := bH hb; clear hb; refine hK.out _ _ (k4 BK478 (kW8 HB hw490_0 hw490_1 hw490_2 hw490_3 hw492_0 hw492_1 hw492_2 hw492_3 (eW4 HB hw493_0 hw493_1 hw493_2 hw493_3))) fun hHeld => ?_
             clear hK K; refine nS 83 ?_; refine pS 6 84 ?_; refine oS 16 94 fun K hK => ?_
             refine goS Tryd.func82 #[.agg #[.int .i64 ((rd_T53 l0_3 1).f0), .string ((rd_T53 l0_3 1).f1), .int .i64 ((rd_T53 l0_3 1).f2), .slice A492_3 ((rd_T53 l0_3 1).f3).length c492_3]] ?_; (with_reducible refine (sequiturref14_sum.calls ((rd_T53 l0_3 1).f0) ((rd_T53 l0_3 1).f1) ((rd_T53 l0_3 1).f2) _ _ ((rd_T53 l0_3 1).f3) t494 _ ?side1 HC493_3.out A47.out).mono ?_); (case side1 => exact cB HR493_3); rintro e w52 ⟨rfl, hb⟩; refine ⟨_, rfl, ?_⟩; replace BK478 := bK BK478 hb; replace HB := bH hb; clear hb; refine hK.out _ _ (k4 BK478 (kW8 HB hw490_0 hw490_1 hw490_2 hw490_3 hw492_0 hw492_1 hw492_2 hw492_3 (eW4 HB hw493_0 hw493_1 hw493_2 hw493_3))) fun hHeld => ?_
             clear hK K; refine nS 94 ?_; refine oS 17 95 fun K hK => ?_
             refine goS Tryd.func81 #[.agg #[.int .i64 ((rd_T53 l0_3 1).f0), .string ((rd_T53 l0_3 1).f1), .int .i64 ((rd_T53 l0_3 1).f2), .slice A492_3 ((rd_T53 l0_3 1).f3).length c492_3], .slice A1 l1.length c1, .bool t494] ?_; (with_reducible refine (ih_sequiturref14_side kj2 (by have := HJ2.out; omega) ((rd_T53 l0_3 1).f0) ((rd_T53 l0_3 1).f1) ((rd_T53 l0_3 1).f2) _ _ ((rd_T53 l0_3 1).f3) _ _ l1 t494 t495 _ ?side1 HC492_3.out ?side3 HC1.out A48.out).mono ?_); (case side1 => exact cB HR492_3); (case side3 => exact cB HR1); rintro e w53 ⟨rfl, hb⟩; refine ⟨_, rfl, ?_⟩; replace BK478 := bK BK478 hb; replace HB := bH hb; clear hb; refine hK.out _ _ (k4 BK478 (kW8 HB hw490_0 hw490_1 hw490_2 hw490_3 hw492_0 hw492_1 hw492_2 hw492_3 (eW4 HB hw493_0 hw493_1 hw493_2 hw493_3))) fun hHeld => ?_
             clear hK K; refine nS 95 ?_; refine pS 18 96 ?_; refine pS 19 4 ?_; refine done_ (done_of HT_.out (by kernel_rfl)) ?_
             try go_wp2
             go_ret; exact ⟨eW, bB⟩
            ·rw [if_neg c49] at H
             exact absurd H (by simp)
           ·rw [if_neg c46] at H
            exact absurd H (by simp)
          ·rw [if_neg c45] at H
           exact absurd H (by simp)
         ·rw [if_neg c43] at H
          exact absurd H (by simp)
        ·rw [if_neg c42] at H
         have c42b0 := beq_eq_false_iff_ne.mpr c42; have c42b1 := bne_iff_ne.mpr c42
         by_cases c54 : a0_0 = 7
         ·rw [if_pos c54] at H
          have c54b0 := beq_iff_eq.mpr c54; have c54b1 := bne_eq_false_iff_eq.mpr c54; clear c54
          by_cases c55 : 0 < (l0_3.length : Int)
          ·rw [if_pos c55] at H
           have c55b0 : decide (0 < (l0_3.length : Int)) = true := decide_eq_true c55; have c55b1 : decide (0 < l0_3.length) = true := decide_eq_true (by omega); clear c55; obtain ⟨t498, A56, H⟩ := bO H
           by_cases c57 : t498 = true
           ·subst c57
            rw [if_pos rfl] at H; obtain ⟨t499, A58, H⟩ := bO H
            by_cases c59 : 1 + t499.size ≤ 9223372036854775807
            ·rw [if_pos c59] at H
             have c59b0 := eq_true c59; have c59b1 := decide_eq_true c59
             try have c59b2 := eq_false (Nat.not_lt.2 c59)
             obtain rfl := Option.some.inj H; obtain ⟨z60_0, z60_1, z60_2, z60_3, y60_0, y60_1, y60_2, y60_3⟩ := y4 BK478; have p496 : 0 ≤ (0 : Int) := (by omega); have q496 : 0 < (l0_3.length : Int) := of_decide_eq_true eA; obtain ⟨ad496, A496_3, c496_3, e496, hx496_0, hx496_1, hx496_2, hx496_3, hl496_3, hi496_3⟩ := at_T53 HR0_3.out 0 p496 q496
             cases e496
             have qi496 : (0 < l0_3.length) = True := eq_true (by omega); (try rw [show ((0 : Int)).toNat = 0 from rfl] at hx496_0); (try rw [show 0 * 4 = 0 from rfl] at hx496_0); (try rw [Addr.add_zero'] at hx496_0); (try rw [show ((0 : Int)).toNat = 0 from rfl] at hx496_1); (try rw [show 0 * 4 = 0 from rfl] at hx496_1); (try rw [Addr.add_zero'] at hx496_1); (try rw [show ((0 : Int)).toNat = 0 from rfl] at hx496_2); (try rw [show 0 * 4 = 0 from rfl] at hx496_2); (try rw [Addr.add_zero'] at hx496_2); (try rw [show ((0 : Int)).toNat = 0 from rfl] at hx496_3); (try rw [show 0 * 4 = 0 from rfl] at hx496_3); (try rw [Addr.add_zero'] at hx496_3); replace hx496_0 := cX HB hx496_0; replace hx496_1 := cX HB hx496_1; replace hx496_2 := cX HB hx496_2; replace hx496_3 := cX HB hx496_3; have HR496_3 := am hi496_3; have HC496_3 := am hl496_3; clear hi496_3 hl496_3; replace p496 := eq_true p496; replace q496 := eq_true q496
             try go_wp2_with (first | ((with_reducible refine gate_dst (N := 6) rfl ?_); refine bE 6 #[.int .i64 0, .string (⟨#[]⟩ : ByteArray), .int .i64 0, .slice none 0 0] 53 ?_; intro gb497 w61 BK497 hg hb; have GW497 := bZ hg; have GE497 := bZ hg; replace HB := bH hb; have NB478_497 := bN BK478 hg; have NB497_478 := bM BK478 hg; replace BK478 := bK BK478 hb; clear hb hg; have hnb62 := NB497_478.out; have hnc62 := NB478_497.out; obtain ⟨z63_0, z63_1, z63_2, z63_3, y63_0, y63_1, y63_2, y63_3⟩ := y4 BK497))
             have n0_ := bX4 (.int .i64 ((rd_T53 l0_3 0).f0)) (.string ((rd_T53 l0_3 0).f1)) (.int .i64 ((rd_T53 l0_3 0).f2)) (.slice A496_3 ((rd_T53 l0_3 0).f3).length c496_3) BK478 NB478_497.out; have n1_ := bP4 (.int .i64 ((rd_T53 l0_3 0).f0)) (.string ((rd_T53 l0_3 0).f1)) (.int .i64 ((rd_T53 l0_3 0).f2)) (.slice A496_3 ((rd_T53 l0_3 0).f3).length c496_3) BK497; have n2_ := hS4 (.int .i64 ((rd_T53 l0_3 0).f0)) (.string ((rd_T53 l0_3 0).f1)) (.int .i64 ((rd_T53 l0_3 0).f2)) (.slice A496_3 ((rd_T53 l0_3 0).f3).length c496_3) GE497 HB; (try clear BK478); (try clear BK497); (try clear HB); generalize ((((w61.setCell ⟨gb497, 0, none⟩ (.int .i64 ((rd_T53 l0_3 0).f0))).setCell ⟨gb497, 1, none⟩ (.string ((rd_T53 l0_3 0).f1))).setCell ⟨gb497, 2, none⟩ (.int .i64 ((rd_T53 l0_3 0).f2))).setCell ⟨gb497, 3, none⟩ (.slice A496_3 ((rd_T53 l0_3 0).f3).length c496_3)) = w64 at n0_ n1_ n2_ ⊢
             have BK478 := n0_; have BK497 := n1_; have HB := n2_; clear n0_ n1_ n2_; replace BK478 := am (blk_drew BK478.out); replace BK497 := am (blk_drew BK497.out); replace HB := am (below_drew1 HB.out); refine sS 17 (e4 BK497) fun hHeld => ?_
             refine with_tabW sequiturref14_term.tab20 sequiturref14_term.bits20 (fun HT_ HW_ => ?_); generalize w64.drew = w65 at BK478 BK497 HB hHeld ⊢
             refine pS 1 104 ?_; refine tS 0 103 ?_; refine tS 2 105 ?_; refine oS 3 106 fun K hK => ?_
             refine goS Tryd.func82 #[.agg #[.int .i64 ((rd_T53 l0_3 0).f0), .string ((rd_T53 l0_3 0).f1), .int .i64 ((rd_T53 l0_3 0).f2), .slice A496_3 ((rd_T53 l0_3 0).f3).length c496_3]] ?_; (with_reducible refine (sequiturref14_sum.calls ((rd_T53 l0_3 0).f0) ((rd_T53 l0_3 0).f1) ((rd_T53 l0_3 0).f2) _ _ ((rd_T53 l0_3 0).f3) true _ ?side1 HC496_3.out A56.out).mono ?_); (case side1 => exact cB HR496_3); rintro e w66 ⟨rfl, hb⟩; refine ⟨_, rfl, ?_⟩; replace BK478 := bK BK478 hb; replace BK497 := bK BK497 hb; replace HB := bH hb; clear hb; refine hK.out _ _ (e4 BK497) fun hHeld => ?_
             clear hK K; refine nS 106 ?_; refine pS 4 107 ?_; refine pure_ (i := 5) (N := some 108) (v := undef) (a' := ?_) #[true, true, true, true, true, true, false, false, false, false, false, false, false, false, false, false, false] rfl rfl (any_of HT_.out (by kernel_rfl)) (fun _ _ _ h => h) (Or.inr ⟨by rfl, rfl⟩) ?_ ?_
             rotate_left
             · simp only [Act.put, List.setIfInBounds_toArray, List.set_cons_zero, List.set_cons_succ, i64_w, i32_w]
               rfl
             refine pure_ (i := 6) (N := some 109) (v := undef) (a' := ?_) #[true, true, true, true, true, true, true, false, false, false, false, false, false, false, false, false, false] rfl rfl (any_of HT_.out (by kernel_rfl)) (fun _ _ _ h => h) (Or.inr ⟨by rfl, rfl⟩) ?_ ?_
             rotate_left
             · simp only [Act.put, List.setIfInBounds_toArray, List.set_cons_zero, List.set_cons_succ, i64_w, i32_w]
               rfl
             refine pure_ (i := 7) (N := some 110) (v := undef) (a' := ?_) #[true, true, true, true, true, true, true, true, false, false, false, false, false, false, false, false, false] rfl rfl (any_of HT_.out (by kernel_rfl)) (fun _ _ _ h => h) (Or.inr ⟨by rfl, rfl⟩) ?_ ?_
             rotate_left
             · simp only [Act.put, List.setIfInBounds_toArray, List.set_cons_zero, List.set_cons_succ, i64_w, i32_w]
               rfl
             refine pS 8 111 ?_; refine pS 9 112 ?_; refine pure_ (i := 10) (N := some 113) (v := undef) (a' := ?_) #[true, true, true, true, true, true, true, true, true, true, true, false, false, false, false, false, false] rfl rfl (any_of HT_.out (by kernel_rfl)) (fun _ _ _ h => h) (Or.inr ⟨by rfl, rfl⟩) ?_ ?_
             rotate_left
             · simp only [Act.put, List.setIfInBounds_toArray, List.set_cons_zero, List.set_cons_succ, i64_w, i32_w]
               rfl
             refine pure_ (i := 11) (N := some 114) (v := undef) (a' := ?_) #[true, true, true, true, true, true, true, true, true, true, true, true, false, false, false, false, false] rfl rfl (any_of HT_.out (by kernel_rfl)) (fun _ _ _ h => h) (Or.inr ⟨by rfl, rfl⟩) ?_ ?_
             rotate_left
             · simp only [Act.put, List.setIfInBounds_toArray, List.set_cons_zero, List.set_cons_succ, i64_w, i32_w]
               rfl
             refine pure_ (i := 12) (N := some 115) (v := undef) (a' := ?_) #[true, true, true, true, true, true, true, true, true, true, true, true, true, false, false, false, false] rfl rfl (any_of HT_.out (by kernel_rfl)) (fun _ _ _ h => h) (Or.inr ⟨by rfl, rfl⟩) ?_ ?_
             rotate_left
             · simp only [Act.put, List.setIfInBounds_toArray, List.set_cons_zero, List.set_cons_succ, i64_w, i32_w]
               rfl
             refine pS 13 116 ?_; refine oS 14 117 fun K hK => ?_
             refine goS Tryd.func81 #[.agg #[.int .i64 ((rd_T53 l0_3 0).f0), .string ((rd_T53 l0_3 0).f1), .int .i64 ((rd_T53 l0_3 0).f2), .slice A496_3 ((rd_T53 l0_3 0).f3).length c496_3], .slice A1 l1.length c1, .bool true] ?_; (with_reducible refine (ih_sequiturref14_side kj2 (by have := HJ2.out; omega) ((rd_T53 l0_3 0).f0) ((rd_T53 l0_3 0).f1) ((rd_T53 l0_3 0).f2) _ _ ((rd_T53 l0_3 0).f3) _ _ l1 true t499 _ ?side1 HC496_3.out ?side3 HC1.out A58.out).mono ?_); (case side1 => exact cB HR496_3); (case side3 => exact cB HR1); rintro e w67 ⟨rfl, hb⟩; refine ⟨_, rfl, ?_⟩; replace BK478 := bK BK478 hb; replace BK497 := bK BK497 hb; replace HB := bH hb; clear hb; refine hK.out _ _ (e4 BK497) fun hHeld => ?_
             clear hK K; refine nS 117 ?_; refine pS 15 118 ?_; refine pS 16 4 ?_; refine done_ (done_of HT_.out (by kernel_rfl)) ?_
             try go_wp2
             go_ret; exact ⟨eW, bB⟩
            ·rw [if_neg c59] at H
             exact absurd H (by simp)
           ·replace c57 := Bool.eq_false_iff.mpr c57
            subst c57; rw [if_neg (show ¬ (false = true) by decide)] at H
            by_cases c68 : ((rd_T53 l0_3 0).f0) = 8
            ·rw [if_pos c68] at H
             have c68b0 := beq_iff_eq.mpr c68; have c68b1 := bne_eq_false_iff_eq.mpr c68; clear c68; obtain ⟨t500, A69, H⟩ := bO H
             by_cases c70 : 1 + t500.size ≤ 9223372036854775807
             ·rw [if_pos c70] at H
              have c70b0 := eq_true c70; have c70b1 := decide_eq_true c70
              try have c70b2 := eq_false (Nat.not_lt.2 c70)
              obtain rfl := Option.some.inj H; obtain ⟨z71_0, z71_1, z71_2, z71_3, y71_0, y71_1, y71_2, y71_3⟩ := y4 BK478; have p496 : 0 ≤ (0 : Int) := (by omega); have q496 : 0 < (l0_3.length : Int) := of_decide_eq_true eA; obtain ⟨ad496, A496_3, c496_3, e496, hx496_0, hx496_1, hx496_2, hx496_3, hl496_3, hi496_3⟩ := at_T53 HR0_3.out 0 p496 q496
              cases e496
              have qi496 : (0 < l0_3.length) = True := eq_true (by omega); (try rw [show ((0 : Int)).toNat = 0 from rfl] at hx496_0); (try rw [show 0 * 4 = 0 from rfl] at hx496_0); (try rw [Addr.add_zero'] at hx496_0); (try rw [show ((0 : Int)).toNat = 0 from rfl] at hx496_1); (try rw [show 0 * 4 = 0 from rfl] at hx496_1); (try rw [Addr.add_zero'] at hx496_1); (try rw [show ((0 : Int)).toNat = 0 from rfl] at hx496_2); (try rw [show 0 * 4 = 0 from rfl] at hx496_2); (try rw [Addr.add_zero'] at hx496_2); (try rw [show ((0 : Int)).toNat = 0 from rfl] at hx496_3); (try rw [show 0 * 4 = 0 from rfl] at hx496_3); (try rw [Addr.add_zero'] at hx496_3); replace hx496_0 := cX HB hx496_0; replace hx496_1 := cX HB hx496_1; replace hx496_2 := cX HB hx496_2; replace hx496_3 := cX HB hx496_3; have HR496_3 := am hi496_3; have HC496_3 := am hl496_3; clear hi496_3 hl496_3; replace p496 := eq_true p496; replace q496 := eq_true q496
              try go_wp2_with (first | ((with_reducible refine gate_dst (N := 6) rfl ?_); refine bE 6 #[.int .i64 0, .string (⟨#[]⟩ : ByteArray), .int .i64 0, .slice none 0 0] 53 ?_; intro gb497 w72 BK497 hg hb; have GW497 := bZ hg; have GE497 := bZ hg; replace HB := bH hb; have NB478_497 := bN BK478 hg; have NB497_478 := bM BK478 hg; replace BK478 := bK BK478 hb; clear hb hg; have hnb73 := NB497_478.out; have hnc73 := NB478_497.out; obtain ⟨z74_0, z74_1, z74_2, z74_3, y74_0, y74_1, y74_2, y74_3⟩ := y4 BK497))
              have n0_ := bX4 (.int .i64 ((rd_T53 l0_3 0).f0)) (.string ((rd_T53 l0_3 0).f1)) (.int .i64 ((rd_T53 l0_3 0).f2)) (.slice A496_3 ((rd_T53 l0_3 0).f3).length c496_3) BK478 NB478_497.out; have n1_ := bP4 (.int .i64 ((rd_T53 l0_3 0).f0)) (.string ((rd_T53 l0_3 0).f1)) (.int .i64 ((rd_T53 l0_3 0).f2)) (.slice A496_3 ((rd_T53 l0_3 0).f3).length c496_3) BK497; have n2_ := hS4 (.int .i64 ((rd_T53 l0_3 0).f0)) (.string ((rd_T53 l0_3 0).f1)) (.int .i64 ((rd_T53 l0_3 0).f2)) (.slice A496_3 ((rd_T53 l0_3 0).f3).length c496_3) GE497 HB; (try clear BK478); (try clear BK497); (try clear HB); generalize ((((w72.setCell ⟨gb497, 0, none⟩ (.int .i64 ((rd_T53 l0_3 0).f0))).setCell ⟨gb497, 1, none⟩ (.string ((rd_T53 l0_3 0).f1))).setCell ⟨gb497, 2, none⟩ (.int .i64 ((rd_T53 l0_3 0).f2))).setCell ⟨gb497, 3, none⟩ (.slice A496_3 ((rd_T53 l0_3 0).f3).length c496_3)) = w75 at n0_ n1_ n2_ ⊢
              have BK478 := n0_; have BK497 := n1_; have HB := n2_; clear n0_ n1_ n2_; replace BK478 := am (blk_drew BK478.out); replace BK497 := am (blk_drew BK497.out); replace HB := am (below_drew1 HB.out); refine sS 17 (e4 BK497) fun hHeld => ?_
              refine with_tabW sequiturref14_term.tab20 sequiturref14_term.bits20 (fun HT_ HW_ => ?_); generalize w75.drew = w76 at BK478 BK497 HB hHeld ⊢
              refine pS 1 104 ?_; refine tS 0 103 ?_; refine tS 2 105 ?_; refine oS 3 106 fun K hK => ?_
              refine goS Tryd.func82 #[.agg #[.int .i64 ((rd_T53 l0_3 0).f0), .string ((rd_T53 l0_3 0).f1), .int .i64 ((rd_T53 l0_3 0).f2), .slice A496_3 ((rd_T53 l0_3 0).f3).length c496_3]] ?_; (with_reducible refine (sequiturref14_sum.calls ((rd_T53 l0_3 0).f0) ((rd_T53 l0_3 0).f1) ((rd_T53 l0_3 0).f2) _ _ ((rd_T53 l0_3 0).f3) false _ ?side1 HC496_3.out A56.out).mono ?_); (case side1 => exact cB HR496_3); rintro e w77 ⟨rfl, hb⟩; refine ⟨_, rfl, ?_⟩; replace BK478 := bK BK478 hb; replace BK497 := bK BK497 hb; replace HB := bH hb; clear hb; refine hK.out _ _ (e4 BK497) fun hHeld => ?_
              clear hK K; refine nS 106 ?_; refine pS 4 107 ?_; refine pS 5 108 ?_; refine tS 6 109 ?_; refine pS 7 110 ?_; refine pS 8 111 ?_; refine pS 9 112 ?_; refine pure_ (i := 10) (N := some 113) (v := undef) (a' := ?_) #[true, true, true, true, true, true, true, true, true, true, true, false, false, false, false, false, false] rfl rfl (any_of HT_.out (by kernel_rfl)) (fun _ _ _ h => h) (Or.inr ⟨by rfl, rfl⟩) ?_ ?_
              rotate_left
              · simp only [Act.put, List.setIfInBounds_toArray, List.set_cons_zero, List.set_cons_succ, i64_w, i32_w]
                rfl
              refine pure_ (i := 11) (N := some 114) (v := undef) (a' := ?_) #[true, true, true, true, true, true, true, true, true, true, true, true, false, false, false, false, false] rfl rfl (any_of HT_.out (by kernel_rfl)) (fun _ _ _ h => h) (Or.inr ⟨by rfl, rfl⟩) ?_ ?_
              rotate_left
              · simp only [Act.put, List.setIfInBounds_toArray, List.set_cons_zero, List.set_cons_succ, i64_w, i32_w]
                rfl
              refine pure_ (i := 12) (N := some 115) (v := undef) (a' := ?_) #[true, true, true, true, true, true, true, true, true, true, true, true, true, false, false, false, false] rfl rfl (any_of HT_.out (by kernel_rfl)) (fun _ _ _ h => h) (Or.inr ⟨by rfl, rfl⟩) ?_ ?_
              rotate_left
              · simp only [Act.put, List.setIfInBounds_toArray, List.set_cons_zero, List.set_cons_succ, i64_w, i32_w]
                rfl
              refine pS 13 116 ?_; refine oS 14 117 fun K hK => ?_
              refine goS Tryd.func81 #[.agg #[.int .i64 ((rd_T53 l0_3 0).f0), .string ((rd_T53 l0_3 0).f1), .int .i64 ((rd_T53 l0_3 0).f2), .slice A496_3 ((rd_T53 l0_3 0).f3).length c496_3], .slice A1 l1.length c1, .bool true] ?_; (with_reducible refine (ih_sequiturref14_side kj2 (by have := HJ2.out; omega) ((rd_T53 l0_3 0).f0) ((rd_T53 l0_3 0).f1) ((rd_T53 l0_3 0).f2) _ _ ((rd_T53 l0_3 0).f3) _ _ l1 true t500 _ ?side1 HC496_3.out ?side3 HC1.out A69.out).mono ?_); (case side1 => exact cB HR496_3); (case side3 => exact cB HR1); rintro e w78 ⟨rfl, hb⟩; refine ⟨_, rfl, ?_⟩; replace BK478 := bK BK478 hb; replace BK497 := bK BK497 hb; replace HB := bH hb; clear hb; refine hK.out _ _ (e4 BK497) fun hHeld => ?_
              clear hK K; refine nS 117 ?_; refine pS 15 118 ?_; refine pS 16 4 ?_; refine done_ (done_of HT_.out (by kernel_rfl)) ?_
              try go_wp2
              go_ret; exact ⟨eW, bB⟩
             ·rw [if_neg c70] at H
              exact absurd H (by simp)
            ·rw [if_neg c68] at H
             have c68b0 := beq_eq_false_iff_ne.mpr c68; have c68b1 := bne_iff_ne.mpr c68; obtain ⟨t501, A79, H⟩ := bO H
             by_cases c80 : 1 + t501.size ≤ 9223372036854775807
             ·rw [if_pos c80] at H
              have c80b0 := eq_true c80; have c80b1 := decide_eq_true c80
              try have c80b2 := eq_false (Nat.not_lt.2 c80)
              obtain rfl := Option.some.inj H; obtain ⟨z81_0, z81_1, z81_2, z81_3, y81_0, y81_1, y81_2, y81_3⟩ := y4 BK478; have p496 : 0 ≤ (0 : Int) := (by omega); have q496 : 0 < (l0_3.length : Int) := of_decide_eq_true eA; obtain ⟨ad496, A496_3, c496_3, e496, hx496_0, hx496_1, hx496_2, hx496_3, hl496_3, hi496_3⟩ := at_T53 HR0_3.out 0 p496 q496
              cases e496
              have qi496 : (0 < l0_3.length) = True := eq_true (by omega); (try rw [show ((0 : Int)).toNat = 0 from rfl] at hx496_0); (try rw [show 0 * 4 = 0 from rfl] at hx496_0); (try rw [Addr.add_zero'] at hx496_0); (try rw [show ((0 : Int)).toNat = 0 from rfl] at hx496_1); (try rw [show 0 * 4 = 0 from rfl] at hx496_1); (try rw [Addr.add_zero'] at hx496_1); (try rw [show ((0 : Int)).toNat = 0 from rfl] at hx496_2); (try rw [show 0 * 4 = 0 from rfl] at hx496_2); (try rw [Addr.add_zero'] at hx496_2); (try rw [show ((0 : Int)).toNat = 0 from rfl] at hx496_3); (try rw [show 0 * 4 = 0 from rfl] at hx496_3); (try rw [Addr.add_zero'] at hx496_3); replace hx496_0 := cX HB hx496_0; replace hx496_1 := cX HB hx496_1; replace hx496_2 := cX HB hx496_2; replace hx496_3 := cX HB hx496_3; have HR496_3 := am hi496_3; have HC496_3 := am hl496_3; clear hi496_3 hl496_3; replace p496 := eq_true p496; replace q496 := eq_true q496
              try go_wp2_with (first | ((with_reducible refine gate_dst (N := 6) rfl ?_); refine bE 6 #[.int .i64 0, .string (⟨#[]⟩ : ByteArray), .int .i64 0, .slice none 0 0] 53 ?_; intro gb497 w82 BK497 hg hb; have GW497 := bZ hg; have GE497 := bZ hg; replace HB := bH hb; have NB478_497 := bN BK478 hg; have NB497_478 := bM BK478 hg; replace BK478 := bK BK478 hb; clear hb hg; have hnb83 := NB497_478.out; have hnc83 := NB478_497.out; obtain ⟨z84_0, z84_1, z84_2, z84_3, y84_0, y84_1, y84_2, y84_3⟩ := y4 BK497))
              have n0_ := bX4 (.int .i64 ((rd_T53 l0_3 0).f0)) (.string ((rd_T53 l0_3 0).f1)) (.int .i64 ((rd_T53 l0_3 0).f2)) (.slice A496_3 ((rd_T53 l0_3 0).f3).length c496_3) BK478 NB478_497.out; have n1_ := bP4 (.int .i64 ((rd_T53 l0_3 0).f0)) (.string ((rd_T53 l0_3 0).f1)) (.int .i64 ((rd_T53 l0_3 0).f2)) (.slice A496_3 ((rd_T53 l0_3 0).f3).length c496_3) BK497; have n2_ := hS4 (.int .i64 ((rd_T53 l0_3 0).f0)) (.string ((rd_T53 l0_3 0).f1)) (.int .i64 ((rd_T53 l0_3 0).f2)) (.slice A496_3 ((rd_T53 l0_3 0).f3).length c496_3) GE497 HB; (try clear BK478); (try clear BK497); (try clear HB); generalize ((((w82.setCell ⟨gb497, 0, none⟩ (.int .i64 ((rd_T53 l0_3 0).f0))).setCell ⟨gb497, 1, none⟩ (.string ((rd_T53 l0_3 0).f1))).setCell ⟨gb497, 2, none⟩ (.int .i64 ((rd_T53 l0_3 0).f2))).setCell ⟨gb497, 3, none⟩ (.slice A496_3 ((rd_T53 l0_3 0).f3).length c496_3)) = w85 at n0_ n1_ n2_ ⊢
              have BK478 := n0_; have BK497 := n1_; have HB := n2_; clear n0_ n1_ n2_; replace BK478 := am (blk_drew BK478.out); replace BK497 := am (blk_drew BK497.out); replace HB := am (below_drew1 HB.out); refine sS 17 (e4 BK497) fun hHeld => ?_
              refine with_tabW sequiturref14_term.tab20 sequiturref14_term.bits20 (fun HT_ HW_ => ?_); generalize w85.drew = w86 at BK478 BK497 HB hHeld ⊢
              refine pS 1 104 ?_; refine tS 0 103 ?_; refine tS 2 105 ?_; refine oS 3 106 fun K hK => ?_
              refine goS Tryd.func82 #[.agg #[.int .i64 ((rd_T53 l0_3 0).f0), .string ((rd_T53 l0_3 0).f1), .int .i64 ((rd_T53 l0_3 0).f2), .slice A496_3 ((rd_T53 l0_3 0).f3).length c496_3]] ?_; (with_reducible refine (sequiturref14_sum.calls ((rd_T53 l0_3 0).f0) ((rd_T53 l0_3 0).f1) ((rd_T53 l0_3 0).f2) _ _ ((rd_T53 l0_3 0).f3) false _ ?side1 HC496_3.out A56.out).mono ?_); (case side1 => exact cB HR496_3); rintro e w87 ⟨rfl, hb⟩; refine ⟨_, rfl, ?_⟩; replace BK478 := bK BK478 hb; replace BK497 := bK BK497 hb; replace HB := bH hb; clear hb; refine hK.out _ _ (e4 BK497) fun hHeld => ?_
              clear hK K; refine nS 106 ?_; refine pS 4 107 ?_; refine pS 5 108 ?_; refine tS 6 109 ?_; refine pS 7 110 ?_; refine pS 8 111 ?_; refine pS 9 112 ?_; refine pS 10 113 ?_; refine tS 11 114 ?_; refine pS 12 115 ?_; refine pS 13 116 ?_; refine oS 14 117 fun K hK => ?_
              refine goS Tryd.func81 #[.agg #[.int .i64 ((rd_T53 l0_3 0).f0), .string ((rd_T53 l0_3 0).f1), .int .i64 ((rd_T53 l0_3 0).f2), .slice A496_3 ((rd_T53 l0_3 0).f3).length c496_3], .slice A1 l1.length c1, .bool (((rd_T53 l0_3 0).f0) == 4)] ?_; (with_reducible refine (ih_sequiturref14_side kj2 (by have := HJ2.out; omega) ((rd_T53 l0_3 0).f0) ((rd_T53 l0_3 0).f1) ((rd_T53 l0_3 0).f2) _ _ ((rd_T53 l0_3 0).f3) _ _ l1 (((rd_T53 l0_3 0).f0) == 4) t501 _ ?side1 HC496_3.out ?side3 HC1.out A79.out).mono ?_); (case side1 => exact cB HR496_3); (case side3 => exact cB HR1); rintro e w88 ⟨rfl, hb⟩; refine ⟨_, rfl, ?_⟩; replace BK478 := bK BK478 hb; replace BK497 := bK BK497 hb; replace HB := bH hb; clear hb; refine hK.out _ _ (e4 BK497) fun hHeld => ?_
              clear hK K; refine nS 117 ?_; refine pS 15 118 ?_; refine pS 16 4 ?_; refine done_ (done_of HT_.out (by kernel_rfl)) ?_
              try go_wp2
              go_ret; exact ⟨eW, bB⟩
             ·rw [if_neg c80] at H
              exact absurd H (by simp)
          ·rw [if_neg c55] at H
           exact absurd H (by simp)
         ·rw [if_neg c54] at H
          have c54b0 := beq_eq_false_iff_ne.mpr c54; have c54b1 := bne_iff_ne.mpr c54; obtain ⟨t502, A89, H⟩ := bO H; have HC90 := am H; clear H; obtain ⟨z91_0, z91_1, z91_2, z91_3, y91_0, y91_1, y91_2, y91_3⟩ := y4 BK478
          go_upto_if 124 with (first | ((with_reducible refine gate_callee (f := 24) rfl ?_); refine gL 121 Tryd.func24 #[.int .i64 a0_2] ?_; (with_reducible refine (sequiturbase_Digits.calls kj2 a0_2 t502 _ A89.out).mono ?_); rintro e w92 ⟨rfl, hb⟩; refine ⟨_, rfl, ?_⟩; replace BK478 := bK BK478 hb; replace HB := bH hb; clear hb; obtain ⟨z93_0, z93_1, z93_2, z93_3, y93_0, y93_1, y93_2, y93_3⟩ := y4 BK478))
          (try simp only [Act.put, List.setIfInBounds_toArray, List.set_cons_zero, List.set_cons_succ])
          go_cut [7] (fun v7 wc => ∃ (kq : Nat) (x7_89 : ByteArray), v7 = .string x7_89 ∧ Aside0 (sequiturref14_term.j1 kq l1 x7_89 a0_0 a0_1 a0_2 l0_3 = some r) ∧ Aside0 (kq ≤ kj2) ∧ Aside0 (wc.heap[gb478]? = some (.cells #[.int .i64 a0_0, .string a0_1, .int .i64 a0_2, (.slice A0_3 l0_3.length c0_3)] 53 (0, 0))) ∧ Aside0 (Below w.heap.size w wc))
          case first =>
           have H := HC90.out; clear HC90
           by_cases c94 : a0_2 < 0
           ·rw [if_pos c94] at H
            have c94b0 : decide (a0_2 < 0) = true := decide_eq_true c94; clear c94; (first | rw [c94b0] | (simp only [i64_w, i32_w]; rw [c94b0]) | skip); obtain ⟨t503, A95, H⟩ := bO H; have H' := am H; clear H
            go_wp2_with (first | ((with_reducible refine gate_callee (f := 69) rfl ?_); refine gL 126 Tryd.func69 #[.string t502] ?_; (with_reducible refine (sequiturref14_brackets.calls t502 t503 _ A95.out).mono ?_); rintro e w' ⟨rfl, ⟨nd, rfl⟩⟩; refine ⟨_, rfl, ?_⟩))
            go_meet
            case rel => exact ⟨_, (t503), eS, H', ⟨by have := HJ2.out; first | omega | exact Nat.le_refl _⟩, ⟨bD BK478⟩, ⟨bB⟩⟩
           ·rw [if_neg c94] at H
            have c94b0 : decide (a0_2 < 0) = false := decide_eq_false c94; clear c94; (first | rw [c94b0] | (simp only [i64_w, i32_w]; rw [c94b0]) | skip); have H' := am H; clear H; go_wp2; go_meet
            case rel => exact ⟨_, (t502), eS, H', ⟨by have := HJ2.out; first | omega | exact Nat.le_refl _⟩, ⟨bD BK478⟩, ⟨bB⟩⟩
          case rest =>
           clear HC90; (try clear c1); (try clear c2); (try clear p2); (try clear c4); (try clear p4); (try clear q4); (try clear hx4); (try clear qi4); (try clear c5); (try clear c6); (try clear c7); (try clear c8); (try clear c9); (try clear c24); (try clear c49); (try clear p49); (try clear q49); (try clear hx49); (try clear qi49); (try clear c54); (try clear c54b0); (try clear c54b1); (try clear c55); (try clear c57); (try clear c59); (try clear c68); (try clear c68b0); (try clear c68b1); (try clear c69); (try clear c70); (try clear c70b0); (try clear c70b1); (try clear c70b2); (try clear c73); (try clear c80); (try clear c80b0); (try clear c80b1); (try clear c80b2); (try clear c81); (try clear c82); (try clear c83); (try clear c94); (try clear c94b0); (try clear z71_0 z71_1 z71_2 z71_3); (try clear z74_0 z74_1 z74_2 z74_3); (try clear z81_0 z81_1 z81_2 z81_3); (try clear z84_0 z84_1 z84_2 z84_3); (try clear z91_0 z91_1 z91_2 z91_3); (try clear z93_0 z93_1 z93_2 z93_3); (try clear y71_0 y71_1 y71_2 y71_3); try clear y74_0 y74_1 y74_2 y74_3
           (try clear y81_0 y81_1 y81_2 y81_3); (try clear y84_0 y84_1 y84_2 y84_3); (try clear y91_0 y91_1 y91_2 y91_3); (try clear y93_0 y93_1 y93_2 y93_3); (try clear hx496_0); (try clear hx496_1); (try clear hx496_2); (try clear hx496_3); (try clear p496); (try clear q496); obtain ⟨kq, x7_89, rfl, HA, HJ89, BK478, HB⟩ := hcut
           cases kq with
           | zero => exact absurd HA.out (by simp [sequiturref14_term.j1])
           | succ kj89 =>
            have H := HA.out; clear HA; simp only [sequiturref14_term.j1] at H
            by_cases c96 : 0 < (l0_3.length : Int)
            ·rw [if_pos c96] at H
             have c96b0 : decide (0 < (l0_3.length : Int)) = true := decide_eq_true c96; have c96b1 : decide (0 < l0_3.length) = true := decide_eq_true (by omega); clear c96
             by_cases c97 : x7_89.size + 3 ≤ 9223372036854775807
             ·rw [if_pos c97] at H
              have c97b0 := eq_true c97; have c97b1 := decide_eq_true c97
              try have c97b2 := eq_false (Nat.not_lt.2 c97)
              obtain ⟨t506, A98, H⟩ := bO H
              by_cases c99 : t506 = true
              ·subst c99
               rw [if_pos rfl] at H; obtain ⟨t507, A100, H⟩ := bO H
               by_cases c101 : (x7_89 ++ (⟨#[32, 42, 32]⟩ : ByteArray)).size + t507.size ≤ 9223372036854775807
               ·rw [if_pos c101] at H
                have c101b0 := eq_true c101; have c101b1 := decide_eq_true c101; have c101n : x7_89.size + 3 + t507.size ≤ 9223372036854775807 := by have h_ := c101; simp only [ByteArray.size_append] at h_; have z0_ : (⟨#[32, 42, 32]⟩ : ByteArray).size = 3 := rfl; first | exact h_ | omega
                have c101b3 := eq_true c101n; have c101b4 : (9223372036854775807 < x7_89.size + 3 + t507.size) = False := eq_false (Nat.not_lt.2 c101n)
                try have c101b2 := eq_false (Nat.not_lt.2 c101)
                obtain rfl := Option.some.inj H; obtain ⟨z102_0, z102_1, z102_2, z102_3, y102_0, y102_1, y102_2, y102_3⟩ := y4 BK478; have p504 : 0 ≤ (0 : Int) := (by omega); have q504 : 0 < (l0_3.length : Int) := of_decide_eq_true eA; obtain ⟨ad504, A504_3, c504_3, e504, hx504_0, hx504_1, hx504_2, hx504_3, hl504_3, hi504_3⟩ := at_T53 HR0_3.out 0 p504 q504
                cases e504
                have qi504 : (0 < l0_3.length) = True := eq_true (by omega); (try rw [show ((0 : Int)).toNat = 0 from rfl] at hx504_0); (try rw [show 0 * 4 = 0 from rfl] at hx504_0); (try rw [Addr.add_zero'] at hx504_0); (try rw [show ((0 : Int)).toNat = 0 from rfl] at hx504_1); (try rw [show 0 * 4 = 0 from rfl] at hx504_1); (try rw [Addr.add_zero'] at hx504_1); (try rw [show ((0 : Int)).toNat = 0 from rfl] at hx504_2); (try rw [show 0 * 4 = 0 from rfl] at hx504_2); (try rw [Addr.add_zero'] at hx504_2); (try rw [show ((0 : Int)).toNat = 0 from rfl] at hx504_3); (try rw [show 0 * 4 = 0 from rfl] at hx504_3); (try rw [Addr.add_zero'] at hx504_3); replace hx504_0 := cX HB hx504_0; replace hx504_1 := cX HB hx504_1; replace hx504_2 := cX HB hx504_2; replace hx504_3 := cX HB hx504_3; have HR504_3 := am hi504_3; have HC504_3 := am hl504_3; clear hi504_3 hl504_3; replace p504 := eq_true p504; replace q504 := eq_true q504
                try go_wp2_with (first | ((with_reducible refine gate_dst (N := 8) rfl ?_); refine bE 8 #[.int .i64 0, .string (⟨#[]⟩ : ByteArray), .int .i64 0, .slice none 0 0] 53 ?_; intro gb505 w103 BK505 hg hb; have GW505 := bZ hg; have GE505 := bZ hg; replace HB := bH hb; have NB478_505 := bN BK478 hg; have NB505_478 := bM BK478 hg; replace BK478 := bK BK478 hb; clear hb hg; have hnb104 := NB505_478.out; have hnc104 := NB478_505.out; obtain ⟨z105_0, z105_1, z105_2, z105_3, y105_0, y105_1, y105_2, y105_3⟩ := y4 BK505))
                have n0_ := bX4 (.int .i64 ((rd_T53 l0_3 0).f0)) (.string ((rd_T53 l0_3 0).f1)) (.int .i64 ((rd_T53 l0_3 0).f2)) (.slice A504_3 ((rd_T53 l0_3 0).f3).length c504_3) BK478 NB478_505.out; have n1_ := bP4 (.int .i64 ((rd_T53 l0_3 0).f0)) (.string ((rd_T53 l0_3 0).f1)) (.int .i64 ((rd_T53 l0_3 0).f2)) (.slice A504_3 ((rd_T53 l0_3 0).f3).length c504_3) BK505; have n2_ := hS4 (.int .i64 ((rd_T53 l0_3 0).f0)) (.string ((rd_T53 l0_3 0).f1)) (.int .i64 ((rd_T53 l0_3 0).f2)) (.slice A504_3 ((rd_T53 l0_3 0).f3).length c504_3) GE505 HB; (try clear BK478); (try clear BK505); (try clear HB); generalize ((((w103.setCell ⟨gb505, 0, none⟩ (.int .i64 ((rd_T53 l0_3 0).f0))).setCell ⟨gb505, 1, none⟩ (.string ((rd_T53 l0_3 0).f1))).setCell ⟨gb505, 2, none⟩ (.int .i64 ((rd_T53 l0_3 0).f2))).setCell ⟨gb505, 3, none⟩ (.slice A504_3 ((rd_T53 l0_3 0).f3).length c504_3)) = w106 at n0_ n1_ n2_ ⊢
                have BK478 := n0_; have BK505 := n1_; have HB := n2_; clear n0_ n1_ n2_; replace BK478 := am (blk_drew BK478.out); replace BK505 := am (blk_drew BK505.out); replace HB := am (below_drew1 HB.out); refine sS 14 (e4 BK505) fun hHeld => ?_
                refine with_tabW sequiturref14_term.tab25 sequiturref14_term.bits25 (fun HT_ HW_ => ?_); generalize w106.drew = w107 at BK478 BK505 HB hHeld ⊢
                refine pS 0 131 ?_; refine pS 1 132 ?_; refine pS 3 134 ?_; refine tS 2 133 ?_; refine tS 4 135 ?_; refine oS 5 136 fun K hK => ?_
                refine goS Tryd.func82 #[.agg #[.int .i64 ((rd_T53 l0_3 0).f0), .string ((rd_T53 l0_3 0).f1), .int .i64 ((rd_T53 l0_3 0).f2), .slice A504_3 ((rd_T53 l0_3 0).f3).length c504_3]] ?_; (with_reducible refine (sequiturref14_sum.calls ((rd_T53 l0_3 0).f0) ((rd_T53 l0_3 0).f1) ((rd_T53 l0_3 0).f2) _ _ ((rd_T53 l0_3 0).f3) true _ ?side1 HC504_3.out A98.out).mono ?_); (case side1 => exact cB HR504_3); rintro e w108 ⟨rfl, hb⟩; refine ⟨_, rfl, ?_⟩; replace BK478 := bK BK478 hb; replace BK505 := bK BK505 hb; replace HB := bH hb; clear hb; refine hK.out _ _ (e4 BK505) fun hHeld => ?_
                clear hK K; refine nS 136 ?_; refine pS 6 137 ?_; refine pure_ (i := 7) (N := some 138) (v := undef) (a' := ?_) #[true, true, true, true, true, true, true, true, false, false, false, false, false, false] rfl rfl (any_of HT_.out (by kernel_rfl)) (fun _ _ _ h => h) (Or.inr ⟨by rfl, rfl⟩) ?_ ?_
                rotate_left
                · simp only [Act.put, List.setIfInBounds_toArray, List.set_cons_zero, List.set_cons_succ, i64_w, i32_w]
                  rfl
                refine pure_ (i := 8) (N := some 139) (v := undef) (a' := ?_) #[true, true, true, true, true, true, true, true, true, false, false, false, false, false] rfl rfl (any_of HT_.out (by kernel_rfl)) (fun _ _ _ h => h) (Or.inr ⟨by rfl, rfl⟩) ?_ ?_
                rotate_left
                · simp only [Act.put, List.setIfInBounds_toArray, List.set_cons_zero, List.set_cons_succ, i64_w, i32_w]
                  rfl
                refine pure_ (i := 9) (N := some 140) (v := undef) (a' := ?_) #[true, true, true, true, true, true, true, true, true, true, false, false, false, false] rfl rfl (any_of HT_.out (by kernel_rfl)) (fun _ _ _ h => h) (Or.inr ⟨by rfl, rfl⟩) ?_ ?_
                rotate_left
                · simp only [Act.put, List.setIfInBounds_toArray, List.set_cons_zero, List.set_cons_succ, i64_w, i32_w]
                  rfl
                refine pS 10 141 ?_; refine oS 11 142 fun K hK => ?_
                refine goS Tryd.func81 #[.agg #[.int .i64 ((rd_T53 l0_3 0).f0), .string ((rd_T53 l0_3 0).f1), .int .i64 ((rd_T53 l0_3 0).f2), .slice A504_3 ((rd_T53 l0_3 0).f3).length c504_3], .slice A1 l1.length c1, .bool true] ?_; (with_reducible refine (ih_sequiturref14_side kj89 (by have := HJ2.out; have := HJ89.out; omega) ((rd_T53 l0_3 0).f0) ((rd_T53 l0_3 0).f1) ((rd_T53 l0_3 0).f2) _ _ ((rd_T53 l0_3 0).f3) _ _ l1 true t507 _ ?side1 HC504_3.out ?side3 HC1.out A100.out).mono ?_); (case side1 => exact cB HR504_3); (case side3 => exact cB HR1); rintro e w109 ⟨rfl, hb⟩; refine ⟨_, rfl, ?_⟩; replace BK478 := bK BK478 hb; replace BK505 := bK BK505 hb; replace HB := bH hb; clear hb; refine hK.out _ _ (e4 BK505) fun hHeld => ?_
                clear hK K; refine nS 142 ?_; refine pS 12 143 ?_; refine pS 13 4 ?_; refine done_ (done_of HT_.out (by kernel_rfl)) ?_
                try go_wp2
                go_ret; exact ⟨eW, bB⟩
               ·rw [if_neg c101] at H
                exact absurd H (by simp)
              ·replace c99 := Bool.eq_false_iff.mpr c99
               subst c99; rw [if_neg (show ¬ (false = true) by decide)] at H; obtain ⟨t508, A110, H⟩ := bO H
               by_cases c111 : (x7_89 ++ (⟨#[32, 42, 32]⟩ : ByteArray)).size + t508.size ≤ 9223372036854775807
               ·rw [if_pos c111] at H
                have c111b0 := eq_true c111; have c111b1 := decide_eq_true c111; have c111n : x7_89.size + 3 + t508.size ≤ 9223372036854775807 := by have h_ := c111; simp only [ByteArray.size_append] at h_; have z0_ : (⟨#[32, 42, 32]⟩ : ByteArray).size = 3 := rfl; first | exact h_ | omega
                have c111b3 := eq_true c111n; have c111b4 : (9223372036854775807 < x7_89.size + 3 + t508.size) = False := eq_false (Nat.not_lt.2 c111n)
                try have c111b2 := eq_false (Nat.not_lt.2 c111)
                obtain rfl := Option.some.inj H; obtain ⟨z112_0, z112_1, z112_2, z112_3, y112_0, y112_1, y112_2, y112_3⟩ := y4 BK478; have p504 : 0 ≤ (0 : Int) := (by omega); have q504 : 0 < (l0_3.length : Int) := of_decide_eq_true eA; obtain ⟨ad504, A504_3, c504_3, e504, hx504_0, hx504_1, hx504_2, hx504_3, hl504_3, hi504_3⟩ := at_T53 HR0_3.out 0 p504 q504
                cases e504
                have qi504 : (0 < l0_3.length) = True := eq_true (by omega); (try rw [show ((0 : Int)).toNat = 0 from rfl] at hx504_0); (try rw [show 0 * 4 = 0 from rfl] at hx504_0); (try rw [Addr.add_zero'] at hx504_0); (try rw [show ((0 : Int)).toNat = 0 from rfl] at hx504_1); (try rw [show 0 * 4 = 0 from rfl] at hx504_1); (try rw [Addr.add_zero'] at hx504_1); (try rw [show ((0 : Int)).toNat = 0 from rfl] at hx504_2); (try rw [show 0 * 4 = 0 from rfl] at hx504_2); (try rw [Addr.add_zero'] at hx504_2); (try rw [show ((0 : Int)).toNat = 0 from rfl] at hx504_3); (try rw [show 0 * 4 = 0 from rfl] at hx504_3); (try rw [Addr.add_zero'] at hx504_3); replace hx504_0 := cX HB hx504_0; replace hx504_1 := cX HB hx504_1; replace hx504_2 := cX HB hx504_2; replace hx504_3 := cX HB hx504_3; have HR504_3 := am hi504_3; have HC504_3 := am hl504_3; clear hi504_3 hl504_3; replace p504 := eq_true p504; replace q504 := eq_true q504
                try go_wp2_with (first | ((with_reducible refine gate_dst (N := 8) rfl ?_); refine bE 8 #[.int .i64 0, .string (⟨#[]⟩ : ByteArray), .int .i64 0, .slice none 0 0] 53 ?_; intro gb505 w113 BK505 hg hb; have GW505 := bZ hg; have GE505 := bZ hg; replace HB := bH hb; have NB478_505 := bN BK478 hg; have NB505_478 := bM BK478 hg; replace BK478 := bK BK478 hb; clear hb hg; have hnb114 := NB505_478.out; have hnc114 := NB478_505.out; obtain ⟨z115_0, z115_1, z115_2, z115_3, y115_0, y115_1, y115_2, y115_3⟩ := y4 BK505))
                have n0_ := bX4 (.int .i64 ((rd_T53 l0_3 0).f0)) (.string ((rd_T53 l0_3 0).f1)) (.int .i64 ((rd_T53 l0_3 0).f2)) (.slice A504_3 ((rd_T53 l0_3 0).f3).length c504_3) BK478 NB478_505.out; have n1_ := bP4 (.int .i64 ((rd_T53 l0_3 0).f0)) (.string ((rd_T53 l0_3 0).f1)) (.int .i64 ((rd_T53 l0_3 0).f2)) (.slice A504_3 ((rd_T53 l0_3 0).f3).length c504_3) BK505; have n2_ := hS4 (.int .i64 ((rd_T53 l0_3 0).f0)) (.string ((rd_T53 l0_3 0).f1)) (.int .i64 ((rd_T53 l0_3 0).f2)) (.slice A504_3 ((rd_T53 l0_3 0).f3).length c504_3) GE505 HB; (try clear BK478); (try clear BK505); (try clear HB); generalize ((((w113.setCell ⟨gb505, 0, none⟩ (.int .i64 ((rd_T53 l0_3 0).f0))).setCell ⟨gb505, 1, none⟩ (.string ((rd_T53 l0_3 0).f1))).setCell ⟨gb505, 2, none⟩ (.int .i64 ((rd_T53 l0_3 0).f2))).setCell ⟨gb505, 3, none⟩ (.slice A504_3 ((rd_T53 l0_3 0).f3).length c504_3)) = w116 at n0_ n1_ n2_ ⊢
                have BK478 := n0_; have BK505 := n1_; have HB := n2_; clear n0_ n1_ n2_; replace BK478 := am (blk_drew BK478.out); replace BK505 := am (blk_drew BK505.out); replace HB := am (below_drew1 HB.out); refine sS 14 (e4 BK505) fun hHeld => ?_
                refine with_tabW sequiturref14_term.tab25 sequiturref14_term.bits25 (fun HT_ HW_ => ?_); generalize w116.drew = w117 at BK478 BK505 HB hHeld ⊢
                refine pS 0 131 ?_; refine pS 1 132 ?_; refine pS 3 134 ?_; refine tS 2 133 ?_; refine tS 4 135 ?_; refine oS 5 136 fun K hK => ?_
                refine goS Tryd.func82 #[.agg #[.int .i64 ((rd_T53 l0_3 0).f0), .string ((rd_T53 l0_3 0).f1), .int .i64 ((rd_T53 l0_3 0).f2), .slice A504_3 ((rd_T53 l0_3 0).f3).length c504_3]] ?_; (with_reducible refine (sequiturref14_sum.calls ((rd_T53 l0_3 0).f0) ((rd_T53 l0_3 0).f1) ((rd_T53 l0_3 0).f2) _ _ ((rd_T53 l0_3 0).f3) false _ ?side1 HC504_3.out A98.out).mono ?_); (case side1 => exact cB HR504_3); rintro e w118 ⟨rfl, hb⟩; refine ⟨_, rfl, ?_⟩; replace BK478 := bK BK478 hb; replace BK505 := bK BK505 hb; replace HB := bH hb; clear hb; refine hK.out _ _ (e4 BK505) fun hHeld => ?_
                clear hK K; refine nS 136 ?_; refine pS 6 137 ?_; refine pS 7 138 ?_; refine tS 8 139 ?_; refine pS 9 140 ?_; refine pS 10 141 ?_; refine oS 11 142 fun K hK => ?_
                refine goS Tryd.func81 #[.agg #[.int .i64 ((rd_T53 l0_3 0).f0), .string ((rd_T53 l0_3 0).f1), .int .i64 ((rd_T53 l0_3 0).f2), .slice A504_3 ((rd_T53 l0_3 0).f3).length c504_3], .slice A1 l1.length c1, .bool (((rd_T53 l0_3 0).f0) == 8)] ?_; (with_reducible refine (ih_sequiturref14_side kj89 (by have := HJ2.out; have := HJ89.out; omega) ((rd_T53 l0_3 0).f0) ((rd_T53 l0_3 0).f1) ((rd_T53 l0_3 0).f2) _ _ ((rd_T53 l0_3 0).f3) _ _ l1 (((rd_T53 l0_3 0).f0) == 8) t508 _ ?side1 HC504_3.out ?side3 HC1.out A110.out).mono ?_); (case side1 => exact cB HR504_3); (case side3 => exact cB HR1); rintro e w119 ⟨rfl, hb⟩; refine ⟨_, rfl, ?_⟩; replace BK478 := bK BK478 hb; replace BK505 := bK BK505 hb; replace HB := bH hb; clear hb; refine hK.out _ _ (e4 BK505) fun hHeld => ?_
                clear hK K; refine nS 142 ?_; refine pS 12 143 ?_; refine pS 13 4 ?_; refine done_ (done_of HT_.out (by kernel_rfl)) ?_
                try go_wp2
                go_ret; exact ⟨eW, bB⟩
               ·rw [if_neg c111] at H
                exact absurd H (by simp)
             ·rw [if_neg c97] at H
              exact absurd H (by simp)
            ·rw [if_neg c96] at H
             exact absurd H (by simp)
set_option maxHeartbeats 8000000 in
set_option maxRecDepth 100000 in
theorem sequiturref14_list.step (k : Nat) (ih_sequiturref14_term : ∀ j_, j_ < k → ∀ (a0_0 : Int) (a0_1 : ByteArray) (a0_2 : Int) (A0_3 : Option Addr) (c0_3 : Nat) (l0_3 : List (S53)) (A1 : Option Addr) (c1 : Nat) (l1 : List ByteArray) (r : ByteArray) (w : World) (hr0_3 : Kd.C k53 w A0_3 l0_3.length l0_3) (hc0_3 : l0_3.length ≤ c0_3) (hr1 : Kd.C Kd.string w A1 l1.length l1) (hc1 : l1.length ≤ c1) (h : sequiturref14_term.f j_ a0_0 a0_1 a0_2 l0_3 l1 = some r),
    Calls Tryd.prog 68 #[.agg #[.int .i64 a0_0, .string a0_1, .int .i64 a0_2, .slice A0_3 l0_3.length c0_3], .slice A1 l1.length c1] w fun e w' => e = .returned (.string r) ∧ Below w.heap.size w w') (ih : ∀ j_, j_ < k → ∀ (A0 : Option Addr) (c0 : Nat) (l0 : List (S53)) (A1 : Option Addr) (c1 : Nat) (l1 : List ByteArray) (r : ByteArray) (w : World) (hr0 : Kd.C k53 w A0 l0.length l0) (hc0 : l0.length ≤ c0) (hr1 : Kd.C Kd.string w A1 l1.length l1) (hc1 : l1.length ≤ c1) (h : sequiturref14_list.f j_ l0 l1 = some r),
    Calls Tryd.prog 80 #[.slice A0 l0.length c0, .slice A1 l1.length c1] w fun e w' => e = .returned (.string r) ∧ Below w.heap.size w w') (ih_sequiturref14_side : ∀ j_, j_ < k → ∀ (a0_0 : Int) (a0_1 : ByteArray) (a0_2 : Int) (A0_3 : Option Addr) (c0_3 : Nat) (l0_3 : List (S53)) (A1 : Option Addr) (c1 : Nat) (l1 : List ByteArray) (a2 : Bool) (r : ByteArray) (w : World) (hr0_3 : Kd.C k53 w A0_3 l0_3.length l0_3) (hc0_3 : l0_3.length ≤ c0_3) (hr1 : Kd.C Kd.string w A1 l1.length l1) (hc1 : l1.length ≤ c1) (h : sequiturref14_side.f j_ a0_0 a0_1 a0_2 l0_3 l1 a2 = some r),
    Calls Tryd.prog 81 #[.agg #[.int .i64 a0_0, .string a0_1, .int .i64 a0_2, .slice A0_3 l0_3.length c0_3], .slice A1 l1.length c1, .bool a2] w fun e w' => e = .returned (.string r) ∧ Below w.heap.size w w') : ∀ (A0 : Option Addr) (c0 : Nat) (l0 : List (S53)) (A1 : Option Addr) (c1 : Nat) (l1 : List ByteArray) (r : ByteArray) (w : World) (hr0 : Kd.C k53 w A0 l0.length l0) (hc0 : l0.length ≤ c0) (hr1 : Kd.C Kd.string w A1 l1.length l1) (hc1 : l1.length ≤ c1) (h : sequiturref14_list.f k l0 l1 = some r),
    Calls Tryd.prog 80 #[.slice A0 l0.length c0, .slice A1 l1.length c1] w fun e w' => e = .returned (.string r) ∧ Below w.heap.size w w' := by
  intro A0 c0 l0 A1 c1 l1 r w hr0 hc0 hr1 hc1 h
  cases k with
  | zero => exact absurd h (by simp [sequiturref14_list.f])
  | succ k =>
  simp only [sequiturref14_list.f] at h; have hu53 := Tryd.underlying53; have HR0 := am hr0; have HC0 := am hc0; clear hr0 hc0; have HR1 := am hr1; have HC1 := am hc1; clear hr1 hc1; have HB := am (Below.refl w.heap.size w); have H := h; clear h; have H' := am H; clear H
  go_enter Tryd.func80, Tryd.ntmps80
  go_wp2
  go_loopg [5, 6] k (fun kq v5 v6 w' => ∃ (x5_1 : ByteArray) (x6_1 : Int), v5 = .string x5_1 ∧ v6 = .int .i64 x6_1 ∧ Aside0 (sequiturref14_list.l0 kq l0 l1 x5_1 x6_1 = some r) ∧ Aside0 (kq ≤ k) ∧ Aside0 (Below w.heap.size w w'))
  case atStart => exact ⟨((⟨#[]⟩ : ByteArray)), (0), eS, eS, H', ⟨Nat.le_refl _⟩, ⟨bB⟩⟩
  case round =>
   clear H'; (try clear c1); (try clear p2); obtain ⟨x5_1, x6_1, rfl, rfl, HA, HK1, HB⟩ := hrel
   cases gk with
   | zero => exact absurd HA.out (by simp [sequiturref14_list.l0])
   | succ k1 =>
    have H := HA.out; clear HA; simp only [sequiturref14_list.l0] at H
    by_cases c3 : x6_1 < (l0.length : Int)
    ·rw [if_pos c3] at H
     have c3b0 : decide (x6_1 < (l0.length : Int)) = true := decide_eq_true c3; clear c3
     by_cases c4 : x6_1 > 0
     ·rw [if_pos c4] at H
      have c4b0 : decide (0 < x6_1) = true := decide_eq_true c4; clear c4
      by_cases c5 : x5_1.size + 2 ≤ 9223372036854775807
      ·rw [if_pos c5] at H
       have c5b0 := eq_true c5; have c5b1 := decide_eq_true c5
       try have c5b2 := eq_false (Nat.not_lt.2 c5)
       by_cases c6 : 0 ≤ x6_1
       ·rw [if_pos c6] at H
        have c6b0 : decide (0 ≤ x6_1) = true := decide_eq_true c6; clear c6; obtain ⟨t510, A7, H⟩ := bO H
        by_cases c8 : (x5_1 ++ (⟨#[44, 32]⟩ : ByteArray)).size + t510.size ≤ 9223372036854775807
        ·rw [if_pos c8] at H
         have c8b0 := eq_true c8; have c8b1 := decide_eq_true c8; have c8n : x5_1.size + 2 + t510.size ≤ 9223372036854775807 := by have h_ := c8; simp only [ByteArray.size_append] at h_; have z0_ : (⟨#[44, 32]⟩ : ByteArray).size = 2 := rfl; first | exact h_ | omega
         have c8b3 := eq_true c8n; have c8b4 : (9223372036854775807 < x5_1.size + 2 + t510.size) = False := eq_false (Nat.not_lt.2 c8n)
         try have c8b2 := eq_false (Nat.not_lt.2 c8)
         have H' := am H; clear H; have p509 : 0 ≤ (x6_1 : Int) := of_decide_eq_true eA; have q509 : x6_1 < (l0.length : Int) := of_decide_eq_true eA; obtain ⟨ad509, A509_3, c509_3, e509, hx509_0, hx509_1, hx509_2, hx509_3, hl509_3, hi509_3⟩ := at_T53 HR0.out x6_1 p509 q509
         cases e509
         replace hx509_0 := cX HB hx509_0; replace hx509_1 := cX HB hx509_1; replace hx509_2 := cX HB hx509_2; replace hx509_3 := cX HB hx509_3; have HR509_3 := am hi509_3; have HC509_3 := am hl509_3; clear hi509_3 hl509_3; replace p509 := eq_true p509; replace q509 := eq_true q509
         go_wp2_with (first | ((with_reducible refine gate_callee (f := 68) rfl ?_); refine gL 23 Tryd.func68 #[.agg #[.int .i64 ((rd_T53 l0 x6_1).f0), .string ((rd_T53 l0 x6_1).f1), .int .i64 ((rd_T53 l0 x6_1).f2), .slice A509_3 ((rd_T53 l0 x6_1).f3).length c509_3], .slice A1 l1.length c1] ?_; (with_reducible refine (ih_sequiturref14_term k1 (by have := HK1.out; omega) ((rd_T53 l0 x6_1).f0) ((rd_T53 l0 x6_1).f1) ((rd_T53 l0 x6_1).f2) _ _ ((rd_T53 l0 x6_1).f3) _ _ l1 t510 _ ?side1 HC509_3.out ?side3 HC1.out A7.out).mono ?_); (case side1 => exact cB HR509_3); (case side3 => exact cB HR1); rintro e w9 ⟨rfl, hb⟩; refine ⟨_, rfl, ?_⟩; replace HB := bH hb; clear hb))
         go_roundg k1
         case measure => have := HK1.out; omega
         case rel => exact ⟨((x5_1 ++ (⟨#[44, 32]⟩ : ByteArray)) ++ t510), (wrap64 (x6_1 + 1)), eS, eS, H', ⟨by have := HK1.out; omega⟩, ⟨bB⟩⟩
        ·rw [if_neg c8] at H
         exact absurd H (by simp)
       ·rw [if_neg c6] at H
        exact absurd H (by simp)
      ·rw [if_neg c5] at H
       exact absurd H (by simp)
     ·rw [if_neg c4] at H
      have c4b0 : decide (0 < x6_1) = false := decide_eq_false c4; clear c4
      by_cases c10 : 0 ≤ x6_1
      ·rw [if_pos c10] at H
       have c10b0 : decide (0 ≤ x6_1) = true := decide_eq_true c10; clear c10; obtain ⟨t512, A11, H⟩ := bO H
       by_cases c12 : x5_1.size + t512.size ≤ 9223372036854775807
       ·rw [if_pos c12] at H
        have c12b0 := eq_true c12; have c12b1 := decide_eq_true c12
        try have c12b2 := eq_false (Nat.not_lt.2 c12)
        have H' := am H; clear H; have p511 : 0 ≤ (x6_1 : Int) := of_decide_eq_true eA; have q511 : x6_1 < (l0.length : Int) := of_decide_eq_true eA; obtain ⟨ad511, A511_3, c511_3, e511, hx511_0, hx511_1, hx511_2, hx511_3, hl511_3, hi511_3⟩ := at_T53 HR0.out x6_1 p511 q511
        cases e511
        replace hx511_0 := cX HB hx511_0; replace hx511_1 := cX HB hx511_1; replace hx511_2 := cX HB hx511_2; replace hx511_3 := cX HB hx511_3; have HR511_3 := am hi511_3; have HC511_3 := am hl511_3; clear hi511_3 hl511_3; replace p511 := eq_true p511; replace q511 := eq_true q511
        go_wp2_with (first | ((with_reducible refine gate_callee (f := 68) rfl ?_); refine gL 23 Tryd.func68 #[.agg #[.int .i64 ((rd_T53 l0 x6_1).f0), .string ((rd_T53 l0 x6_1).f1), .int .i64 ((rd_T53 l0 x6_1).f2), .slice A511_3 ((rd_T53 l0 x6_1).f3).length c511_3], .slice A1 l1.length c1] ?_; (with_reducible refine (ih_sequiturref14_term k1 (by have := HK1.out; omega) ((rd_T53 l0 x6_1).f0) ((rd_T53 l0 x6_1).f1) ((rd_T53 l0 x6_1).f2) _ _ ((rd_T53 l0 x6_1).f3) _ _ l1 t512 _ ?side1 HC511_3.out ?side3 HC1.out A11.out).mono ?_); (case side1 => exact cB HR511_3); (case side3 => exact cB HR1); rintro e w13 ⟨rfl, hb⟩; refine ⟨_, rfl, ?_⟩; replace HB := bH hb; clear hb))
        go_roundg k1
        case measure => have := HK1.out; omega
        case rel => exact ⟨(x5_1 ++ t512), (wrap64 (x6_1 + 1)), eS, eS, H', ⟨by have := HK1.out; omega⟩, ⟨bB⟩⟩
       ·rw [if_neg c12] at H
        exact absurd H (by simp)
      ·rw [if_neg c10] at H
       exact absurd H (by simp)
    ·rw [if_neg c3] at H
     have c3b0 : decide (x6_1 < (l0.length : Int)) = false := decide_eq_false c3; clear c3; obtain rfl := Option.some.inj H; go_wp2; go_ret; exact ⟨eW, bB⟩
end Go.Proofs.YtmlkllbaehegjaaDoor.PAll
end
