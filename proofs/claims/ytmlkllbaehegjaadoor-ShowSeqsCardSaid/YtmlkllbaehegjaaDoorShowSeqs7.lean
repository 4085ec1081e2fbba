import Derived.Test.YtmlkllbaehegjaaDoorShowSeqs2
import Derived.Test.YtmlkllbaehegjaaDoorShowSeqs6
section
namespace Go.Proofs.YtmlkllbaehegjaaDoor.PAll
open Go.RowKit Go.Proofs.YtmlkllbaehegjaaDoorW.PrintWords Go.Proofs.YtmlkllbaehegjaaDoorW.PrintLast Go.Proofs.YtmlkllbaehegjaaDoorW.PrintMore
attribute [local go_sem] max2_int min2_int max_two min_two max_three min_three max_four min_four
set_option linter.unusedVariables false
set_option linter.unusedSimpArgs false
def show_text.T10 : Bool × List (List Nat × List Nat) := (true, [([], []), ([], []), ([0, 1], [0, 1]), ([2], [2]), ([], []), ([4, 2], [4]), ([], []), ([], []), ([7, 5], [7]), ([8, 8], [8]), ([5, 6, 9, 9], [5, 6, 9]), ([3, 10], [3, 10]), ([11, 10, 0, 1, 2, 3, 4, 5, 6, 7, 8, 9, 10, 11], [11])])
def show_text.B10 : List Nat := [0, 0, 3, 7, 0, 23, 0, 0, 183, 439, 1015, 2047, 4095]
theorem show_text.tab10 : rtab .any (opsOf Tryd.f38 10) = show_text.T10 := by kernel_rfl
theorem show_text.bits10 : waitsOk show_text.T10.2 show_text.B10 = true := by kernel_rfl
def show_text.T12 : Bool × List (List Nat × List Nat) := (true, [([], []), ([], []), ([0, 1], [0, 1]), ([2], [2]), ([], []), ([4, 2], [4]), ([], []), ([], []), ([7, 5], [7]), ([8, 8], [8]), ([5, 6, 9, 9], [5, 6, 9]), ([3, 10], [3, 10]), ([11, 10, 0, 1, 2, 3, 4, 5, 6, 7, 8, 9, 10, 11], [11])])
def show_text.B12 : List Nat := [0, 0, 3, 7, 0, 23, 0, 0, 183, 439, 1015, 2047, 4095]
theorem show_text.tab12 : rtab .any (opsOf Tryd.f38 12) = show_text.T12 := by kernel_rfl
theorem show_text.bits12 : waitsOk show_text.T12.2 show_text.B12 = true := by kernel_rfl
def show_text.T14 : Bool × List (List Nat × List Nat) := (true, [([], []), ([], []), ([], []), ([2], [2]), ([3], [3]), ([4], [4]), ([5], [5]), ([6, 5, 5], [5, 6]), ([5, 7], [5, 7]), ([8, 7], [8]), ([9], [9]), ([10, 9], [9, 10]), ([11, 9], [9, 11]), ([9, 12], [9, 12]), ([0, 1, 13, 9], [0, 1, 13]), ([14], [14]), ([15, 14, 0, 1, 2, 3, 4, 5, 6, 7, 8, 9, 10, 11, 12, 13, 14, 15], [15])])
def show_text.B14 : List Nat := [0, 0, 0, 4, 12, 28, 60, 124, 252, 508, 1020, 2044, 4092, 8188, 16383, 32767, 65535]
theorem show_text.tab14 : rtab .any (opsOf Tryd.f38 14) = show_text.T14 := by kernel_rfl
theorem show_text.bits14 : waitsOk show_text.T14.2 show_text.B14 = true := by kernel_rfl
def show_text.T16 : Bool × List (List Nat × List Nat) := (true, [([], []), ([0], [0]), ([1], [1]), ([2], [2]), ([3], [3]), ([], []), ([], []), ([], []), ([7, 3], [7]), ([8, 8], [8]), ([9], [9]), ([10, 9], [9, 10]), ([11, 9], [9, 11]), ([9, 12], [9, 12]), ([5, 6, 13, 9], [5, 6, 13]), ([4, 14], [4, 14]), ([15, 14, 0, 1, 2, 3, 4, 5, 6, 7, 8, 9, 10, 11, 12, 13, 14, 15], [15])])
def show_text.B16 : List Nat := [0, 1, 3, 7, 15, 0, 0, 0, 143, 399, 911, 1935, 3983, 8079, 16367, 32767, 65535]
theorem show_text.tab16 : rtab .any (opsOf Tryd.f38 16) = show_text.T16 := by kernel_rfl
theorem show_text.bits16 : waitsOk show_text.T16.2 show_text.B16 = true := by kernel_rfl
set_option maxHeartbeats 8000000 in
set_option maxRecDepth 100000 in
theorem show_text.step (k : Nat) (ih : ∀ j_, j_ < k → ∀ (a0_0 : Int) (a0_1 : ByteArray) (a0_2 : Int) (A0_3 : Option Addr) (c0_3 : Nat) (l0_3 : List (S53)) (A1 : Option Addr) (c1 : Nat) (l1 : List ByteArray) (r : ByteArray) (w : World) (hG : Laid w) (hr0_3 : Kd.C k53 w A0_3 l0_3.length l0_3) (hc0_3 : l0_3.length ≤ c0_3) (hr1 : Kd.C Kd.string w A1 l1.length l1) (hc1 : l1.length ≤ c1) (h : show_text.f j_ a0_0 a0_1 a0_2 l0_3 l1 = some r),
    Calls Tryd.prog 38 #[.agg #[.int .i64 a0_0, .string a0_1, .int .i64 a0_2, .slice A0_3 l0_3.length c0_3], .slice A1 l1.length c1] w fun e w' => e = .returned (.string r) ∧ Below w.heap.size w w') (ih_show_apply : ∀ j_, j_ < k → ∀ (a0 : ByteArray) (A1 : Option Addr) (c1 : Nat) (l1 : List (S53)) (A2 : Option Addr) (c2 : Nat) (l2 : List ByteArray) (r : ByteArray) (w : World) (hG : Laid w) (hr1 : Kd.C k53 w A1 l1.length l1) (hc1 : l1.length ≤ c1) (hr2 : Kd.C Kd.string w A2 l2.length l2) (hc2 : l2.length ≤ c2) (h : show_apply.f j_ a0 l1 l2 = some r),
    Calls Tryd.prog 52 #[.string a0, .slice A1 l1.length c1, .slice A2 l2.length c2] w fun e w' => e = .returned (.string r) ∧ Below w.heap.size w w') (ih_show_side : ∀ j_, j_ < k → ∀ (a0_0 : Int) (a0_1 : ByteArray) (a0_2 : Int) (A0_3 : Option Addr) (c0_3 : Nat) (l0_3 : List (S53)) (A1 : Option Addr) (c1 : Nat) (l1 : List ByteArray) (a2 : Bool) (r : ByteArray) (w : World) (hG : Laid w) (hr0_3 : Kd.C k53 w A0_3 l0_3.length l0_3) (hc0_3 : l0_3.length ≤ c0_3) (hr1 : Kd.C Kd.string w A1 l1.length l1) (hc1 : l1.length ≤ c1) (h : show_side.f j_ a0_0 a0_1 a0_2 l0_3 l1 a2 = some r),
    Calls Tryd.prog 58 #[.agg #[.int .i64 a0_0, .string a0_1, .int .i64 a0_2, .slice A0_3 l0_3.length c0_3], .slice A1 l1.length c1, .bool a2] w fun e w' => e = .returned (.string r) ∧ Below w.heap.size w w') : ∀ (a0_0 : Int) (a0_1 : ByteArray) (a0_2 : Int) (A0_3 : Option Addr) (c0_3 : Nat) (l0_3 : List (S53)) (A1 : Option Addr) (c1 : Nat) (l1 : List ByteArray) (r : ByteArray) (w : World) (hG : Laid w) (hr0_3 : Kd.C k53 w A0_3 l0_3.length l0_3) (hc0_3 : l0_3.length ≤ c0_3) (hr1 : Kd.C Kd.string w A1 l1.length l1) (hc1 : l1.length ≤ c1) (h : show_text.f k a0_0 a0_1 a0_2 l0_3 l1 = some r),
    Calls Tryd.prog 38 #[.agg #[.int .i64 a0_0, .string a0_1, .int .i64 a0_2, .slice A0_3 l0_3.length c0_3], .slice A1 l1.length c1] w fun e w' => e = .returned (.string r) ∧ Below w.heap.size w w' := by
  intro a0_0 a0_1 a0_2 A0_3 c0_3 l0_3 A1 c1 l1 r w hG hr0_3 hc0_3 hr1 hc1 h
  cases k with
  | zero => exact absurd h (by simp [show_text.f])
  | succ k =>
  simp only [show_text.f] at h; have hu53 := Tryd.underlying53; have HR0_3 := am hr0_3; have HC0_3 := am hc0_3; clear hr0_3 hc0_3; have HR1 := am hr1; have HC1 := am hc1; clear hr1 hc1; have HG := am hG; clear hG; have HB := am (Below.refl w.heap.size w); have H := h; clear h; obtain ⟨⟨t165, t166, t167, t168⟩, A3, H⟩ := bO H; (try dsimp only at H)
  by_cases c4 : a0_0 = 4
  ·rw [if_pos c4] at H
   have c4b0 := beq_iff_eq.mpr c4; have c4b1 := bne_eq_false_iff_eq.mpr c4; clear c4; obtain ⟨t172, A5, H⟩ := bO H; obtain rfl := Option.some.inj H
   go_enter Tryd.func38, Tryd.ntmps38
   go_wp2_with (first | ((with_reducible refine gate_dst (N := 2) rfl ?_); (try (refine gate_guard (by rfl) ?_; dsimp only)); refine bE 2 #[.int .i64 a0_0, .string a0_1, .int .i64 a0_2, .slice A0_3 l0_3.length c0_3] 53 ?_; intro gb164 w6 BK164 hg hb; have GW164 := bZ hg; have GE164 := bZ hg; replace HB := bH hb; clear hb hg; obtain ⟨z7_0, z7_1, z7_2, z7_3, y7_0, y7_1, y7_2, y7_3⟩ := y4 BK164) | ((with_reducible refine gate_callee (f := 57) rfl ?_); refine gL 7 Tryd.func57 #[.agg #[.int .i64 a0_0, .string a0_1, .int .i64 a0_2, .slice A0_3 l0_3.length c0_3], .int .i64 0] ?_; (with_reducible refine (show_arg.calls a0_0 a0_1 a0_2 (fun k_ => k_ < w.heap.size) _ _ l0_3 0 t165 t166 t167 t168 _ ?side1 A3.out).mono ?_); (case side1 => exact Kd.V_mk HC0_3.out (Kd.F_below (Kd.C_F k53_heap HR0_3.out) bB)); rintro e w8 ⟨v169, rfl, ho0, hb⟩; refine ⟨_, rfl, ?_⟩; have HO170 := am (d8 ho0 GW164 BK164); replace BK164 := bK BK164 hb; replace HB := bH hb; clear hb ho0) | ((with_reducible refine gate_dst (N := 5) rfl ?_); (try (refine gate_guard (by rfl) ?_; dsimp only)); refine bE 5 #[.int .i64 0, .string (⟨#[]⟩ : ByteArray), .int .i64 0, .slice none 0 0] 53 ?_; intro gb171 w9 BK171 hg hb; replace HO170 := vE HO170 hg hb; have GW171 := bZ hg; have GE171 := bZ hg; replace HB := bH hb; have NB164_171 := bN BK164 hg; have NB171_164 := bM BK164 hg; replace BK164 := bK BK164 hb; clear hb hg; have hnb10 := NB171_164.out; have hnc10 := NB164_171.out; obtain ⟨z11_0, z11_1, z11_2, z11_3, y11_0, y11_1, y11_2, y11_3⟩ := y4 BK171; obtain ⟨Ao12, co12, eo12⟩ := Kd.V_slice HO170.out; subst eo12; obtain ⟨z13_0, z13_1, z13_2, z13_3, y13_0, y13_1, y13_2, y13_3⟩ := y4 BK164) | ((with_reducible refine gate_callee (f := 39) rfl ?_); refine gL 14 Tryd.func39 #[.int .i64 a0_2] ?_; (with_reducible refine (digit_Text.calls a0_2 t172 _ ?side1 A5.out).mono ?_); (case side1 => exact Laid.below HG.out bB); rintro e w14 ⟨rfl, hb⟩; refine ⟨_, rfl, ?_⟩; replace HO170 := vB (vF4 (.int .i64 t165) (.string t166) (.int .i64 t167) (.slice Ao12 t168.length co12) HO170 (fun _ hk => hk.2)) hb; replace BK164 := bK (bX4 _ _ _ _ BK164 NB164_171.out) hb; replace BK171 := bK (bP4 (.int .i64 t165) (.string t166) (.int .i64 t167) (.slice Ao12 t168.length co12) BK171) hb; replace HB := bH hb; clear hb))
   go_ret; exact ⟨eW, bB⟩
  ·rw [if_neg c4] at H
   have c4b0 := beq_eq_false_iff_ne.mpr c4; have c4b1 := bne_iff_ne.mpr c4
   by_cases c15 : a0_0 = 2
   ·rw [if_pos c15] at H
    have c15b0 := beq_iff_eq.mpr c15; have c15b1 := bne_eq_false_iff_eq.mpr c15; clear c15; have HC16 := am H; clear H
    go_enter Tryd.func38, Tryd.ntmps38
    go_upto_region 6 with (first | ((with_reducible refine gate_dst (N := 2) rfl ?_); (try (refine gate_guard (by rfl) ?_; dsimp only)); refine bE 2 #[.int .i64 a0_0, .string a0_1, .int .i64 a0_2, .slice A0_3 l0_3.length c0_3] 53 ?_; intro gb164 w17 BK164 hg hb; have GW164 := bZ hg; have GE164 := bZ hg; replace HB := bH hb; clear hb hg; obtain ⟨z18_0, z18_1, z18_2, z18_3, y18_0, y18_1, y18_2, y18_3⟩ := y4 BK164) | ((with_reducible refine gate_callee (f := 57) rfl ?_); refine gL 7 Tryd.func57 #[.agg #[.int .i64 a0_0, .string a0_1, .int .i64 a0_2, .slice A0_3 l0_3.length c0_3], .int .i64 0] ?_; (with_reducible refine (show_arg.calls a0_0 a0_1 a0_2 (fun k_ => k_ < w.heap.size) _ _ l0_3 0 t165 t166 t167 t168 _ ?side1 A3.out).mono ?_); (case side1 => exact Kd.V_mk HC0_3.out (Kd.F_below (Kd.C_F k53_heap HR0_3.out) bB)); rintro e w19 ⟨v169, rfl, ho0, hb⟩; refine ⟨_, rfl, ?_⟩; have HO170 := am (d8 ho0 GW164 BK164); replace BK164 := bK BK164 hb; replace HB := bH hb; clear hb ho0) | ((with_reducible refine gate_dst (N := 5) rfl ?_); (try (refine gate_guard (by rfl) ?_; dsimp only)); refine bE 5 #[.int .i64 0, .string (⟨#[]⟩ : ByteArray), .int .i64 0, .slice none 0 0] 53 ?_; intro gb171 w20 BK171 hg hb; replace HO170 := vE HO170 hg hb; have GW171 := bZ hg; have GE171 := bZ hg; replace HB := bH hb; have NB164_171 := bN BK164 hg; have NB171_164 := bM BK164 hg; replace BK164 := bK BK164 hb; clear hb hg; have hnb21 := NB171_164.out; have hnc21 := NB164_171.out; obtain ⟨z22_0, z22_1, z22_2, z22_3, y22_0, y22_1, y22_2, y22_3⟩ := y4 BK171; obtain ⟨Ao23, co23, eo23⟩ := Kd.V_slice HO170.out; subst eo23; obtain ⟨z24_0, z24_1, z24_2, z24_3, y24_0, y24_1, y24_2, y24_3⟩ := y4 BK164))
    (try simp only [Act.put, List.setIfInBounds_toArray, List.set_cons_zero, List.set_cons_succ])
    go_cut [26] (fun v26 wc => ∃ (kq : Nat) (x26_15 : Bool), v26 = .bool x26_15 ∧ Aside0 (show_text.j0 kq l1 x26_15 a0_0 a0_1 a0_2 l0_3 = some r) ∧ Aside0 (kq ≤ k) ∧ Aside0 (Kd.V k53 53 wc w.heap.size (fun k_ => k_ ≠ gb164 ∧ k_ ≠ gb171) (.slice Ao23 t168.length co23) t168) ∧ Aside0 (wc.heap[gb164]? = some (.cells #[.int .i64 a0_0, .string a0_1, .int .i64 a0_2, (.slice A0_3 l0_3.length c0_3)] 53 (0, 0))) ∧ Aside0 (wc.heap[gb171]? = some (.cells #[.int .i64 t165, .string t166, .int .i64 t167, (.slice Ao23 t168.length co23)] 53 (0, 0))) ∧ Aside0 (Below w.heap.size w wc))
    case first =>
     have H := HC16.out; clear HC16
     by_cases c25 : a0_2 ≥ 0
     ·rw [if_pos c25] at H
      have c25b0 : decide (0 ≤ a0_2) = true := decide_eq_true c25; clear c25; (first | rw [c25b0] | (simp only [i64_w, i32_w]; rw [c25b0]) | skip); have H' := am H; clear H; have hnb26 := NB164_171.out; have hnc26 := NB171_164.out; obtain ⟨z27_0, z27_1, z27_2, z27_3, y27_0, y27_1, y27_2, y27_3⟩ := y4 BK164; go_wp2; go_meet
      case rel => exact ⟨_, (decide (a0_2 < (l1.length : Int))), eS, H', ⟨eO⟩, ⟨by (with_reducible repeat (first | apply Kd.V_alloc | apply Kd.V_drewN | apply Kd.V_drew)); exact Kd.V_mono (Kd.V_far (p := ⟨gb171, 3, none⟩) (Kd.V_far (p := ⟨gb171, 2, none⟩) (Kd.V_far (p := ⟨gb171, 1, none⟩) (Kd.V_far (p := ⟨gb171, 0, none⟩) (Kd.V_mono HO170.out (fun k_ hk => (⟨hk, hk.2⟩ : _ ∧ k_ ≠ gb171))) (fun _ hk => hk.2) (.int .i64 t165)) (fun _ hk => hk.2) (.string t166)) (fun _ hk => hk.2) (.int .i64 t167)) (fun _ hk => hk.2) (.slice Ao23 t168.length co23)) (fun _ hk => ⟨hk.1.1, hk.1.2⟩)⟩, ⟨by (with_reducible repeat (first | refine blk_drewN ?_ _ | refine blk_drew ?_ | refine blk_alloc ?_ _)); refine blk_far ?_ NB164_171.out _; (with_reducible repeat (first | refine blk_drewN ?_ _ | refine blk_drew ?_ | refine blk_alloc ?_ _)); refine blk_far ?_ NB164_171.out _; (with_reducible repeat (first | refine blk_drewN ?_ _ | refine blk_drew ?_ | refine blk_alloc ?_ _)); refine blk_far ?_ NB164_171.out _; (with_reducible repeat (first | refine blk_drewN ?_ _ | refine blk_drew ?_ | refine blk_alloc ?_ _)); refine blk_far ?_ NB164_171.out _; (with_reducible repeat (first | refine blk_drewN ?_ _ | refine blk_drew ?_ | refine blk_alloc ?_ _)); exact BK164.out⟩, ⟨by (with_reducible repeat (first | refine blk_drewN ?_ _ | refine blk_drew ?_ | refine blk_alloc ?_ _)); refine blk_put (cs := #[.int .i64 t165, .string t166, .int .i64 t167, .slice none 0 0]) ?_ 3 _ rfl; (with_reducible repeat (first | refine blk_drewN ?_ _ | refine blk_drew ?_ | refine blk_alloc ?_ _)); refine blk_put (cs := #[.int .i64 t165, .string t166, .int .i64 0, .slice none 0 0]) ?_ 2 _ rfl; (with_reducible repeat (first | refine blk_drewN ?_ _ | refine blk_drew ?_ | refine blk_alloc ?_ _)); refine blk_put (cs := #[.int .i64 t165, .string (⟨#[]⟩ : ByteArray), .int .i64 0, .slice none 0 0]) ?_ 1 _ rfl; (with_reducible repeat (first | refine blk_drewN ?_ _ | refine blk_drew ?_ | refine blk_alloc ?_ _)); refine blk_put (cs := #[.int .i64 0, .string (⟨#[]⟩ : ByteArray), .int .i64 0, .slice none 0 0]) ?_ 0 _ rfl; (with_reducible repeat (first | refine blk_drewN ?_ _ | refine blk_drew ?_ | refine blk_alloc ?_ _)); exact BK171.out⟩, ⟨bB⟩⟩
     ·rw [if_neg c25] at H
      have c25b0 : decide (0 ≤ a0_2) = false := decide_eq_false c25; clear c25; (first | rw [c25b0] | (simp only [i64_w, i32_w]; rw [c25b0]) | skip); have H' := am H; clear H; have hnb28 := NB164_171.out; have hnc28 := NB171_164.out; obtain ⟨z29_0, z29_1, z29_2, z29_3, y29_0, y29_1, y29_2, y29_3⟩ := y4 BK164; go_wp2; go_meet
      case rel => exact ⟨_, (false), eS, H', ⟨eO⟩, ⟨by (with_reducible repeat (first | apply Kd.V_alloc | apply Kd.V_drewN | apply Kd.V_drew)); exact Kd.V_mono (Kd.V_far (p := ⟨gb171, 3, none⟩) (Kd.V_far (p := ⟨gb171, 2, none⟩) (Kd.V_far (p := ⟨gb171, 1, none⟩) (Kd.V_far (p := ⟨gb171, 0, none⟩) (Kd.V_mono HO170.out (fun k_ hk => (⟨hk, hk.2⟩ : _ ∧ k_ ≠ gb171))) (fun _ hk => hk.2) (.int .i64 t165)) (fun _ hk => hk.2) (.string t166)) (fun _ hk => hk.2) (.int .i64 t167)) (fun _ hk => hk.2) (.slice Ao23 t168.length co23)) (fun _ hk => ⟨hk.1.1, hk.1.2⟩)⟩, ⟨by (with_reducible repeat (first | refine blk_drewN ?_ _ | refine blk_drew ?_ | refine blk_alloc ?_ _)); refine blk_far ?_ NB164_171.out _; (with_reducible repeat (first | refine blk_drewN ?_ _ | refine blk_drew ?_ | refine blk_alloc ?_ _)); refine blk_far ?_ NB164_171.out _; (with_reducible repeat (first | refine blk_drewN ?_ _ | refine blk_drew ?_ | refine blk_alloc ?_ _)); refine blk_far ?_ NB164_171.out _; (with_reducible repeat (first | refine blk_drewN ?_ _ | refine blk_drew ?_ | refine blk_alloc ?_ _)); refine blk_far ?_ NB164_171.out _; (with_reducible repeat (first | refine blk_drewN ?_ _ | refine blk_drew ?_ | refine blk_alloc ?_ _)); exact BK164.out⟩, ⟨by (with_reducible repeat (first | refine blk_drewN ?_ _ | refine blk_drew ?_ | refine blk_alloc ?_ _)); refine blk_put (cs := #[.int .i64 t165, .string t166, .int .i64 t167, .slice none 0 0]) ?_ 3 _ rfl; (with_reducible repeat (first | refine blk_drewN ?_ _ | refine blk_drew ?_ | refine blk_alloc ?_ _)); refine blk_put (cs := #[.int .i64 t165, .string t166, .int .i64 0, .slice none 0 0]) ?_ 2 _ rfl; (with_reducible repeat (first | refine blk_drewN ?_ _ | refine blk_drew ?_ | refine blk_alloc ?_ _)); refine blk_put (cs := #[.int .i64 t165, .string (⟨#[]⟩ : ByteArray), .int .i64 0, .slice none 0 0]) ?_ 1 _ rfl; (with_reducible repeat (first | refine blk_drewN ?_ _ | refine blk_drew ?_ | refine blk_alloc ?_ _)); refine blk_put (cs := #[.int .i64 0, .string (⟨#[]⟩ : ByteArray), .int .i64 0, .slice none 0 0]) ?_ 0 _ rfl; (with_reducible repeat (first | refine blk_drewN ?_ _ | refine blk_drew ?_ | refine blk_alloc ?_ _)); exact BK171.out⟩, ⟨bB⟩⟩
    case rest =>
     clear HC16; (try clear c1); (try clear c2); (try clear p2); (try clear c3); (try clear c4); (try clear c4b0); (try clear c4b1); (try clear c5); (try clear c10); (try clear c15); (try clear c15b0); (try clear c15b1); (try clear c21); (try clear c25); (try clear c25b0); (try clear c26); (try clear c28); (try clear z11_0 z11_1 z11_2 z11_3); (try clear z13_0 z13_1 z13_2 z13_3); (try clear z18_0 z18_1 z18_2 z18_3); (try clear z22_0 z22_1 z22_2 z22_3); (try clear z24_0 z24_1 z24_2 z24_3); (try clear z27_0 z27_1 z27_2 z27_3); (try clear z29_0 z29_1 z29_2 z29_3); (try clear z7_0 z7_1 z7_2 z7_3); (try clear y11_0 y11_1 y11_2 y11_3); (try clear y13_0 y13_1 y13_2 y13_3); (try clear y18_0 y18_1 y18_2 y18_3); (try clear y22_0 y22_1 y22_2 y22_3); (try clear y24_0 y24_1 y24_2 y24_3); (try clear y27_0 y27_1 y27_2 y27_3); (try clear y29_0 y29_1 y29_2 y29_3); (try clear y7_0 y7_1 y7_2 y7_3); obtain ⟨kq, x26_15, rfl, HA, HJ15, HO_172003, BK164, BK171, HB⟩ := hcut
     cases kq with
     | zero => exact absurd HA.out (by simp [show_text.j0])
     | succ kj15 =>
      have H := HA.out; clear HA; simp only [show_text.j0] at H
      by_cases c30 : x26_15 = true
      ·subst c30
       rw [if_pos rfl] at H; obtain ⟨ji31, hji31⟩ : ∃ j_ : Int, (wrap64 ((wrap64 ((l1.length : Int) - 1)) - a0_2)) = j_ := ⟨_, rfl⟩; replace H : (if 0 ≤ (ji31) then (if (ji31) < (l1.length : Int) then (some (rdOf ByteArray.empty l1 (ji31))) else (none)) else (none)) = some r := by first | (rw [hji31] at H; exact H) | (simp only [hji31] at H ⊢; exact H)
       have hji31w : (IntKind.i64.wrap ((wrap64 ((l1.length : Int) - 1)) - a0_2)) = ji31 := (i64_w _).trans hji31
       by_cases c32 : 0 ≤ (ji31)
       ·rw [if_pos c32] at H
        have c32b0 : decide (0 ≤ (ji31)) = true := decide_eq_true c32; clear c32
        by_cases c33 : (ji31) < (l1.length : Int)
        ·rw [if_pos c33] at H
         have c33b0 : decide ((ji31) < (l1.length : Int)) = true := decide_eq_true c33; clear c33; obtain rfl := Option.some.inj H; have hnb34 := NB164_171.out; have hnc34 := NB171_164.out; obtain ⟨z35_0, z35_1, z35_2, z35_3, y35_0, y35_1, y35_2, y35_3⟩ := y4 BK164; have p173 : 0 ≤ ((ji31) : Int) := of_decide_eq_true eA; have q173 : (ji31) < (l1.length : Int) := of_decide_eq_true eA; obtain ⟨ad173, e173, hx173_0⟩ := Kd.at_string HR1.out (ji31) p173 q173
         cases e173
         replace hx173_0 := cX HB hx173_0; replace p173 := eq_true p173; replace q173 := eq_true q173; go_wp2; go_ret; exact ⟨by first | rfl | (simp [errW_none, errW_some] <;> rfl) | (simp only [← hji31]; first | rfl | (simp [errW_none, errW_some] <;> rfl)) | (simp [*, errW_none, errW_some] <;> rfl), bB⟩
        ·rw [if_neg c33] at H
         exact absurd H (by simp)
       ·rw [if_neg c32] at H
        exact absurd H (by simp)
      ·replace c30 := Bool.eq_false_iff.mpr c30
       subst c30; rw [if_neg (show ¬ (false = true) by decide)] at H; obtain ⟨t174, A36, H⟩ := bO H
       by_cases c37 : 1 + t174.size ≤ 9223372036854775807
       ·rw [if_pos c37] at H
        have c37b0 := eq_true c37; have c37b1 := decide_eq_true c37
        try have c37b2 := eq_false (Nat.not_lt.2 c37)
        obtain rfl := Option.some.inj H; have hnb38 := NB164_171.out; have hnc38 := NB171_164.out; obtain ⟨z39_0, z39_1, z39_2, z39_3, y39_0, y39_1, y39_2, y39_3⟩ := y4 BK164
        go_wp2_with (first | ((with_reducible refine gate_callee (f := 39) rfl ?_); refine gL 41 Tryd.func39 #[.int .i64 (wrap64 (a0_2 - (l1.length : Int)))] ?_; (with_reducible refine (digit_Text.calls (wrap64 (a0_2 - (l1.length : Int))) t174 _ ?side1 A36.out).mono ?_); (case side1 => exact Laid.below HG.out bB); rintro e w40 ⟨rfl, hb⟩; refine ⟨_, rfl, ?_⟩; replace HO_172003 := vB HO_172003 hb; replace BK164 := bK BK164 hb; replace BK171 := bK BK171 hb; replace HB := bH hb; clear hb))
        go_ret; exact ⟨eW, bB⟩
       ·rw [if_neg c37] at H
        exact absurd H (by simp)
   ·rw [if_neg c15] at H
    have c15b0 := beq_eq_false_iff_ne.mpr c15; have c15b1 := bne_iff_ne.mpr c15
    by_cases c41 : a0_0 = 5
    ·rw [if_pos c41] at H
     have c41b0 := beq_iff_eq.mpr c41; have c41b1 := bne_eq_false_iff_eq.mpr c41; clear c41; obtain ⟨t175, A42, H⟩ := bO H
     by_cases c43 : t175.size + 3 ≤ 9223372036854775807
     ·rw [if_pos c43] at H
      have c43b0 := eq_true c43; have c43b1 := decide_eq_true c43
      try have c43b2 := eq_false (Nat.not_lt.2 c43)
      obtain ⟨⟨t176, t177, t178, t179⟩, A44, H⟩ := bO H; (try dsimp only at H); obtain ⟨⟨t182, t183, t184, t185⟩, A45, H⟩ := bO H; (try dsimp only at H); obtain ⟨t188, A46, H⟩ := bO H; obtain ⟨t189, A47, H⟩ := bO H
      by_cases c48 : (t175 ++ (⟨#[32, 43, 32]⟩ : ByteArray)).size + t189.size ≤ 9223372036854775807
      ·rw [if_pos c48] at H
       have c48b0 := eq_true c48; have c48b1 := decide_eq_true c48; have c48n : t175.size + 3 + t189.size ≤ 9223372036854775807 := by have h_ := c48; simp only [ByteArray.size_append] at h_; have z0_ : (⟨#[32, 43, 32]⟩ : ByteArray).size = 3 := rfl; first | exact h_ | omega
       have c48b3 := eq_true c48n; have c48b4 : (9223372036854775807 < t175.size + 3 + t189.size) = False := eq_false (Nat.not_lt.2 c48n)
       try have c48b2 := eq_false (Nat.not_lt.2 c48)
       obtain rfl := Option.some.inj H
       go_enter Tryd.func38, Tryd.ntmps38
       try go_wp2_with (first | ((with_reducible refine gate_dst (N := 2) rfl ?_); (try (refine gate_guard (by rfl) ?_; dsimp only)); refine bE 2 #[.int .i64 a0_0, .string a0_1, .int .i64 a0_2, .slice A0_3 l0_3.length c0_3] 53 ?_; intro gb164 w49 BK164 hg hb; have GW164 := bZ hg; have GE164 := bZ hg; replace HB := bH hb; clear hb hg; obtain ⟨z50_0, z50_1, z50_2, z50_3, y50_0, y50_1, y50_2, y50_3⟩ := y4 BK164) | ((with_reducible refine gate_callee (f := 57) rfl ?_); refine gL 7 Tryd.func57 #[.agg #[.int .i64 a0_0, .string a0_1, .int .i64 a0_2, .slice A0_3 l0_3.length c0_3], .int .i64 0] ?_; (with_reducible refine (show_arg.calls a0_0 a0_1 a0_2 (fun k_ => k_ < w.heap.size) _ _ l0_3 0 t165 t166 t167 t168 _ ?side1 A3.out).mono ?_); (case side1 => exact Kd.V_mk HC0_3.out (Kd.F_below (Kd.C_F k53_heap HR0_3.out) bB)); rintro e w51 ⟨v169, rfl, ho0, hb⟩; refine ⟨_, rfl, ?_⟩; have HO170 := am (d8 ho0 GW164 BK164); replace BK164 := bK BK164 hb; replace HB := bH hb; clear hb ho0) | ((with_reducible refine gate_dst (N := 5) rfl ?_); (try (refine gate_guard (by rfl) ?_; dsimp only)); refine bE 5 #[.int .i64 0, .string (⟨#[]⟩ : ByteArray), .int .i64 0, .slice none 0 0] 53 ?_; intro gb171 w52 BK171 hg hb; replace HO170 := vE HO170 hg hb; have GW171 := bZ hg; have GE171 := bZ hg; replace HB := bH hb; have NB164_171 := bN BK164 hg; have NB171_164 := bM BK164 hg; replace BK164 := bK BK164 hb; clear hb hg; have hnb53 := NB171_164.out; have hnc53 := NB164_171.out; obtain ⟨z54_0, z54_1, z54_2, z54_3, y54_0, y54_1, y54_2, y54_3⟩ := y4 BK171; obtain ⟨Ao55, co55, eo55⟩ := Kd.V_slice HO170.out; subst eo55; obtain ⟨z56_0, z56_1, z56_2, z56_3, y56_0, y56_1, y56_2, y56_3⟩ := y4 BK164))
       have n0_ := vF4 (.int .i64 t165) (.string t166) (.int .i64 t167) (.slice Ao55 t168.length co55) HO170 (fun _ hk => hk.2); have n1_ := bX4 (.int .i64 t165) (.string t166) (.int .i64 t167) (.slice Ao55 t168.length co55) BK164 NB164_171.out; have n2_ := bP4 (.int .i64 t165) (.string t166) (.int .i64 t167) (.slice Ao55 t168.length co55) BK171; have n3_ := hS4 (.int .i64 t165) (.string t166) (.int .i64 t167) (.slice Ao55 t168.length co55) GE171 HB; (try clear HO170); (try clear BK164); (try clear BK171); (try clear HB); generalize ((((w52.setCell ⟨gb171, 0, none⟩ (.int .i64 t165)).setCell ⟨gb171, 1, none⟩ (.string t166)).setCell ⟨gb171, 2, none⟩ (.int .i64 t167)).setCell ⟨gb171, 3, none⟩ (.slice Ao55 t168.length co55)) = w57 at n0_ n1_ n2_ n3_ ⊢
       have HO170 := n0_; have BK164 := n1_; have BK171 := n2_; have HB := n3_; clear n0_ n1_ n2_ n3_; replace HO170 := am (Kd.V_drew HO170.out); replace BK164 := am (blk_drew BK164.out); replace BK171 := am (blk_drew BK171.out); replace HB := am (below_drew1 HB.out); refine sS 13 (k4 BK171 (e4 BK164)) fun hHeld => ?_
       refine with_tabW show_text.tab10 show_text.bits10 (fun HT_ HW_ => ?_); generalize w57.drew = w58 at HO170 BK164 BK171 HB hHeld ⊢
       refine pS 1 46 ?_; refine pS 6 51 ?_; refine tS 0 45 ?_; refine tS 4 49 ?_; refine tS 7 52 ?_; refine oS 2 47 fun K hK => ?_
       refine goS Tryd.func58 #[.agg #[.int .i64 t165, .string t166, .int .i64 t167, .slice Ao55 t168.length co55], .slice A1 l1.length c1, .bool false] ?_; (with_reducible refine (ih_show_side k (by omega) t165 t166 t167 _ _ t168 _ _ l1 false t175 _ ?side1 ?side2 ?side3 ?side4 HC1.out A42.out).mono ?_); (case side1 => exact Laid.below HG.out bB); (case side2 => exact cV HO170); (case side3 => exact (Kd.V_reads' HO170.out).2.1); (case side4 => exact cB HR1); rintro e w59 ⟨rfl, hb⟩; refine ⟨_, rfl, ?_⟩; replace HO170 := vB HO170 hb; replace BK164 := bK BK164 hb; replace BK171 := bK BK171 hb; replace HB := bH hb; clear hb; refine hK.out _ _ (k4 BK171 (e4 BK164)) fun hHeld => ?_
       clear hK K; refine nS 47 ?_; refine pS 3 48 ?_; refine oS 5 50 fun K hK => ?_
       refine goS Tryd.func57 #[.agg #[.int .i64 a0_0, .string a0_1, .int .i64 a0_2, .slice A0_3 l0_3.length c0_3], .int .i64 1] ?_; (with_reducible refine (show_arg.calls a0_0 a0_1 a0_2 (fun k_ => k_ < w.heap.size) _ _ l0_3 1 t176 t177 t178 t179 _ ?side1 A44.out).mono ?_); (case side1 => exact Kd.V_mk HC0_3.out (Kd.F_below (Kd.C_F k53_heap HR0_3.out) bB)); rintro e w60 ⟨v180, rfl, ho0, hb⟩; refine ⟨_, rfl, ?_⟩; replace HO170 := vB HO170 hb; have HO181 := am (d21 ho0 GW164 BK164 GW171 BK171); replace BK164 := bK BK164 hb; replace BK171 := bK BK171 hb; replace HB := bH hb; clear hb ho0; refine hK.out _ _ (k4 BK171 (e4 BK164)) fun hHeld => ?_
       clear hK K; refine nS 50 ?_; refine oS 8 53 fun K hK => ?_
       refine goS Tryd.func57 #[.agg #[.int .i64 a0_0, .string a0_1, .int .i64 a0_2, .slice A0_3 l0_3.length c0_3], .int .i64 1] ?_; (with_reducible refine (show_arg.calls a0_0 a0_1 a0_2 (fun k_ => k_ < w.heap.size) _ _ l0_3 1 t182 t183 t184 t185 _ ?side1 A45.out).mono ?_); (case side1 => exact Kd.V_mk HC0_3.out (Kd.F_below (Kd.C_F k53_heap HR0_3.out) bB)); rintro e w61 ⟨v186, rfl, ho0, hb⟩; refine ⟨_, rfl, ?_⟩; replace HO170 := vB HO170 hb; replace HO181 := vB HO181 hb; have HO187 := am (d21 ho0 GW164 BK164 GW171 BK171); replace BK164 := bK BK164 hb; replace BK171 := bK BK171 hb; replace HB := bH hb; clear hb ho0; obtain ⟨Ao62, co62, eo62⟩ := Kd.V_slice HO187.out
       (first | subst eo62 | (injection eo62 with f1_ f2_ f3_; have f4_ := f1_.symm; have f5_ := f3_.symm; clear f1_ f2_ f3_; subst f4_; subst f5_)); refine hK.out _ _ (k4 BK171 (e4 BK164)) fun hHeld => ?_
       clear hK K; refine nS 53 ?_; refine oS 9 54 fun K hK => ?_
       refine goS Tryd.func59 #[.agg #[.int .i64 t182, .string t183, .int .i64 t184, .slice Ao62 t185.length co62]] ?_; (with_reducible refine (show_sum.calls t182 t183 t184 _ _ t185 t188 _ ?side1 ?side2 A46.out).mono ?_); (case side1 => exact cV HO187); (case side2 => exact (Kd.V_reads' HO187.out).2.1); rintro e w63 ⟨rfl, hb⟩; refine ⟨_, rfl, ?_⟩; replace HO170 := vB HO170 hb; replace HO181 := vB HO181 hb; replace HO187 := vB HO187 hb; replace BK164 := bK BK164 hb; replace BK171 := bK BK171 hb; replace HB := bH hb; clear hb; obtain ⟨Ao64, co64, eo64⟩ := Kd.V_slice HO181.out; (first | subst eo64 | (injection eo64 with f1_ f2_ f3_; have f4_ := f1_.symm; have f5_ := f3_.symm; clear f1_ f2_ f3_; subst f4_; subst f5_)); refine hK.out _ _ (k4 BK171 (e4 BK164)) fun hHeld => ?_
       clear hK K; refine nS 54 ?_; refine oS 10 55 fun K hK => ?_
       refine goS Tryd.func58 #[.agg #[.int .i64 t176, .string t177, .int .i64 t178, .slice Ao64 t179.length co64], .slice A1 l1.length c1, .bool t188] ?_; (with_reducible refine (ih_show_side k (by omega) t176 t177 t178 _ _ t179 _ _ l1 t188 t189 _ ?side1 ?side2 ?side3 ?side4 HC1.out A47.out).mono ?_); (case side1 => exact Laid.below HG.out bB); (case side2 => exact cV HO181); (case side3 => exact (Kd.V_reads' HO181.out).2.1); (case side4 => exact cB HR1); rintro e w65 ⟨rfl, hb⟩; refine ⟨_, rfl, ?_⟩; replace HO170 := vB HO170 hb; replace HO181 := vB HO181 hb; replace HO187 := vB HO187 hb; replace BK164 := bK BK164 hb; replace BK171 := bK BK171 hb; replace HB := bH hb; clear hb; refine hK.out _ _ (k4 BK171 (e4 BK164)) fun hHeld => ?_
       clear hK K; refine nS 55 ?_; refine pS 11 56 ?_; refine pS 12 4 ?_; refine done_ (done_of HT_.out (by kernel_rfl)) ?_
       try go_wp2
       go_ret; exact ⟨eW, bB⟩
      ·rw [if_neg c48] at H
       exact absurd H (by simp)
     ·rw [if_neg c43] at H
      exact absurd H (by simp)
    ·rw [if_neg c41] at H
     have c41b0 := beq_eq_false_iff_ne.mpr c41; have c41b1 := bne_iff_ne.mpr c41
     by_cases c66 : a0_0 = 6
     ·rw [if_pos c66] at H
      have c66b0 := beq_iff_eq.mpr c66; have c66b1 := bne_eq_false_iff_eq.mpr c66; clear c66; obtain ⟨t190, A67, H⟩ := bO H
      by_cases c68 : t190.size + 3 ≤ 9223372036854775807
      ·rw [if_pos c68] at H
       have c68b0 := eq_true c68; have c68b1 := decide_eq_true c68
       try have c68b2 := eq_false (Nat.not_lt.2 c68)
       obtain ⟨⟨t191, t192, t193, t194⟩, A69, H⟩ := bO H; (try dsimp only at H); obtain ⟨⟨t197, t198, t199, t200⟩, A70, H⟩ := bO H; (try dsimp only at H); obtain ⟨t203, A71, H⟩ := bO H; obtain ⟨t204, A72, H⟩ := bO H
       by_cases c73 : (t190 ++ (⟨#[32, 45, 32]⟩ : ByteArray)).size + t204.size ≤ 9223372036854775807
       ·rw [if_pos c73] at H
        have c73b0 := eq_true c73; have c73b1 := decide_eq_true c73; have c73n : t190.size + 3 + t204.size ≤ 9223372036854775807 := by have h_ := c73; simp only [ByteArray.size_append] at h_; have z0_ : (⟨#[32, 45, 32]⟩ : ByteArray).size = 3 := rfl; first | exact h_ | omega
        have c73b3 := eq_true c73n; have c73b4 : (9223372036854775807 < t190.size + 3 + t204.size) = False := eq_false (Nat.not_lt.2 c73n)
        try have c73b2 := eq_false (Nat.not_lt.2 c73)
        obtain rfl := Option.some.inj H
        go_enter Tryd.func38, Tryd.ntmps38
        try go_wp2_with (first | ((with_reducible refine gate_dst (N := 2) rfl ?_); (try (refine gate_guard (by rfl) ?_; dsimp only)); refine bE 2 #[.int .i64 a0_0, .string a0_1, .int .i64 a0_2, .slice A0_3 l0_3.length c0_3] 53 ?_; intro gb164 w74 BK164 hg hb; have GW164 := bZ hg; have GE164 := bZ hg; replace HB := bH hb; clear hb hg; obtain ⟨z75_0, z75_1, z75_2, z75_3, y75_0, y75_1, y75_2, y75_3⟩ := y4 BK164) | ((with_reducible refine gate_callee (f := 57) rfl ?_); refine gL 7 Tryd.func57 #[.agg #[.int .i64 a0_0, .string a0_1, .int .i64 a0_2, .slice A0_3 l0_3.length c0_3], .int .i64 0] ?_; (with_reducible refine (show_arg.calls a0_0 a0_1 a0_2 (fun k_ => k_ < w.heap.size) _ _ l0_3 0 t165 t166 t167 t168 _ ?side1 A3.out).mono ?_); (case side1 => exact Kd.V_mk HC0_3.out (Kd.F_below (Kd.C_F k53_heap HR0_3.out) bB)); rintro e w76 ⟨v169, rfl, ho0, hb⟩; refine ⟨_, rfl, ?_⟩; have HO170 := am (d8 ho0 GW164 BK164); replace BK164 := bK BK164 hb; replace HB := bH hb; clear hb ho0) | ((with_reducible refine gate_dst (N := 5) rfl ?_); (try (refine gate_guard (by rfl) ?_; dsimp only)); refine bE 5 #[.int .i64 0, .string (⟨#[]⟩ : ByteArray), .int .i64 0, .slice none 0 0] 53 ?_; intro gb171 w77 BK171 hg hb; replace HO170 := vE HO170 hg hb; have GW171 := bZ hg; have GE171 := bZ hg; replace HB := bH hb; have NB164_171 := bN BK164 hg; have NB171_164 := bM BK164 hg; replace BK164 := bK BK164 hb; clear hb hg; have hnb78 := NB171_164.out; have hnc78 := NB164_171.out; obtain ⟨z79_0, z79_1, z79_2, z79_3, y79_0, y79_1, y79_2, y79_3⟩ := y4 BK171; obtain ⟨Ao80, co80, eo80⟩ := Kd.V_slice HO170.out; subst eo80; obtain ⟨z81_0, z81_1, z81_2, z81_3, y81_0, y81_1, y81_2, y81_3⟩ := y4 BK164))
        have n0_ := vF4 (.int .i64 t165) (.string t166) (.int .i64 t167) (.slice Ao80 t168.length co80) HO170 (fun _ hk => hk.2); have n1_ := bX4 (.int .i64 t165) (.string t166) (.int .i64 t167) (.slice Ao80 t168.length co80) BK164 NB164_171.out; have n2_ := bP4 (.int .i64 t165) (.string t166) (.int .i64 t167) (.slice Ao80 t168.length co80) BK171; have n3_ := hS4 (.int .i64 t165) (.string t166) (.int .i64 t167) (.slice Ao80 t168.length co80) GE171 HB; (try clear HO170); (try clear BK164); (try clear BK171); (try clear HB); generalize ((((w77.setCell ⟨gb171, 0, none⟩ (.int .i64 t165)).setCell ⟨gb171, 1, none⟩ (.string t166)).setCell ⟨gb171, 2, none⟩ (.int .i64 t167)).setCell ⟨gb171, 3, none⟩ (.slice Ao80 t168.length co80)) = w82 at n0_ n1_ n2_ n3_ ⊢
        have HO170 := n0_; have BK164 := n1_; have BK171 := n2_; have HB := n3_; clear n0_ n1_ n2_ n3_; replace HO170 := am (Kd.V_drew HO170.out); replace BK164 := am (blk_drew BK164.out); replace BK171 := am (blk_drew BK171.out); replace HB := am (below_drew1 HB.out); refine sS 13 (k4 BK171 (e4 BK164)) fun hHeld => ?_
        refine with_tabW show_text.tab12 show_text.bits12 (fun HT_ HW_ => ?_); generalize w82.drew = w83 at HO170 BK164 BK171 HB hHeld ⊢
        refine pS 1 60 ?_; refine pS 6 65 ?_; refine tS 0 59 ?_; refine tS 4 63 ?_; refine tS 7 66 ?_; refine oS 2 61 fun K hK => ?_
        refine goS Tryd.func58 #[.agg #[.int .i64 t165, .string t166, .int .i64 t167, .slice Ao80 t168.length co80], .slice A1 l1.length c1, .bool false] ?_; (with_reducible refine (ih_show_side k (by omega) t165 t166 t167 _ _ t168 _ _ l1 false t190 _ ?side1 ?side2 ?side3 ?side4 HC1.out A67.out).mono ?_); (case side1 => exact Laid.below HG.out bB); (case side2 => exact cV HO170); (case side3 => exact (Kd.V_reads' HO170.out).2.1); (case side4 => exact cB HR1); rintro e w84 ⟨rfl, hb⟩; refine ⟨_, rfl, ?_⟩; replace HO170 := vB HO170 hb; replace BK164 := bK BK164 hb; replace BK171 := bK BK171 hb; replace HB := bH hb; clear hb; refine hK.out _ _ (k4 BK171 (e4 BK164)) fun hHeld => ?_
        clear hK K; refine nS 61 ?_; refine pS 3 62 ?_; refine oS 5 64 fun K hK => ?_
        refine goS Tryd.func57 #[.agg #[.int .i64 a0_0, .string a0_1, .int .i64 a0_2, .slice A0_3 l0_3.length c0_3], .int .i64 1] ?_; (with_reducible refine (show_arg.calls a0_0 a0_1 a0_2 (fun k_ => k_ < w.heap.size) _ _ l0_3 1 t191 t192 t193 t194 _ ?side1 A69.out).mono ?_); (case side1 => exact Kd.V_mk HC0_3.out (Kd.F_below (Kd.C_F k53_heap HR0_3.out) bB)); rintro e w85 ⟨v195, rfl, ho0, hb⟩; refine ⟨_, rfl, ?_⟩; replace HO170 := vB HO170 hb; have HO196 := am (d21 ho0 GW164 BK164 GW171 BK171); replace BK164 := bK BK164 hb; replace BK171 := bK BK171 hb; replace HB := bH hb; clear hb ho0; refine hK.out _ _ (k4 BK171 (e4 BK164)) fun hHeld => ?_
        clear hK K; refine nS 64 ?_; refine oS 8 67 fun K hK => ?_
        refine goS Tryd.func57 #[.agg #[.int .i64 a0_0, .string a0_1, .int .i64 a0_2, .slice A0_3 l0_3.length c0_3], .int .i64 1] ?_; (with_reducible refine (show_arg.calls a0_0 a0_1 a0_2 (fun k_ => k_ < w.heap.size) _ _ l0_3 1 t197 t198 t199 t200 _ ?side1 A70.out).mono ?_); (case side1 => exact Kd.V_mk HC0_3.out (Kd.F_below (Kd.C_F k53_heap HR0_3.out) bB)); rintro e w86 ⟨v201, rfl, ho0, hb⟩; refine ⟨_, rfl, ?_⟩; replace HO170 := vB HO170 hb; replace HO196 := vB HO196 hb; have HO202 := am (d21 ho0 GW164 BK164 GW171 BK171); replace BK164 := bK BK164 hb; replace BK171 := bK BK171 hb; replace HB := bH hb; clear hb ho0; obtain ⟨Ao87, co87, eo87⟩ := Kd.V_slice HO202.out
        (first | subst eo87 | (injection eo87 with f1_ f2_ f3_; have f4_ := f1_.symm; have f5_ := f3_.symm; clear f1_ f2_ f3_; subst f4_; subst f5_)); refine hK.out _ _ (k4 BK171 (e4 BK164)) fun hHeld => ?_
        clear hK K; refine nS 67 ?_; refine oS 9 68 fun K hK => ?_
        refine goS Tryd.func59 #[.agg #[.int .i64 t197, .string t198, .int .i64 t199, .slice Ao87 t200.length co87]] ?_; (with_reducible refine (show_sum.calls t197 t198 t199 _ _ t200 t203 _ ?side1 ?side2 A71.out).mono ?_); (case side1 => exact cV HO202); (case side2 => exact (Kd.V_reads' HO202.out).2.1); rintro e w88 ⟨rfl, hb⟩; refine ⟨_, rfl, ?_⟩; replace HO170 := vB HO170 hb; replace HO196 := vB HO196 hb; replace HO202 := vB HO202 hb; replace BK164 := bK BK164 hb; replace BK171 := bK BK171 hb; replace HB := bH hb; clear hb; obtain ⟨Ao89, co89, eo89⟩ := Kd.V_slice HO196.out; (first | subst eo89 | (injection eo89 with f1_ f2_ f3_; have f4_ := f1_.symm; have f5_ := f3_.symm; clear f1_ f2_ f3_; subst f4_; subst f5_)); refine hK.out _ _ (k4 BK171 (e4 BK164)) fun hHeld => ?_
        clear hK K; refine nS 68 ?_; refine oS 10 69 fun K hK => ?_
        refine goS Tryd.func58 #[.agg #[.int .i64 t191, .string t192, .int .i64 t193, .slice Ao89 t194.length co89], .slice A1 l1.length c1, .bool t203] ?_; (with_reducible refine (ih_show_side k (by omega) t191 t192 t193 _ _ t194 _ _ l1 t203 t204 _ ?side1 ?side2 ?side3 ?side4 HC1.out A72.out).mono ?_); (case side1 => exact Laid.below HG.out bB); (case side2 => exact cV HO196); (case side3 => exact (Kd.V_reads' HO196.out).2.1); (case side4 => exact cB HR1); rintro e w90 ⟨rfl, hb⟩; refine ⟨_, rfl, ?_⟩; replace HO170 := vB HO170 hb; replace HO196 := vB HO196 hb; replace HO202 := vB HO202 hb; replace BK164 := bK BK164 hb; replace BK171 := bK BK171 hb; replace HB := bH hb; clear hb; refine hK.out _ _ (k4 BK171 (e4 BK164)) fun hHeld => ?_
        clear hK K; refine nS 69 ?_; refine pS 11 70 ?_; refine pS 12 4 ?_; refine done_ (done_of HT_.out (by kernel_rfl)) ?_
        try go_wp2
        go_ret; exact ⟨eW, bB⟩
       ·rw [if_neg c73] at H
        exact absurd H (by simp)
      ·rw [if_neg c68] at H
       exact absurd H (by simp)
     ·rw [if_neg c66] at H
      have c66b0 := beq_eq_false_iff_ne.mpr c66; have c66b1 := bne_iff_ne.mpr c66
      by_cases c91 : a0_0 = 7
      ·rw [if_pos c91] at H
       have c91b0 := beq_iff_eq.mpr c91; have c91b1 := bne_eq_false_iff_eq.mpr c91; clear c91
       by_cases c92 : t165 = 4
       ·rw [if_pos c92] at H
        have c92b0 := beq_iff_eq.mpr c92; have c92b1 := bne_eq_false_iff_eq.mpr c92; clear c92; obtain ⟨t205, A93, H⟩ := bO H
        by_cases c94 : 1 + t205.size ≤ 9223372036854775807
        ·rw [if_pos c94] at H
         have c94b0 := eq_true c94; have c94b1 := decide_eq_true c94
         try have c94b2 := eq_false (Nat.not_lt.2 c94)
         obtain rfl := Option.some.inj H
         go_enter Tryd.func38, Tryd.ntmps38
         try go_wp2_with (first | ((with_reducible refine gate_dst (N := 2) rfl ?_); (try (refine gate_guard (by rfl) ?_; dsimp only)); refine bE 2 #[.int .i64 a0_0, .string a0_1, .int .i64 a0_2, .slice A0_3 l0_3.length c0_3] 53 ?_; intro gb164 w95 BK164 hg hb; have GW164 := bZ hg; have GE164 := bZ hg; replace HB := bH hb; clear hb hg; obtain ⟨z96_0, z96_1, z96_2, z96_3, y96_0, y96_1, y96_2, y96_3⟩ := y4 BK164) | ((with_reducible refine gate_callee (f := 57) rfl ?_); refine gL 7 Tryd.func57 #[.agg #[.int .i64 a0_0, .string a0_1, .int .i64 a0_2, .slice A0_3 l0_3.length c0_3], .int .i64 0] ?_; (with_reducible refine (show_arg.calls a0_0 a0_1 a0_2 (fun k_ => k_ < w.heap.size) _ _ l0_3 0 t165 t166 t167 t168 _ ?side1 A3.out).mono ?_); (case side1 => exact Kd.V_mk HC0_3.out (Kd.F_below (Kd.C_F k53_heap HR0_3.out) bB)); rintro e w97 ⟨v169, rfl, ho0, hb⟩; refine ⟨_, rfl, ?_⟩; have HO170 := am (d8 ho0 GW164 BK164); replace BK164 := bK BK164 hb; replace HB := bH hb; clear hb ho0) | ((with_reducible refine gate_dst (N := 5) rfl ?_); (try (refine gate_guard (by rfl) ?_; dsimp only)); refine bE 5 #[.int .i64 0, .string (⟨#[]⟩ : ByteArray), .int .i64 0, .slice none 0 0] 53 ?_; intro gb171 w98 BK171 hg hb; replace HO170 := vE HO170 hg hb; have GW171 := bZ hg; have GE171 := bZ hg; replace HB := bH hb; have NB164_171 := bN BK164 hg; have NB171_164 := bM BK164 hg; replace BK164 := bK BK164 hb; clear hb hg; have hnb99 := NB171_164.out; have hnc99 := NB164_171.out; obtain ⟨z100_0, z100_1, z100_2, z100_3, y100_0, y100_1, y100_2, y100_3⟩ := y4 BK171; obtain ⟨Ao101, co101, eo101⟩ := Kd.V_slice HO170.out; subst eo101; obtain ⟨z102_0, z102_1, z102_2, z102_3, y102_0, y102_1, y102_2, y102_3⟩ := y4 BK164))
         have n0_ := vF4 (.int .i64 t165) (.string t166) (.int .i64 t167) (.slice Ao101 t168.length co101) HO170 (fun _ hk => hk.2); have n1_ := bX4 (.int .i64 t165) (.string t166) (.int .i64 t167) (.slice Ao101 t168.length co101) BK164 NB164_171.out; have n2_ := bP4 (.int .i64 t165) (.string t166) (.int .i64 t167) (.slice Ao101 t168.length co101) BK171; have n3_ := hS4 (.int .i64 t165) (.string t166) (.int .i64 t167) (.slice Ao101 t168.length co101) GE171 HB; (try clear HO170); (try clear BK164); (try clear BK171); (try clear HB); generalize ((((w98.setCell ⟨gb171, 0, none⟩ (.int .i64 t165)).setCell ⟨gb171, 1, none⟩ (.string t166)).setCell ⟨gb171, 2, none⟩ (.int .i64 t167)).setCell ⟨gb171, 3, none⟩ (.slice Ao101 t168.length co101)) = w103 at n0_ n1_ n2_ n3_ ⊢
         have HO170 := n0_; have BK164 := n1_; have BK171 := n2_; have HB := n3_; clear n0_ n1_ n2_ n3_; replace HO170 := am (Kd.V_drew HO170.out); replace BK164 := am (blk_drew BK164.out); replace BK171 := am (blk_drew BK171.out); replace HB := am (below_drew1 HB.out); refine sS 17 (e4 BK171) fun hHeld => ?_
         refine with_tabW show_text.tab14 show_text.bits14 (fun HT_ HW_ => ?_); generalize w103.drew = w104 at HO170 BK164 BK171 HB hHeld ⊢
         refine pS 1 74 ?_; refine pS 2 75 ?_; refine tS 0 73 ?_; refine tS 3 76 ?_; refine pS 4 77 ?_; refine pS 5 78 ?_; refine pure_ (i := 6) (N := some 79) (v := undef) (a' := ?_) #[true, true, true, true, true, true, true, false, false, false, false, false, false, false, false, false, false] rfl rfl (any_of HT_.out (by kernel_rfl)) (fun _ _ _ h => h) (Or.inr ⟨by rfl, rfl⟩) ?_ ?_
         rotate_left
         · simp only [Act.put, List.setIfInBounds_toArray, List.set_cons_zero, List.set_cons_succ, i64_w, i32_w]
           rfl
         refine pure_ (i := 7) (N := some 80) (v := undef) (a' := ?_) #[true, true, true, true, true, true, true, true, false, false, false, false, false, false, false, false, false] rfl rfl (any_of HT_.out (by kernel_rfl)) (fun _ _ _ h => h) (Or.inr ⟨by rfl, rfl⟩) ?_ ?_
         rotate_left
         · simp only [Act.put, List.setIfInBounds_toArray, List.set_cons_zero, List.set_cons_succ, i64_w, i32_w]
           rfl
         refine pS 8 81 ?_; refine pS 9 82 ?_; refine pure_ (i := 10) (N := some 83) (v := undef) (a' := ?_) #[true, true, true, true, true, true, true, true, true, true, true, false, false, false, false, false, false] rfl rfl (any_of HT_.out (by kernel_rfl)) (fun _ _ _ h => h) (Or.inr ⟨by rfl, rfl⟩) ?_ ?_
         rotate_left
         · simp only [Act.put, List.setIfInBounds_toArray, List.set_cons_zero, List.set_cons_succ, i64_w, i32_w]
           rfl
         refine pure_ (i := 11) (N := some 84) (v := undef) (a' := ?_) #[true, true, true, true, true, true, true, true, true, true, true, true, false, false, false, false, false] rfl rfl (any_of HT_.out (by kernel_rfl)) (fun _ _ _ h => h) (Or.inr ⟨by rfl, rfl⟩) ?_ ?_
         rotate_left
         · simp only [Act.put, List.setIfInBounds_toArray, List.set_cons_zero, List.set_cons_succ, i64_w, i32_w]
           rfl
         refine pure_ (i := 12) (N := some 85) (v := undef) (a' := ?_) #[true, true, true, true, true, true, true, true, true, true, true, true, true, false, false, false, false] rfl rfl (any_of HT_.out (by kernel_rfl)) (fun _ _ _ h => h) (Or.inr ⟨by rfl, rfl⟩) ?_ ?_
         rotate_left
         · simp only [Act.put, List.setIfInBounds_toArray, List.set_cons_zero, List.set_cons_succ, i64_w, i32_w]
           rfl
         refine pS 13 86 ?_; refine oS 14 87 fun K hK => ?_
         refine goS Tryd.func58 #[.agg #[.int .i64 t165, .string t166, .int .i64 t167, .slice Ao101 t168.length co101], .slice A1 l1.length c1, .bool true] ?_; (with_reducible refine (ih_show_side k (by omega) t165 t166 t167 _ _ t168 _ _ l1 true t205 _ ?side1 ?side2 ?side3 ?side4 HC1.out A93.out).mono ?_); (case side1 => exact Laid.below HG.out bB); (case side2 => exact cV HO170); (case side3 => exact (Kd.V_reads' HO170.out).2.1); (case side4 => exact cB HR1); rintro e w105 ⟨rfl, hb⟩; refine ⟨_, rfl, ?_⟩; replace HO170 := vB HO170 hb; replace BK164 := bK BK164 hb; replace BK171 := bK BK171 hb; replace HB := bH hb; clear hb; refine hK.out _ _ (e4 BK171) fun hHeld => ?_
         clear hK K; refine nS 87 ?_; refine pS 15 88 ?_; refine pS 16 4 ?_; refine done_ (done_of HT_.out (by kernel_rfl)) ?_
         try go_wp2
         go_ret; exact ⟨eW, bB⟩
        ·rw [if_neg c94] at H
         exact absurd H (by simp)
       ·rw [if_neg c92] at H
        have c92b0 := beq_eq_false_iff_ne.mpr c92; have c92b1 := bne_iff_ne.mpr c92; obtain ⟨t206, A106, H⟩ := bO H
        by_cases c107 : t206 = true
        ·subst c107
         rw [if_pos rfl] at H; obtain ⟨t207, A108, H⟩ := bO H
         by_cases c109 : 1 + t207.size ≤ 9223372036854775807
         ·rw [if_pos c109] at H
          have c109b0 := eq_true c109; have c109b1 := decide_eq_true c109
          try have c109b2 := eq_false (Nat.not_lt.2 c109)
          obtain rfl := Option.some.inj H
          go_enter Tryd.func38, Tryd.ntmps38
          try go_wp2_with (first | ((with_reducible refine gate_dst (N := 2) rfl ?_); (try (refine gate_guard (by rfl) ?_; dsimp only)); refine bE 2 #[.int .i64 a0_0, .string a0_1, .int .i64 a0_2, .slice A0_3 l0_3.length c0_3] 53 ?_; intro gb164 w110 BK164 hg hb; have GW164 := bZ hg; have GE164 := bZ hg; replace HB := bH hb; clear hb hg; obtain ⟨z111_0, z111_1, z111_2, z111_3, y111_0, y111_1, y111_2, y111_3⟩ := y4 BK164) | ((with_reducible refine gate_callee (f := 57) rfl ?_); refine gL 7 Tryd.func57 #[.agg #[.int .i64 a0_0, .string a0_1, .int .i64 a0_2, .slice A0_3 l0_3.length c0_3], .int .i64 0] ?_; (with_reducible refine (show_arg.calls a0_0 a0_1 a0_2 (fun k_ => k_ < w.heap.size) _ _ l0_3 0 t165 t166 t167 t168 _ ?side1 A3.out).mono ?_); (case side1 => exact Kd.V_mk HC0_3.out (Kd.F_below (Kd.C_F k53_heap HR0_3.out) bB)); rintro e w112 ⟨v169, rfl, ho0, hb⟩; refine ⟨_, rfl, ?_⟩; have HO170 := am (d8 ho0 GW164 BK164); replace BK164 := bK BK164 hb; replace HB := bH hb; clear hb ho0) | ((with_reducible refine gate_dst (N := 5) rfl ?_); (try (refine gate_guard (by rfl) ?_; dsimp only)); refine bE 5 #[.int .i64 0, .string (⟨#[]⟩ : ByteArray), .int .i64 0, .slice none 0 0] 53 ?_; intro gb171 w113 BK171 hg hb; replace HO170 := vE HO170 hg hb; have GW171 := bZ hg; have GE171 := bZ hg; replace HB := bH hb; have NB164_171 := bN BK164 hg; have NB171_164 := bM BK164 hg; replace BK164 := bK BK164 hb; clear hb hg; have hnb114 := NB171_164.out; have hnc114 := NB164_171.out; obtain ⟨z115_0, z115_1, z115_2, z115_3, y115_0, y115_1, y115_2, y115_3⟩ := y4 BK171; obtain ⟨Ao116, co116, eo116⟩ := Kd.V_slice HO170.out; subst eo116; obtain ⟨z117_0, z117_1, z117_2, z117_3, y117_0, y117_1, y117_2, y117_3⟩ := y4 BK164))
          have n0_ := vF4 (.int .i64 t165) (.string t166) (.int .i64 t167) (.slice Ao116 t168.length co116) HO170 (fun _ hk => hk.2); have n1_ := bX4 (.int .i64 t165) (.string t166) (.int .i64 t167) (.slice Ao116 t168.length co116) BK164 NB164_171.out; have n2_ := bP4 (.int .i64 t165) (.string t166) (.int .i64 t167) (.slice Ao116 t168.length co116) BK171; have n3_ := hS4 (.int .i64 t165) (.string t166) (.int .i64 t167) (.slice Ao116 t168.length co116) GE171 HB; (try clear HO170); (try clear BK164); (try clear BK171); (try clear HB); generalize ((((w113.setCell ⟨gb171, 0, none⟩ (.int .i64 t165)).setCell ⟨gb171, 1, none⟩ (.string t166)).setCell ⟨gb171, 2, none⟩ (.int .i64 t167)).setCell ⟨gb171, 3, none⟩ (.slice Ao116 t168.length co116)) = w118 at n0_ n1_ n2_ n3_ ⊢
          have HO170 := n0_; have BK164 := n1_; have BK171 := n2_; have HB := n3_; clear n0_ n1_ n2_ n3_; replace HO170 := am (Kd.V_drew HO170.out); replace BK164 := am (blk_drew BK164.out); replace BK171 := am (blk_drew BK171.out); replace HB := am (below_drew1 HB.out); refine sS 17 (e4 BK171) fun hHeld => ?_
          refine with_tabW show_text.tab14 show_text.bits14 (fun HT_ HW_ => ?_); generalize w118.drew = w119 at HO170 BK164 BK171 HB hHeld ⊢
          refine pS 1 74 ?_; refine pS 2 75 ?_; refine tS 0 73 ?_; refine tS 3 76 ?_; refine pS 4 77 ?_; refine pS 5 78 ?_; refine tS 6 79 ?_; refine oS 7 80 fun K hK => ?_
          refine goS Tryd.func59 #[.agg #[.int .i64 t165, .string t166, .int .i64 t167, .slice Ao116 t168.length co116]] ?_; (with_reducible refine (show_sum.calls t165 t166 t167 _ _ t168 true _ ?side1 ?side2 A106.out).mono ?_); (case side1 => exact cV HO170); (case side2 => exact (Kd.V_reads' HO170.out).2.1); rintro e w120 ⟨rfl, hb⟩; refine ⟨_, rfl, ?_⟩; replace HO170 := vB HO170 hb; replace BK164 := bK BK164 hb; replace BK171 := bK BK171 hb; replace HB := bH hb; clear hb; refine hK.out _ _ (e4 BK171) fun hHeld => ?_
          clear hK K; refine nS 80 ?_; refine pS 8 81 ?_; refine pS 9 82 ?_; refine pure_ (i := 10) (N := some 83) (v := undef) (a' := ?_) #[true, true, true, true, true, true, true, true, true, true, true, false, false, false, false, false, false] rfl rfl (any_of HT_.out (by kernel_rfl)) (fun _ _ _ h => h) (Or.inr ⟨by rfl, rfl⟩) ?_ ?_
          rotate_left
          · simp only [Act.put, List.setIfInBounds_toArray, List.set_cons_zero, List.set_cons_succ, i64_w, i32_w]
            rfl
          refine pure_ (i := 11) (N := some 84) (v := undef) (a' := ?_) #[true, true, true, true, true, true, true, true, true, true, true, true, false, false, false, false, false] rfl rfl (any_of HT_.out (by kernel_rfl)) (fun _ _ _ h => h) (Or.inr ⟨by rfl, rfl⟩) ?_ ?_
          rotate_left
          · simp only [Act.put, List.setIfInBounds_toArray, List.set_cons_zero, List.set_cons_succ, i64_w, i32_w]
            rfl
          refine pure_ (i := 12) (N := some 85) (v := undef) (a' := ?_) #[true, true, true, true, true, true, true, true, true, true, true, true, true, false, false, false, false] rfl rfl (any_of HT_.out (by kernel_rfl)) (fun _ _ _ h => h) (Or.inr ⟨by rfl, rfl⟩) ?_ ?_
          rotate_left
          · simp only [Act.put, List.setIfInBounds_toArray, List.set_cons_zero, List.set_cons_succ, i64_w, i32_w]
            rfl
          refine pS 13 86 ?_; refine oS 14 87 fun K hK => ?_
          refine goS Tryd.func58 #[.agg #[.int .i64 t165, .string t166, .int .i64 t167, .slice Ao116 t168.length co116], .slice A1 l1.length c1, .bool true] ?_; (with_reducible refine (ih_show_side k (by omega) t165 t166 t167 _ _ t168 _ _ l1 true t207 _ ?side1 ?side2 ?side3 ?side4 HC1.out A108.out).mono ?_); (case side1 => exact Laid.below HG.out bB); (case side2 => exact cV HO170); (case side3 => exact (Kd.V_reads' HO170.out).2.1); (case side4 => exact cB HR1); rintro e w121 ⟨rfl, hb⟩; refine ⟨_, rfl, ?_⟩; replace HO170 := vB HO170 hb; replace BK164 := bK BK164 hb; replace BK171 := bK BK171 hb; replace HB := bH hb; clear hb; refine hK.out _ _ (e4 BK171) fun hHeld => ?_
          clear hK K; refine nS 87 ?_; refine pS 15 88 ?_; refine pS 16 4 ?_; refine done_ (done_of HT_.out (by kernel_rfl)) ?_
          try go_wp2
          go_ret; exact ⟨eW, bB⟩
         ·rw [if_neg c109] at H
          exact absurd H (by simp)
        ·replace c107 := Bool.eq_false_iff.mpr c107
         subst c107; rw [if_neg (show ¬ (false = true) by decide)] at H; obtain ⟨t208, A122, H⟩ := bO H
         by_cases c123 : 1 + t208.size ≤ 9223372036854775807
         ·rw [if_pos c123] at H
          have c123b0 := eq_true c123; have c123b1 := decide_eq_true c123
          try have c123b2 := eq_false (Nat.not_lt.2 c123)
          obtain rfl := Option.some.inj H
          go_enter Tryd.func38, Tryd.ntmps38
          try go_wp2_with (first | ((with_reducible refine gate_dst (N := 2) rfl ?_); (try (refine gate_guard (by rfl) ?_; dsimp only)); refine bE 2 #[.int .i64 a0_0, .string a0_1, .int .i64 a0_2, .slice A0_3 l0_3.length c0_3] 53 ?_; intro gb164 w124 BK164 hg hb; have GW164 := bZ hg; have GE164 := bZ hg; replace HB := bH hb; clear hb hg; obtain ⟨z125_0, z125_1, z125_2, z125_3, y125_0, y125_1, y125_2, y125_3⟩ := y4 BK164) | ((with_reducible refine gate_callee (f := 57) rfl ?_); refine gL 7 Tryd.func57 #[.agg #[.int .i64 a0_0, .string a0_1, .int .i64 a0_2, .slice A0_3 l0_3.length c0_3], .int .i64 0] ?_; (with_reducible refine (show_arg.calls a0_0 a0_1 a0_2 (fun k_ => k_ < w.heap.size) _ _ l0_3 0 t165 t166 t167 t168 _ ?side1 A3.out).mono ?_); (case side1 => exact Kd.V_mk HC0_3.out (Kd.F_below (Kd.C_F k53_heap HR0_3.out) bB)); rintro e w126 ⟨v169, rfl, ho0, hb⟩; refine ⟨_, rfl, ?_⟩; have HO170 := am (d8 ho0 GW164 BK164); replace BK164 := bK BK164 hb; replace HB := bH hb; clear hb ho0) | ((with_reducible refine gate_dst (N := 5) rfl ?_); (try (refine gate_guard (by rfl) ?_; dsimp only)); refine bE 5 #[.int .i64 0, .string (⟨#[]⟩ : ByteArray), .int .i64 0, .slice none 0 0] 53 ?_; intro gb171 w127 BK171 hg hb; replace HO170 := vE HO170 hg hb; have GW171 := bZ hg; have GE171 := bZ hg; replace HB := bH hb; have NB164_171 := bN BK164 hg; have NB171_164 := bM BK164 hg; replace BK164 := bK BK164 hb; clear hb hg; have hnb128 := NB171_164.out; have hnc128 := NB164_171.out; obtain ⟨z129_0, z129_1, z129_2, z129_3, y129_0, y129_1, y129_2, y129_3⟩ := y4 BK171; obtain ⟨Ao130, co130, eo130⟩ := Kd.V_slice HO170.out; subst eo130; obtain ⟨z131_0, z131_1, z131_2, z131_3, y131_0, y131_1, y131_2, y131_3⟩ := y4 BK164))
          have n0_ := vF4 (.int .i64 t165) (.string t166) (.int .i64 t167) (.slice Ao130 t168.length co130) HO170 (fun _ hk => hk.2); have n1_ := bX4 (.int .i64 t165) (.string t166) (.int .i64 t167) (.slice Ao130 t168.length co130) BK164 NB164_171.out; have n2_ := bP4 (.int .i64 t165) (.string t166) (.int .i64 t167) (.slice Ao130 t168.length co130) BK171; have n3_ := hS4 (.int .i64 t165) (.string t166) (.int .i64 t167) (.slice Ao130 t168.length co130) GE171 HB; (try clear HO170); (try clear BK164); (try clear BK171); (try clear HB); generalize ((((w127.setCell ⟨gb171, 0, none⟩ (.int .i64 t165)).setCell ⟨gb171, 1, none⟩ (.string t166)).setCell ⟨gb171, 2, none⟩ (.int .i64 t167)).setCell ⟨gb171, 3, none⟩ (.slice Ao130 t168.length co130)) = w132 at n0_ n1_ n2_ n3_ ⊢
          have HO170 := n0_; have BK164 := n1_; have BK171 := n2_; have HB := n3_; clear n0_ n1_ n2_ n3_; replace HO170 := am (Kd.V_drew HO170.out); replace BK164 := am (blk_drew BK164.out); replace BK171 := am (blk_drew BK171.out); replace HB := am (below_drew1 HB.out); refine sS 17 (e4 BK171) fun hHeld => ?_
          refine with_tabW show_text.tab14 show_text.bits14 (fun HT_ HW_ => ?_); generalize w132.drew = w133 at HO170 BK164 BK171 HB hHeld ⊢
          refine pS 1 74 ?_; refine pS 2 75 ?_; refine tS 0 73 ?_; refine tS 3 76 ?_; refine pS 4 77 ?_; refine pS 5 78 ?_; refine tS 6 79 ?_; refine oS 7 80 fun K hK => ?_
          refine goS Tryd.func59 #[.agg #[.int .i64 t165, .string t166, .int .i64 t167, .slice Ao130 t168.length co130]] ?_; (with_reducible refine (show_sum.calls t165 t166 t167 _ _ t168 false _ ?side1 ?side2 A106.out).mono ?_); (case side1 => exact cV HO170); (case side2 => exact (Kd.V_reads' HO170.out).2.1); rintro e w134 ⟨rfl, hb⟩; refine ⟨_, rfl, ?_⟩; replace HO170 := vB HO170 hb; replace BK164 := bK BK164 hb; replace BK171 := bK BK171 hb; replace HB := bH hb; clear hb; refine hK.out _ _ (e4 BK171) fun hHeld => ?_
          clear hK K; refine nS 80 ?_; refine pS 8 81 ?_; refine pS 9 82 ?_; refine pS 10 83 ?_; refine tS 11 84 ?_; refine pS 12 85 ?_; refine pS 13 86 ?_; refine oS 14 87 fun K hK => ?_
          refine goS Tryd.func58 #[.agg #[.int .i64 t165, .string t166, .int .i64 t167, .slice Ao130 t168.length co130], .slice A1 l1.length c1, .bool (t165 == 8)] ?_; (with_reducible refine (ih_show_side k (by omega) t165 t166 t167 _ _ t168 _ _ l1 (t165 == 8) t208 _ ?side1 ?side2 ?side3 ?side4 HC1.out A122.out).mono ?_); (case side1 => exact Laid.below HG.out bB); (case side2 => exact cV HO170); (case side3 => exact (Kd.V_reads' HO170.out).2.1); (case side4 => exact cB HR1); rintro e w135 ⟨rfl, hb⟩; refine ⟨_, rfl, ?_⟩; replace HO170 := vB HO170 hb; replace BK164 := bK BK164 hb; replace BK171 := bK BK171 hb; replace HB := bH hb; clear hb; refine hK.out _ _ (e4 BK171) fun hHeld => ?_
          clear hK K; refine nS 87 ?_; refine pS 15 88 ?_; refine pS 16 4 ?_; refine done_ (done_of HT_.out (by kernel_rfl)) ?_
          try go_wp2
          go_ret; exact ⟨eW, bB⟩
         ·rw [if_neg c123] at H
          exact absurd H (by simp)
      ·rw [if_neg c91] at H
       have c91b0 := beq_eq_false_iff_ne.mpr c91; have c91b1 := bne_iff_ne.mpr c91
       by_cases c136 : a0_0 = 8
       ·rw [if_pos c136] at H
        have c136b0 := beq_iff_eq.mpr c136; have c136b1 := bne_eq_false_iff_eq.mpr c136; clear c136; obtain ⟨t209, A137, H⟩ := bO H
        by_cases c138 : t209.size + 3 ≤ 9223372036854775807
        ·rw [if_pos c138] at H
         have c138b0 := eq_true c138; have c138b1 := decide_eq_true c138
         try have c138b2 := eq_false (Nat.not_lt.2 c138)
         obtain ⟨t210, A139, H⟩ := bO H
         by_cases c140 : t210 = true
         ·subst c140
          rw [if_pos rfl] at H; obtain ⟨t211, A141, H⟩ := bO H
          by_cases c142 : (t209 ++ (⟨#[32, 42, 32]⟩ : ByteArray)).size + t211.size ≤ 9223372036854775807
          ·rw [if_pos c142] at H
           have c142b0 := eq_true c142; have c142b1 := decide_eq_true c142; have c142n : t209.size + 3 + t211.size ≤ 9223372036854775807 := by have h_ := c142; simp only [ByteArray.size_append] at h_; have z0_ : (⟨#[32, 42, 32]⟩ : ByteArray).size = 3 := rfl; first | exact h_ | omega
           have c142b3 := eq_true c142n; have c142b4 : (9223372036854775807 < t209.size + 3 + t211.size) = False := eq_false (Nat.not_lt.2 c142n)
           try have c142b2 := eq_false (Nat.not_lt.2 c142)
           obtain rfl := Option.some.inj H
           go_enter Tryd.func38, Tryd.ntmps38
           try go_wp2_with (first | ((with_reducible refine gate_dst (N := 2) rfl ?_); (try (refine gate_guard (by rfl) ?_; dsimp only)); refine bE 2 #[.int .i64 a0_0, .string a0_1, .int .i64 a0_2, .slice A0_3 l0_3.length c0_3] 53 ?_; intro gb164 w143 BK164 hg hb; have GW164 := bZ hg; have GE164 := bZ hg; replace HB := bH hb; clear hb hg; obtain ⟨z144_0, z144_1, z144_2, z144_3, y144_0, y144_1, y144_2, y144_3⟩ := y4 BK164) | ((with_reducible refine gate_callee (f := 57) rfl ?_); refine gL 7 Tryd.func57 #[.agg #[.int .i64 a0_0, .string a0_1, .int .i64 a0_2, .slice A0_3 l0_3.length c0_3], .int .i64 0] ?_; (with_reducible refine (show_arg.calls a0_0 a0_1 a0_2 (fun k_ => k_ < w.heap.size) _ _ l0_3 0 t165 t166 t167 t168 _ ?side1 A3.out).mono ?_); (case side1 => exact Kd.V_mk HC0_3.out (Kd.F_below (Kd.C_F k53_heap HR0_3.out) bB)); rintro e w145 ⟨v169, rfl, ho0, hb⟩; refine ⟨_, rfl, ?_⟩; have HO170 := am (d8 ho0 GW164 BK164); replace BK164 := bK BK164 hb; replace HB := bH hb; clear hb ho0) | ((with_reducible refine gate_dst (N := 5) rfl ?_); (try (refine gate_guard (by rfl) ?_; dsimp only)); refine bE 5 #[.int .i64 0, .string (⟨#[]⟩ : ByteArray), .int .i64 0, .slice none 0 0] 53 ?_; intro gb171 w146 BK171 hg hb; replace HO170 := vE HO170 hg hb; have GW171 := bZ hg; have GE171 := bZ hg; replace HB := bH hb; have NB164_171 := bN BK164 hg; have NB171_164 := bM BK164 hg; replace BK164 := bK BK164 hb; clear hb hg; have hnb147 := NB171_164.out; have hnc147 := NB164_171.out; obtain ⟨z148_0, z148_1, z148_2, z148_3, y148_0, y148_1, y148_2, y148_3⟩ := y4 BK171; obtain ⟨Ao149, co149, eo149⟩ := Kd.V_slice HO170.out; subst eo149; obtain ⟨z150_0, z150_1, z150_2, z150_3, y150_0, y150_1, y150_2, y150_3⟩ := y4 BK164))
           have n0_ := vF4 (.int .i64 t165) (.string t166) (.int .i64 t167) (.slice Ao149 t168.length co149) HO170 (fun _ hk => hk.2); have n1_ := bX4 (.int .i64 t165) (.string t166) (.int .i64 t167) (.slice Ao149 t168.length co149) BK164 NB164_171.out; have n2_ := bP4 (.int .i64 t165) (.string t166) (.int .i64 t167) (.slice Ao149 t168.length co149) BK171; have n3_ := hS4 (.int .i64 t165) (.string t166) (.int .i64 t167) (.slice Ao149 t168.length co149) GE171 HB; (try clear HO170); (try clear BK164); (try clear BK171); (try clear HB); generalize ((((w146.setCell ⟨gb171, 0, none⟩ (.int .i64 t165)).setCell ⟨gb171, 1, none⟩ (.string t166)).setCell ⟨gb171, 2, none⟩ (.int .i64 t167)).setCell ⟨gb171, 3, none⟩ (.slice Ao149 t168.length co149)) = w151 at n0_ n1_ n2_ n3_ ⊢
           have HO170 := n0_; have BK164 := n1_; have BK171 := n2_; have HB := n3_; clear n0_ n1_ n2_ n3_; replace HO170 := am (Kd.V_drew HO170.out); replace BK164 := am (blk_drew BK164.out); replace BK171 := am (blk_drew BK171.out); replace HB := am (below_drew1 HB.out); refine sS 17 (k4 BK164 (e4 BK171)) fun hHeld => ?_
           refine with_tabW show_text.tab16 show_text.bits16 (fun HT_ HW_ => ?_); generalize w151.drew = w152 at HO170 BK164 BK171 HB hHeld ⊢
           refine pS 0 91 ?_; refine pS 6 97 ?_; refine tS 1 92 ?_; refine pS 2 93 ?_; refine tS 5 96 ?_; refine tS 7 98 ?_; refine oS 3 94 fun K hK => ?_
           refine goS Tryd.func58 #[.agg #[.int .i64 4, .string (⟨#[]⟩ : ByteArray), .int .i64 a0_2, .slice none 0 0], .slice none 0 0, .bool false] ?_; refine (ih_show_side k (by omega) 4 (⟨#[]⟩ : ByteArray) a0_2 _ _ ([] : List (S53)) _ _ ([] : List ByteArray) false t209 _ ?side1 ?side2 ?side3 ?side4 ?side5 A137.out).mono ?_; (case side1 => exact Laid.below HG.out bB); (case side2 => exact Kd.C_nil _ _); (case side3 => exact Nat.le_refl _); (case side4 => exact Kd.C_nil _ _); (case side5 => exact Nat.le_refl _); rintro e w153 ⟨rfl, hb⟩; refine ⟨_, rfl, ?_⟩; replace HO170 := vB HO170 hb; replace BK164 := bK BK164 hb; replace BK171 := bK BK171 hb; replace HB := bH hb; clear hb; refine hK.out _ _ (k4 BK164 (e4 BK171)) fun hHeld => ?_
           clear hK K; refine nS 94 ?_; refine pS 4 95 ?_; refine oS 8 99 fun K hK => ?_
           refine goS Tryd.func59 #[.agg #[.int .i64 t165, .string t166, .int .i64 t167, .slice Ao149 t168.length co149]] ?_; (with_reducible refine (show_sum.calls t165 t166 t167 _ _ t168 true _ ?side1 ?side2 A139.out).mono ?_); (case side1 => exact cV HO170); (case side2 => exact (Kd.V_reads' HO170.out).2.1); rintro e w154 ⟨rfl, hb⟩; refine ⟨_, rfl, ?_⟩; replace HO170 := vB HO170 hb; replace BK164 := bK BK164 hb; replace BK171 := bK BK171 hb; replace HB := bH hb; clear hb; refine hK.out _ _ (k4 BK164 (e4 BK171)) fun hHeld => ?_
           clear hK K; refine nS 99 ?_; refine pS 9 100 ?_; refine pure_ (i := 10) (N := some 101) (v := undef) (a' := ?_) #[true, true, true, true, true, true, true, true, true, true, true, false, false, false, false, false, false] rfl rfl (any_of HT_.out (by kernel_rfl)) (fun _ _ _ h => h) (Or.inr ⟨by rfl, rfl⟩) ?_ ?_
           rotate_left
           · simp only [Act.put, List.setIfInBounds_toArray, List.set_cons_zero, List.set_cons_succ, i64_w, i32_w]
             rfl
           refine pure_ (i := 11) (N := some 102) (v := undef) (a' := ?_) #[true, true, true, true, true, true, true, true, true, true, true, true, false, false, false, false, false] rfl rfl (any_of HT_.out (by kernel_rfl)) (fun _ _ _ h => h) (Or.inr ⟨by rfl, rfl⟩) ?_ ?_
           rotate_left
           · simp only [Act.put, List.setIfInBounds_toArray, List.set_cons_zero, List.set_cons_succ, i64_w, i32_w]
             rfl
           refine pure_ (i := 12) (N := some 103) (v := undef) (a' := ?_) #[true, true, true, true, true, true, true, true, true, true, true, true, true, false, false, false, false] rfl rfl (any_of HT_.out (by kernel_rfl)) (fun _ _ _ h => h) (Or.inr ⟨by rfl, rfl⟩) ?_ ?_
           rotate_left
           · simp only [Act.put, List.setIfInBounds_toArray, List.set_cons_zero, List.set_cons_succ, i64_w, i32_w]
             rfl
           refine pS 13 104 ?_; refine oS 14 105 fun K hK => ?_
           refine goS Tryd.func58 #[.agg #[.int .i64 t165, .string t166, .int .i64 t167, .slice Ao149 t168.length co149], .slice A1 l1.length c1, .bool true] ?_; (with_reducible refine (ih_show_side k (by omega) t165 t166 t167 _ _ t168 _ _ l1 true t211 _ ?side1 ?side2 ?side3 ?side4 HC1.out A141.out).mono ?_); (case side1 => exact Laid.below HG.out bB); (case side2 => exact cV HO170); (case side3 => exact (Kd.V_reads' HO170.out).2.1); (case side4 => exact cB HR1); rintro e w155 ⟨rfl, hb⟩; refine ⟨_, rfl, ?_⟩; replace HO170 := vB HO170 hb; replace BK164 := bK BK164 hb; replace BK171 := bK BK171 hb; replace HB := bH hb; clear hb; refine hK.out _ _ (k4 BK164 (e4 BK171)) fun hHeld => ?_
           clear hK K; refine nS 105 ?_; refine pS 15 106 ?_; refine pS 16 4 ?_; refine done_ (done_of HT_.out (by kernel_rfl)) ?_
           try go_wp2
           go_ret; exact ⟨eW, bB⟩
          ·rw [if_neg c142] at H
           exact absurd H (by simp)
         ·replace c140 := Bool.eq_false_iff.mpr c140
          subst c140; rw [if_neg (show ¬ (false = true) by decide)] at H; obtain ⟨t212, A156, H⟩ := bO H
          by_cases c157 : (t209 ++ (⟨#[32, 42, 32]⟩ : ByteArray)).size + t212.size ≤ 9223372036854775807
          ·rw [if_pos c157] at H
           have c157b0 := eq_true c157; have c157b1 := decide_eq_true c157; have c157n : t209.size + 3 + t212.size ≤ 9223372036854775807 := by have h_ := c157; simp only [ByteArray.size_append] at h_; have z0_ : (⟨#[32, 42, 32]⟩ : ByteArray).size = 3 := rfl; first | exact h_ | omega
           have c157b3 := eq_true c157n; have c157b4 : (9223372036854775807 < t209.size + 3 + t212.size) = False := eq_false (Nat.not_lt.2 c157n)
           try have c157b2 := eq_false (Nat.not_lt.2 c157)
           obtain rfl := Option.some.inj H
           go_enter Tryd.func38, Tryd.ntmps38
           try go_wp2_with (first | ((with_reducible refine gate_dst (N := 2) rfl ?_); (try (refine gate_guard (by rfl) ?_; dsimp only)); refine bE 2 #[.int .i64 a0_0, .string a0_1, .int .i64 a0_2, .slice A0_3 l0_3.length c0_3] 53 ?_; intro gb164 w158 BK164 hg hb; have GW164 := bZ hg; have GE164 := bZ hg; replace HB := bH hb; clear hb hg; obtain ⟨z159_0, z159_1, z159_2, z159_3, y159_0, y159_1, y159_2, y159_3⟩ := y4 BK164) | ((with_reducible refine gate_callee (f := 57) rfl ?_); refine gL 7 Tryd.func57 #[.agg #[.int .i64 a0_0, .string a0_1, .int .i64 a0_2, .slice A0_3 l0_3.length c0_3], .int .i64 0] ?_; (with_reducible refine (show_arg.calls a0_0 a0_1 a0_2 (fun k_ => k_ < w.heap.size) _ _ l0_3 0 t165 t166 t167 t168 _ ?side1 A3.out).mono ?_); (case side1 => exact Kd.V_mk HC0_3.out (Kd.F_below (Kd.C_F k53_heap HR0_3.out) bB)); rintro e w160 ⟨v169, rfl, ho0, hb⟩; refine ⟨_, rfl, ?_⟩; have HO170 := am (d8 ho0 GW164 BK164); replace BK164 := bK BK164 hb; replace HB := bH hb; clear hb ho0) | ((with_reducible refine gate_dst (N := 5) rfl ?_); (try (refine gate_guard (by rfl) ?_; dsimp only)); refine bE 5 #[.int .i64 0, .string (⟨#[]⟩ : ByteArray), .int .i64 0, .slice none 0 0] 53 ?_; intro gb171 w161 BK171 hg hb; replace HO170 := vE HO170 hg hb; have GW171 := bZ hg; have GE171 := bZ hg; replace HB := bH hb; have NB164_171 := bN BK164 hg; have NB171_164 := bM BK164 hg; replace BK164 := bK BK164 hb; clear hb hg; have hnb162 := NB171_164.out; have hnc162 := NB164_171.out; obtain ⟨z163_0, z163_1, z163_2, z163_3, y163_0, y163_1, y163_2, y163_3⟩ := y4 BK171; obtain ⟨Ao164, co164, eo164⟩ := Kd.V_slice HO170.out; subst eo164; obtain ⟨z165_0, z165_1, z165_2, z165_3, y165_0, y165_1, y165_2, y165_3⟩ := y4 BK164))
           have n0_ := vF4 (.int .i64 t165) (.string t166) (.int .i64 t167) (.slice Ao164 t168.length co164) HO170 (fun _ hk => hk.2); have n1_ := bX4 (.int .i64 t165) (.string t166) (.int .i64 t167) (.slice Ao164 t168.length co164) BK164 NB164_171.out; have n2_ := bP4 (.int .i64 t165) (.string t166) (.int .i64 t167) (.slice Ao164 t168.length co164) BK171; have n3_ := hS4 (.int .i64 t165) (.string t166) (.int .i64 t167) (.slice Ao164 t168.length co164) GE171 HB; (try clear HO170); (try clear BK164); (try clear BK171); (try clear HB); generalize ((((w161.setCell ⟨gb171, 0, none⟩ (.int .i64 t165)).setCell ⟨gb171, 1, none⟩ (.string t166)).setCell ⟨gb171, 2, none⟩ (.int .i64 t167)).setCell ⟨gb171, 3, none⟩ (.slice Ao164 t168.length co164)) = w166 at n0_ n1_ n2_ n3_ ⊢
           have HO170 := n0_; have BK164 := n1_; have BK171 := n2_; have HB := n3_; clear n0_ n1_ n2_ n3_; replace HO170 := am (Kd.V_drew HO170.out); replace BK164 := am (blk_drew BK164.out); replace BK171 := am (blk_drew BK171.out); replace HB := am (below_drew1 HB.out); refine sS 17 (k4 BK164 (e4 BK171)) fun hHeld => ?_
           refine with_tabW show_text.tab16 show_text.bits16 (fun HT_ HW_ => ?_); generalize w166.drew = w167 at HO170 BK164 BK171 HB hHeld ⊢
           refine pS 0 91 ?_; refine pS 6 97 ?_; refine tS 1 92 ?_; refine pS 2 93 ?_; refine tS 5 96 ?_; refine tS 7 98 ?_; refine oS 3 94 fun K hK => ?_
           refine goS Tryd.func58 #[.agg #[.int .i64 4, .string (⟨#[]⟩ : ByteArray), .int .i64 a0_2, .slice none 0 0], .slice none 0 0, .bool false] ?_; refine (ih_show_side k (by omega) 4 (⟨#[]⟩ : ByteArray) a0_2 _ _ ([] : List (S53)) _ _ ([] : List ByteArray) false t209 _ ?side1 ?side2 ?side3 ?side4 ?side5 A137.out).mono ?_; (case side1 => exact Laid.below HG.out bB); (case side2 => exact Kd.C_nil _ _); (case side3 => exact Nat.le_refl _); (case side4 => exact Kd.C_nil _ _); (case side5 => exact Nat.le_refl _); rintro e w168 ⟨rfl, hb⟩; refine ⟨_, rfl, ?_⟩; replace HO170 := vB HO170 hb; replace BK164 := bK BK164 hb; replace BK171 := bK BK171 hb; replace HB := bH hb; clear hb; refine hK.out _ _ (k4 BK164 (e4 BK171)) fun hHeld => ?_
           clear hK K; refine nS 94 ?_; refine pS 4 95 ?_; refine oS 8 99 fun K hK => ?_
           refine goS Tryd.func59 #[.agg #[.int .i64 t165, .string t166, .int .i64 t167, .slice Ao164 t168.length co164]] ?_; (with_reducible refine (show_sum.calls t165 t166 t167 _ _ t168 false _ ?side1 ?side2 A139.out).mono ?_); (case side1 => exact cV HO170); (case side2 => exact (Kd.V_reads' HO170.out).2.1); rintro e w169 ⟨rfl, hb⟩; refine ⟨_, rfl, ?_⟩; replace HO170 := vB HO170 hb; replace BK164 := bK BK164 hb; replace BK171 := bK BK171 hb; replace HB := bH hb; clear hb; refine hK.out _ _ (k4 BK164 (e4 BK171)) fun hHeld => ?_
           clear hK K; refine nS 99 ?_; refine pS 9 100 ?_; refine pS 10 101 ?_; refine tS 11 102 ?_; refine pS 12 103 ?_; refine pS 13 104 ?_; refine oS 14 105 fun K hK => ?_
           refine goS Tryd.func58 #[.agg #[.int .i64 t165, .string t166, .int .i64 t167, .slice Ao164 t168.length co164], .slice A1 l1.length c1, .bool (t165 == 8)] ?_; (with_reducible refine (ih_show_side k (by omega) t165 t166 t167 _ _ t168 _ _ l1 (t165 == 8) t212 _ ?side1 ?side2 ?side3 ?side4 HC1.out A156.out).mono ?_); (case side1 => exact Laid.below HG.out bB); (case side2 => exact cV HO170); (case side3 => exact (Kd.V_reads' HO170.out).2.1); (case side4 => exact cB HR1); rintro e w170 ⟨rfl, hb⟩; refine ⟨_, rfl, ?_⟩; replace HO170 := vB HO170 hb; replace BK164 := bK BK164 hb; replace BK171 := bK BK171 hb; replace HB := bH hb; clear hb; refine hK.out _ _ (k4 BK164 (e4 BK171)) fun hHeld => ?_
           clear hK K; refine nS 105 ?_; refine pS 15 106 ?_; refine pS 16 4 ?_; refine done_ (done_of HT_.out (by kernel_rfl)) ?_
           try go_wp2
           go_ret; exact ⟨eW, bB⟩
          ·rw [if_neg c157] at H
           exact absurd H (by simp)
        ·rw [if_neg c138] at H
         exact absurd H (by simp)
       ·rw [if_neg c136] at H
        have c136b0 := beq_eq_false_iff_ne.mpr c136; have c136b1 := bne_iff_ne.mpr c136; obtain ⟨t213, A171, H⟩ := bO H; obtain rfl := Option.some.inj H
        go_enter Tryd.func38, Tryd.ntmps38
        go_wp2_with (first | ((with_reducible refine gate_dst (N := 2) rfl ?_); (try (refine gate_guard (by rfl) ?_; dsimp only)); refine bE 2 #[.int .i64 a0_0, .string a0_1, .int .i64 a0_2, .slice A0_3 l0_3.length c0_3] 53 ?_; intro gb164 w172 BK164 hg hb; have GW164 := bZ hg; have GE164 := bZ hg; replace HB := bH hb; clear hb hg; obtain ⟨z173_0, z173_1, z173_2, z173_3, y173_0, y173_1, y173_2, y173_3⟩ := y4 BK164) | ((with_reducible refine gate_callee (f := 57) rfl ?_); refine gL 7 Tryd.func57 #[.agg #[.int .i64 a0_0, .string a0_1, .int .i64 a0_2, .slice A0_3 l0_3.length c0_3], .int .i64 0] ?_; (with_reducible refine (show_arg.calls a0_0 a0_1 a0_2 (fun k_ => k_ < w.heap.size) _ _ l0_3 0 t165 t166 t167 t168 _ ?side1 A3.out).mono ?_); (case side1 => exact Kd.V_mk HC0_3.out (Kd.F_below (Kd.C_F k53_heap HR0_3.out) bB)); rintro e w174 ⟨v169, rfl, ho0, hb⟩; refine ⟨_, rfl, ?_⟩; have HO170 := am (d8 ho0 GW164 BK164); replace BK164 := bK BK164 hb; replace HB := bH hb; clear hb ho0) | ((with_reducible refine gate_dst (N := 5) rfl ?_); (try (refine gate_guard (by rfl) ?_; dsimp only)); refine bE 5 #[.int .i64 0, .string (⟨#[]⟩ : ByteArray), .int .i64 0, .slice none 0 0] 53 ?_; intro gb171 w175 BK171 hg hb; replace HO170 := vE HO170 hg hb; have GW171 := bZ hg; have GE171 := bZ hg; replace HB := bH hb; have NB164_171 := bN BK164 hg; have NB171_164 := bM BK164 hg; replace BK164 := bK BK164 hb; clear hb hg; have hnb176 := NB171_164.out; have hnc176 := NB164_171.out; obtain ⟨z177_0, z177_1, z177_2, z177_3, y177_0, y177_1, y177_2, y177_3⟩ := y4 BK171; obtain ⟨Ao178, co178, eo178⟩ := Kd.V_slice HO170.out; subst eo178; obtain ⟨z179_0, z179_1, z179_2, z179_3, y179_0, y179_1, y179_2, y179_3⟩ := y4 BK164) | ((with_reducible refine gate_callee (f := 52) rfl ?_); refine gL 112 Tryd.func52 #[.string a0_1, .slice A0_3 l0_3.length c0_3, .slice A1 l1.length c1] ?_; (with_reducible refine (ih_show_apply k (by omega) a0_1 _ _ l0_3 _ _ l1 t213 _ ?side1 ?side2 HC0_3.out ?side4 HC1.out A171.out).mono ?_); (case side1 => exact Laid.below HG.out bB); (case side2 => exact Kd.C_below HR0_3.out bB); (case side4 => exact Kd.C_below HR1.out bB); rintro e w180 ⟨rfl, hb⟩; refine ⟨_, rfl, ?_⟩; replace HO170 := vB (vF4 (.int .i64 t165) (.string t166) (.int .i64 t167) (.slice Ao178 t168.length co178) HO170 (fun _ hk => hk.2)) hb; replace BK164 := bK (bX4 _ _ _ _ BK164 NB164_171.out) hb; replace BK171 := bK (bP4 (.int .i64 t165) (.string t166) (.int .i64 t167) (.slice Ao178 t168.length co178) BK171) hb; replace HB := bH hb; clear hb))
        go_ret; exact ⟨eW, bB⟩
set_option maxHeartbeats 8000000 in
set_option maxRecDepth 100000 in
theorem show_apply.step (k : Nat) (ih_show_text : ∀ j_, j_ < k → ∀ (a0_0 : Int) (a0_1 : ByteArray) (a0_2 : Int) (A0_3 : Option Addr) (c0_3 : Nat) (l0_3 : List (S53)) (A1 : Option Addr) (c1 : Nat) (l1 : List ByteArray) (r : ByteArray) (w : World) (hG : Laid w) (hr0_3 : Kd.C k53 w A0_3 l0_3.length l0_3) (hc0_3 : l0_3.length ≤ c0_3) (hr1 : Kd.C Kd.string w A1 l1.length l1) (hc1 : l1.length ≤ c1) (h : show_text.f j_ a0_0 a0_1 a0_2 l0_3 l1 = some r),
    Calls Tryd.prog 38 #[.agg #[.int .i64 a0_0, .string a0_1, .int .i64 a0_2, .slice A0_3 l0_3.length c0_3], .slice A1 l1.length c1] w fun e w' => e = .returned (.string r) ∧ Below w.heap.size w w') (ih : ∀ j_, j_ < k → ∀ (a0 : ByteArray) (A1 : Option Addr) (c1 : Nat) (l1 : List (S53)) (A2 : Option Addr) (c2 : Nat) (l2 : List ByteArray) (r : ByteArray) (w : World) (hG : Laid w) (hr1 : Kd.C k53 w A1 l1.length l1) (hc1 : l1.length ≤ c1) (hr2 : Kd.C Kd.string w A2 l2.length l2) (hc2 : l2.length ≤ c2) (h : show_apply.f j_ a0 l1 l2 = some r),
    Calls Tryd.prog 52 #[.string a0, .slice A1 l1.length c1, .slice A2 l2.length c2] w fun e w' => e = .returned (.string r) ∧ Below w.heap.size w w') (ih_show_side : ∀ j_, j_ < k → ∀ (a0_0 : Int) (a0_1 : ByteArray) (a0_2 : Int) (A0_3 : Option Addr) (c0_3 : Nat) (l0_3 : List (S53)) (A1 : Option Addr) (c1 : Nat) (l1 : List ByteArray) (a2 : Bool) (r : ByteArray) (w : World) (hG : Laid w) (hr0_3 : Kd.C k53 w A0_3 l0_3.length l0_3) (hc0_3 : l0_3.length ≤ c0_3) (hr1 : Kd.C Kd.string w A1 l1.length l1) (hc1 : l1.length ≤ c1) (h : show_side.f j_ a0_0 a0_1 a0_2 l0_3 l1 a2 = some r),
    Calls Tryd.prog 58 #[.agg #[.int .i64 a0_0, .string a0_1, .int .i64 a0_2, .slice A0_3 l0_3.length c0_3], .slice A1 l1.length c1, .bool a2] w fun e w' => e = .returned (.string r) ∧ Below w.heap.size w w') : ∀ (a0 : ByteArray) (A1 : Option Addr) (c1 : Nat) (l1 : List (S53)) (A2 : Option Addr) (c2 : Nat) (l2 : List ByteArray) (r : ByteArray) (w : World) (hG : Laid w) (hr1 : Kd.C k53 w A1 l1.length l1) (hc1 : l1.length ≤ c1) (hr2 : Kd.C Kd.string w A2 l2.length l2) (hc2 : l2.length ≤ c2) (h : show_apply.f k a0 l1 l2 = some r),
    Calls Tryd.prog 52 #[.string a0, .slice A1 l1.length c1, .slice A2 l2.length c2] w fun e w' => e = .returned (.string r) ∧ Below w.heap.size w w' := by
  intro a0 A1 c1 l1 A2 c2 l2 r w hG hr1 hc1 hr2 hc2 h
  cases k with
  | zero => exact absurd h (by simp [show_apply.f])
  | succ k =>
  simp only [show_apply.f] at h; have hu53 := Tryd.underlying53; have HR1 := am hr1; have HC1 := am hc1; clear hr1 hc1; have HR2 := am hr2; have HC2 := am hc2; clear hr2 hc2; have HG := am hG; clear hG; have HB := am (Below.refl w.heap.size w); have H := h; clear h
  by_cases c4 : (l1.length : Int) = 0
  ·rw [if_pos c4] at H
   have c4b0 := beq_iff_eq.mpr c4; have c4b1 := bne_eq_false_iff_eq.mpr c4; clear c4; obtain rfl := Option.some.inj H
   go_enter Tryd.func52, Tryd.ntmps52
   go_wp2; go_ret; exact ⟨eW, bB⟩
  ·rw [if_neg c4] at H
   have c4b0 := beq_eq_false_iff_ne.mpr c4; have c4b1 := bne_iff_ne.mpr c4; have c4b2 : ¬ (l1 = []) := fun h_ => c4 (by rw [h_]; rfl)
   have H' := am H; clear H
   go_enter Tryd.func52, Tryd.ntmps52
   go_wp2
   go_loopg [7, 16] k (fun kq v7 v16 w' => ∃ (x7_1 : List ByteArray) (x16_1 : Int), v16 = .int .i64 x16_1 ∧ Aside0 (show_apply.l0 kq a0 l2 x7_1 l1 (l1.length : Int) x16_1 = some r) ∧ Aside0 (kq ≤ k) ∧ Aside0 (Kd.R Kd.string 9 w' w.heap.size (fun _ => True) v7 x7_1) ∧ Aside0 (Below w.heap.size w w'))
   case atStart => exact ⟨(([] : List ByteArray)), (0), eS, H', ⟨Nat.le_refl _⟩, ⟨by first | exact Kd.R_nil _ _ _ _ _ | exact Kd.N_nil _ _ _ _ _ | exact Kd.V_nil _ _ _ _ _ | exact Kd.Q_nil _ _ _ _ _ | exact Kd.S_nil _ _ _ _ _⟩, ⟨bB⟩⟩
   case round =>
    clear H'; (try clear c1); (try clear c2); (try clear p2); (try clear c4); (try clear c4b0); (try clear c4b1); (try clear c4b2); obtain ⟨x7_1, x16_1, rfl, HA, HK1, HO_7, HB⟩ := hrel
    cases gk with
    | zero => exact absurd HA.out (by simp [show_apply.l0])
    | succ k1 =>
     have H := HA.out; clear HA; simp only [show_apply.l0] at H
     by_cases c5 : x16_1 < (l1.length : Int)
     ·rw [if_pos c5] at H
      have c5b0 : decide (x16_1 < (l1.length : Int)) = true := decide_eq_true c5; clear c5
      by_cases c6 : 0 ≤ x16_1
      ·rw [if_pos c6] at H
       have c6b0 : decide (0 ≤ x16_1) = true := decide_eq_true c6; clear c6
       by_cases c7 : x16_1 < (l1.length : Int)
       ·rw [if_pos c7] at H
        have c7b0 : decide (x16_1 < (l1.length : Int)) = true := decide_eq_true c7; clear c7; obtain ⟨t216, A8, H⟩ := bO H
        by_cases c9 : x7_1.length < 8796093022208
        ·rw [if_pos c9] at H
         have LMc9 := am c9; clear c9; obtain ⟨y217, hy217⟩ : ∃ y_ : List ByteArray, y_ = (x7_1 ++ [t216]) := ⟨_, rfl⟩; replace H : (show_apply.l0 k1 a0 l2 y217 l1 (l1.length : Int) (wrap64 (x16_1 + 1))) = some r := by first | (rw [hy217]; with_reducible exact H) | (have H2_ := (Option.bind_some _ _).symm.trans H; rw [hy217]; with_reducible exact H2_) | (have H2_ := (Option.bind_some _ _).symm.trans H; with_reducible exact H2_) | with_reducible exact H | (rw [hy217]; exact H) | exact H
         have Ny217 := am hy217; clear hy217; have H' := am H; clear H; have p214 : 0 ≤ (x16_1 : Int) := of_decide_eq_true eA; have q214 : x16_1 < (l1.length : Int) := of_decide_eq_true eA; obtain ⟨ad214, A214_3, c214_3, e214, hx214_0, hx214_1, hx214_2, hx214_3, hl214_3, hi214_3⟩ := at_T53 HR1.out x16_1 p214 q214
         cases e214
         replace hx214_0 := cX HB hx214_0; replace hx214_1 := cX HB hx214_1; replace hx214_2 := cX HB hx214_2; replace hx214_3 := cX HB hx214_3; have HR214_3 := am hi214_3; have HC214_3 := am hl214_3; clear hi214_3 hl214_3; replace p214 := eq_true p214; replace q214 := eq_true q214
         go_wp2_with (first | ((with_reducible refine gate_dst (N := 9) rfl ?_); refine bE 9 #[.int .i64 0, .string (⟨#[]⟩ : ByteArray), .int .i64 0, .slice none 0 0] 53 ?_; intro gb215 w10 BK215 hg hb; replace HO_7 := am (Kd.R_below (d6 HO_7) hb); have GW215 := bZ hg; have GE215 := bZ hg; replace HB := bH hb; clear hb hg; obtain ⟨z11_0, z11_1, z11_2, z11_3, y11_0, y11_1, y11_2, y11_3⟩ := y4 BK215) | ((with_reducible refine gate_callee (f := 38) rfl ?_); refine gL 23 Tryd.func38 #[.agg #[.int .i64 ((rd_T53 l1 x16_1).f0), .string ((rd_T53 l1 x16_1).f1), .int .i64 ((rd_T53 l1 x16_1).f2), .slice A214_3 ((rd_T53 l1 x16_1).f3).length c214_3], .slice A2 l2.length c2] ?_; (with_reducible refine (ih_show_text k1 (by have := HK1.out; omega) ((rd_T53 l1 x16_1).f0) ((rd_T53 l1 x16_1).f1) ((rd_T53 l1 x16_1).f2) _ _ ((rd_T53 l1 x16_1).f3) _ _ l2 t216 _ ?side1 ?side2 HC214_3.out ?side4 HC2.out A8.out).mono ?_); (case side1 => exact Laid.below HG.out bB); (case side2 => exact Kd.C_below HR214_3.out bB); (case side4 => exact Kd.C_below HR2.out bB); rintro e w12 ⟨rfl, hb⟩; refine ⟨_, rfl, ?_⟩; replace HO_7 := am (Kd.R_below (by (with_reducible repeat (first | apply Kd.R_alloc | apply Kd.R_drewN | apply Kd.R_drew)); exact (Kd.R_mono (Kd.R_far (p := ⟨gb215, 3, none⟩) (Kd.R_far (p := ⟨gb215, 2, none⟩) (Kd.R_far (p := ⟨gb215, 1, none⟩) (Kd.R_far (p := ⟨gb215, 0, none⟩) (Kd.R_types HO_7.out BK215.out (by decide)) (fun _ hk => hk.2) (.int .i64 ((rd_T53 l1 x16_1).f0))) (fun _ hk => hk.2) (.string ((rd_T53 l1 x16_1).f1))) (fun _ hk => hk.2) (.int .i64 ((rd_T53 l1 x16_1).f2))) (fun _ hk => hk.2) (.slice A214_3 ((rd_T53 l1 x16_1).f3).length c214_3)) (fun _ h_ => h_.1))) hb); replace BK215 := bK (bP4 (.int .i64 ((rd_T53 l1 x16_1).f0)) (.string ((rd_T53 l1 x16_1).f1)) (.int .i64 ((rd_T53 l1 x16_1).f2)) (.slice A214_3 ((rd_T53 l1 x16_1).f3).length c214_3) BK215) hb; replace HB := bH hb; clear hb) | ((with_reducible refine gate_builtin (b := .append) (xs := #[.tmp 20, .tmp 24]) rfl ?_); at_builtin; refine Kd.R_append Kd.string (w0 := w) w.heap.size rfl (.tmp 20) (.tmp 24) 22 9 (.string ⟨#[]⟩) 16 rfl Tryd.underlying22 info9 rfl (by decide) (by omega) u7 x7_1 t216 [.string t216] (fun _ => True) (fun _ => False) rfl rfl ?aP (fun _ hk => hk.elim) ?aF ?aO ?aB ?aS ?aL ?_; (case aP => exact rfl); (case aB => exact bB); (case aF => exact (fun _ _ => trivial)); (case aO => exact (d6 HO_7)); (case aS => exact (below_size bB)); (case aL => have := LMc9.out; omega); intro v218 w13 ho hb hg hat; rw [← Ny217.out] at ho; replace BK215 := am (blk_grown (bD BK215) hg (Kd.R_ne HO_7.out BK215.out (by decide))); replace HB := am (hb); have HO219 := am (ho); clear HO_7; clear ho hb hg hat))
         go_roundg k1
         case measure => have := HK1.out; omega
         case rel => exact ⟨(y217), (wrap64 (x16_1 + 1)), eS, H', ⟨by have := HK1.out; omega⟩, ⟨by (with_reducible repeat (first | apply Kd.R_alloc | apply Kd.R_drewN | apply Kd.R_drew)); exact HO219.out⟩, ⟨bB⟩⟩
        ·rw [if_neg c9] at H
         exact absurd H (by simp)
       ·rw [if_neg c7] at H
        exact absurd H (by simp)
      ·rw [if_neg c6] at H
       exact absurd H (by simp)
     ·rw [if_neg c5] at H
      have c5b0 : decide (x16_1 < (l1.length : Int)) = false := decide_eq_false c5; clear c5
      by_cases c14 : a0.size + 1 ≤ 9223372036854775807
      ·rw [if_pos c14] at H
       have c14b0 := eq_true c14; have c14b1 := decide_eq_true c14
       try have c14b2 := eq_false (Nat.not_lt.2 c14)
       obtain ⟨t220, A15, H⟩ := bO H
       by_cases c16 : (a0 ++ (⟨#[40]⟩ : ByteArray)).size + t220.size ≤ 9223372036854775807
       ·rw [if_pos c16] at H
        have c16b0 := eq_true c16; have c16b1 := decide_eq_true c16; have c16n : a0.size + 1 + t220.size ≤ 9223372036854775807 := by have h_ := c16; simp only [ByteArray.size_append] at h_; have z0_ : (⟨#[40]⟩ : ByteArray).size = 1 := rfl; first | exact h_ | omega
        have c16b3 := eq_true c16n; have c16b4 : (9223372036854775807 < a0.size + 1 + t220.size) = False := eq_false (Nat.not_lt.2 c16n)
        try have c16b2 := eq_false (Nat.not_lt.2 c16)
        by_cases c17 : ((a0 ++ (⟨#[40]⟩ : ByteArray)) ++ t220).size + 1 ≤ 9223372036854775807
        ·rw [if_pos c17] at H
         have c17b0 := eq_true c17; have c17b1 := decide_eq_true c17; have c17n : a0.size + 1 + t220.size + 1 ≤ 9223372036854775807 := by have h_ := c17; simp only [ByteArray.size_append] at h_; have z0_ : (⟨#[40]⟩ : ByteArray).size = 1 := rfl; first | exact h_ | omega
         have c17b3 := eq_true c17n; have c17b4 : (9223372036854775807 < a0.size + 1 + t220.size + 1) = False := eq_false (Nat.not_lt.2 c17n)
         try have c17b2 := eq_false (Nat.not_lt.2 c17)
         obtain rfl := Option.some.inj H; obtain ⟨Ao18, co18, eo18⟩ := Kd.R_slice HO_7.out; subst eo18
         go_wp2_with (first | ((with_reducible refine gate_callee (f := 37) rfl ?_); refine gL 30 Tryd.func37 #[.slice Ao18 x7_1.length co18, .string (⟨#[44, 32]⟩ : ByteArray)] ?_; (with_reducible refine (strings_Join.calls _ _ x7_1 (⟨#[44, 32]⟩ : ByteArray) t220 _ ?side1 ?side2 A15.out).mono ?_); (case side1 => repeat (first | exact (Kd.R_reads' HO_7.out).2.2 | (with_reducible refine Kd.C_alloc ?_ _) | (with_reducible refine Kd.C_drewN ?_ _) | (with_reducible refine Kd.C_drew ?_))); (case side2 => exact (Kd.R_reads' HO_7.out).2.1); rintro e w19 ⟨rfl, hb⟩; refine ⟨_, rfl, ?_⟩; replace HO_7 := am (Kd.R_below (d6 HO_7) hb); replace HB := bH hb; clear hb))
         go_ret; exact ⟨eW, bB⟩
        ·rw [if_neg c17] at H
         exact absurd H (by simp)
       ·rw [if_neg c16] at H
        exact absurd H (by simp)
      ·rw [if_neg c14] at H
       exact absurd H (by simp)
end Go.Proofs.YtmlkllbaehegjaaDoor.PAll
end
