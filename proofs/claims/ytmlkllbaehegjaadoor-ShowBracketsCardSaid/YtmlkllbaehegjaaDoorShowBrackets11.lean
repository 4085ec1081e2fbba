-- Words of the kit's print, walks printed by a program of this session (wip/prt) in shorter words, and texts of this session, merged (pack.py).
import Derived.Lib.Join
import Derived.Test.YtmlkllbaehegjaaDoorShowBrackets3
import Derived.Test.YtmlkllbaehegjaaDoorShowBrackets9
import Derived.Test.YtmlkllbaehegjaaDoorShowBrackets2
import Derived.Test.YtmlkllbaehegjaaDoorShowBrackets10
import Derived.Test.YtmlkllbaehegjaaDoorShowBrackets8
section
namespace Go.Proofs.YtmlkllbaehegjaaDoor.PAll
open Go.RowKit Go.Proofs.YtmlkllbaehegjaaDoorW.PrintWords Go.Proofs.YtmlkllbaehegjaaDoorW.PrintLast Go.Proofs.YtmlkllbaehegjaaDoorW.PrintMore
attribute [local go_sem] max2_int min2_int max_two min_two max_three min_three max_four min_four
set_option linter.unusedVariables false
set_option linter.unusedSimpArgs false
set_option maxHeartbeats 8000000 in
set_option maxRecDepth 100000 in
theorem show_apply.step (k : Nat) (ih_show_text : ∀ j_, j_ < k → ∀ (a0_0 : Int) (a0_1 : ByteArray) (a0_2 : Int) (A0_3 : Option Addr) (c0_3 : Nat) (l0_3 : List (S53)) (A1 : Option Addr) (c1 : Nat) (l1 : List ByteArray) (r : ByteArray) (w : World) (hG : Laid w) (hr0_3 : Kd.C k53 w A0_3 l0_3.length l0_3) (hc0_3 : l0_3.length ≤ c0_3) (hr1 : Kd.C Kd.string w A1 l1.length l1) (hc1 : l1.length ≤ c1) (h : show_text.f j_ a0_0 a0_1 a0_2 l0_3 l1 = some r),
    Calls Tryd.prog 38 #[.agg #[.int .i64 a0_0, .string a0_1, .int .i64 a0_2, .slice A0_3 l0_3.length c0_3], .slice A1 l1.length c1] w fun e w' => e = .returned (.string r) ∧ Below w.heap.size w w') (ih : ∀ j_, j_ < k → ∀ (a0 : ByteArray) (A1 : Option Addr) (c1 : Nat) (l1 : List (S53)) (A2 : Option Addr) (c2 : Nat) (l2 : List ByteArray) (r : ByteArray) (w : World) (hG : Laid w) (hr1 : Kd.C k53 w A1 l1.length l1) (hc1 : l1.length ≤ c1) (hr2 : Kd.C Kd.string w A2 l2.length l2) (hc2 : l2.length ≤ c2) (h : show_apply.f j_ a0 l1 l2 = some r),
    Calls Tryd.prog 52 #[.string a0, .slice A1 l1.length c1, .slice A2 l2.length c2] w fun e w' => e = .returned (.string r) ∧ Below w.heap.size w w') (ih_show_side : ∀ j_, j_ < k → ∀ (a0_0 : Int) (a0_1 : ByteArray) (a0_2 : Int) (A0_3 : Option Addr) (c0_3 : Nat) (l0_3 : List (S53)) (A1 : Option Addr) (c1 : Nat) (l1 : List ByteArray) (a2 : Bool) (r : ByteArray) (w : World) (hG : Laid w) (hr0_3 : Kd.C k53 w A0_3 l0_3.length l0_3) (hc0_3 : l0_3.length ≤ c0_3) (hr1 : Kd.C Kd.string w A1 l1.length l1) (hc1 : l1.length ≤ c1) (h : show_side.f j_ a0_0 a0_1 a0_2 l0_3 l1 a2 = some r),
    Calls Tryd.prog 58 #[.agg #[.int .i64 a0_0, .string a0_1, .int .i64 a0_2, .slice A0_3 l0_3.length c0_3], .slice A1 l1.length c1, .bool a2] w fun e w' => e = .returned (.string r) ∧ Below w.heap.size w w') : ∀ (a0 : ByteArray) (A1 : Option Addr) (c1 : Nat) (l1 : List (S53)) (A2 : Option Addr) (c2 : Nat) (l2 : List ByteArray) (r : ByteArray) (w : World) (hG : Laid w) (hr1 : Kd.C k53 w A1 l1.length l1) (hc1 : l1.length ≤ c1) (hr2 : Kd.C Kd.string w A2 l2.length l2) (hc2 : l2.length ≤ c2) (h : show_apply.f k a0 l1 l2 = some r),
    Calls Tryd.prog 52 #[.string a0, .slice A1 l1.length c1, .slice A2 l2.length c2] w fun e w' => e = .returned (.string r) ∧ Below w.heap.size w w' := by
  intro a0 A1 c1 l1 A2 c2 l2 r w hG hr1 hc1 hr2 hc2 h
  cases k with
  | zero => exact absurd h (by simp [show_apply.f])
  | succ k =>
  simp only [show_apply.f] at h; have hu53 := Tryd.underlying53; have HR1 := am hr1; have HC1 := am hc1; clear hr1 hc1; have HR2 := am hr2; have HC2 := am hc2; clear hr2 hc2; have HG := am hG; clear hG; have HB := am (Below.refl w.heap.size w); have H := h; clear h
  by_cases c4 : (l1.length : Int) = 0
  ·rw [if_pos c4] at H
   have c4b0 := beq_iff_eq.mpr c4; have c4b1 := bne_eq_false_iff_eq.mpr c4; clear c4; obtain rfl := Option.some.inj H
   go_enter Tryd.func52, Tryd.ntmps52
   go_wp2; go_ret; exact ⟨eW, bB⟩
  ·rw [if_neg c4] at H
   have c4b0 := beq_eq_false_iff_ne.mpr c4; have c4b1 := bne_iff_ne.mpr c4; have c4b2 : ¬ (l1 = []) := fun h_ => c4 (by rw [h_]; rfl)
   have H' := am H; clear H
   go_enter Tryd.func52, Tryd.ntmps52
   go_wp2
   go_loopg [7, 16] k (fun kq v7 v16 w' => ∃ (x7_1 : List ByteArray) (x16_1 : Int), v16 = .int .i64 x16_1 ∧ Aside0 (show_apply.l0 kq a0 l2 x7_1 l1 (l1.length : Int) x16_1 = some r) ∧ Aside0 (kq ≤ k) ∧ Aside0 (Kd.R Kd.string 9 w' w.heap.size (fun _ => True) v7 x7_1) ∧ Aside0 (Below w.heap.size w w'))
   case atStart => exact ⟨(([] : List ByteArray)), (0), eS, H', ⟨Nat.le_refl _⟩, ⟨by first | exact Kd.R_nil _ _ _ _ _ | exact Kd.N_nil _ _ _ _ _ | exact Kd.V_nil _ _ _ _ _ | exact Kd.Q_nil _ _ _ _ _ | exact Kd.S_nil _ _ _ _ _⟩, ⟨bB⟩⟩
   case round =>
    clear H'; (try clear c1); (try clear c2); (try clear p2); (try clear c4); (try clear c4b0); (try clear c4b1); (try clear c4b2); obtain ⟨x7_1, x16_1, rfl, HA, HK1, HO_7, HB⟩ := hrel
    cases gk with
    | zero => exact absurd HA.out (by simp [show_apply.l0])
    | succ k1 =>
     have H := HA.out; clear HA; simp only [show_apply.l0] at H
     by_cases c5 : x16_1 < (l1.length : Int)
     ·rw [if_pos c5] at H
      have c5b0 : decide (x16_1 < (l1.length : Int)) = true := decide_eq_true c5; clear c5
      by_cases c6 : 0 ≤ x16_1
      ·rw [if_pos c6] at H
       have c6b0 : decide (0 ≤ x16_1) = true := decide_eq_true c6; clear c6
       by_cases c7 : x16_1 < (l1.length : Int)
       ·rw [if_pos c7] at H
        have c7b0 : decide (x16_1 < (l1.length : Int)) = true := decide_eq_true c7; clear c7; obtain ⟨t216, A8, H⟩ := bO H
        by_cases c9 : x7_1.length < 8796093022208
        ·rw [if_pos c9] at H
         have LMc9 := am c9; clear c9; obtain ⟨y217, hy217⟩ : ∃ y_ : List ByteArray, y_ = (x7_1 ++ [t216]) := ⟨_, rfl⟩; replace H : (show_apply.l0 k1 a0 l2 y217 l1 (l1.length : Int) (wrap64 (x16_1 + 1))) = some r := by first | (rw [hy217]; with_reducible exact H) | (have H2_ := (Option.bind_some _ _).symm.trans H; rw [hy217]; with_reducible exact H2_) | (have H2_ := (Option.bind_some _ _).symm.trans H; with_reducible exact H2_) | with_reducible exact H | (rw [hy217]; exact H) | exact H
         have Ny217 := am hy217; clear hy217; have H' := am H; clear H; have p214 : 0 ≤ (x16_1 : Int) := of_decide_eq_true eA; have q214 : x16_1 < (l1.length : Int) := of_decide_eq_true eA; obtain ⟨ad214, A214_3, c214_3, e214, hx214_0, hx214_1, hx214_2, hx214_3, hl214_3, hi214_3⟩ := at_T53 HR1.out x16_1 p214 q214
         cases e214
         replace hx214_0 := cX HB hx214_0; replace hx214_1 := cX HB hx214_1; replace hx214_2 := cX HB hx214_2; replace hx214_3 := cX HB hx214_3; have HR214_3 := am hi214_3; have HC214_3 := am hl214_3; clear hi214_3 hl214_3; replace p214 := eq_true p214; replace q214 := eq_true q214
         go_wp2_with (first | ((with_reducible refine gate_dst (N := 9) rfl ?_); refine bE 9 #[.int .i64 0, .string (⟨#[]⟩ : ByteArray), .int .i64 0, .slice none 0 0] 53 ?_; intro gb215 w10 BK215 hg hb; replace HO_7 := am (Kd.R_below (d6 HO_7) hb); have GW215 := bZ hg; have GE215 := bZ hg; replace HB := bH hb; clear hb hg; obtain ⟨z11_0, z11_1, z11_2, z11_3, y11_0, y11_1, y11_2, y11_3⟩ := y4 BK215) | ((with_reducible refine gate_callee (f := 38) rfl ?_); refine gL 23 Tryd.func38 #[.agg #[.int .i64 ((rd_T53 l1 x16_1).f0), .string ((rd_T53 l1 x16_1).f1), .int .i64 ((rd_T53 l1 x16_1).f2), .slice A214_3 ((rd_T53 l1 x16_1).f3).length c214_3], .slice A2 l2.length c2] ?_; (with_reducible refine (ih_show_text k1 (by have := HK1.out; omega) ((rd_T53 l1 x16_1).f0) ((rd_T53 l1 x16_1).f1) ((rd_T53 l1 x16_1).f2) _ _ ((rd_T53 l1 x16_1).f3) _ _ l2 t216 _ ?side1 ?side2 HC214_3.out ?side4 HC2.out A8.out).mono ?_); (case side1 => exact Laid.below HG.out bB); (case side2 => exact Kd.C_below HR214_3.out bB); (case side4 => exact Kd.C_below HR2.out bB); rintro e w12 ⟨rfl, hb⟩; refine ⟨_, rfl, ?_⟩; replace HO_7 := am (Kd.R_below (by (with_reducible repeat (first | apply Kd.R_alloc | apply Kd.R_drewN | apply Kd.R_drew)); exact (Kd.R_mono (Kd.R_far (p := ⟨gb215, 3, none⟩) (Kd.R_far (p := ⟨gb215, 2, none⟩) (Kd.R_far (p := ⟨gb215, 1, none⟩) (Kd.R_far (p := ⟨gb215, 0, none⟩) (Kd.R_types HO_7.out BK215.out (by decide)) (fun _ hk => hk.2) (.int .i64 ((rd_T53 l1 x16_1).f0))) (fun _ hk => hk.2) (.string ((rd_T53 l1 x16_1).f1))) (fun _ hk => hk.2) (.int .i64 ((rd_T53 l1 x16_1).f2))) (fun _ hk => hk.2) (.slice A214_3 ((rd_T53 l1 x16_1).f3).length c214_3)) (fun _ h_ => h_.1))) hb); replace BK215 := bK (bP4 (.int .i64 ((rd_T53 l1 x16_1).f0)) (.string ((rd_T53 l1 x16_1).f1)) (.int .i64 ((rd_T53 l1 x16_1).f2)) (.slice A214_3 ((rd_T53 l1 x16_1).f3).length c214_3) BK215) hb; replace HB := bH hb; clear hb) | ((with_reducible refine gate_builtin (b := .append) (xs := #[.tmp 20, .tmp 24]) rfl ?_); at_builtin; refine Kd.R_append Kd.string (w0 := w) w.heap.size rfl (.tmp 20) (.tmp 24) 22 9 (.string ⟨#[]⟩) 16 rfl Tryd.underlying22 info9 rfl (by decide) (by omega) u7 x7_1 t216 [.string t216] (fun _ => True) (fun _ => False) rfl rfl ?aP (fun _ hk => hk.elim) ?aF ?aO ?aB ?aS ?aL ?_; (case aP => exact rfl); (case aB => exact bB); (case aF => exact (fun _ _ => trivial)); (case aO => exact (d6 HO_7)); (case aS => exact (below_size bB)); (case aL => have := LMc9.out; omega); intro v218 w13 ho hb hg hat; rw [← Ny217.out] at ho; replace BK215 := am (blk_grown (bD BK215) hg (Kd.R_ne HO_7.out BK215.out (by decide))); replace HB := am (hb); have HO219 := am (ho); clear HO_7; clear ho hb hg hat))
         go_roundg k1
         case measure => have := HK1.out; omega
         case rel => exact ⟨(y217), (wrap64 (x16_1 + 1)), eS, H', ⟨by have := HK1.out; omega⟩, ⟨by (with_reducible repeat (first | apply Kd.R_alloc | apply Kd.R_drewN | apply Kd.R_drew)); exact HO219.out⟩, ⟨bB⟩⟩
        ·rw [if_neg c9] at H
         exact absurd H (by simp)
       ·rw [if_neg c7] at H
        exact absurd H (by simp)
      ·rw [if_neg c6] at H
       exact absurd H (by simp)
     ·rw [if_neg c5] at H
      have c5b0 : decide (x16_1 < (l1.length : Int)) = false := decide_eq_false c5; clear c5
      by_cases c14 : a0.size + 1 ≤ 9223372036854775807
      ·rw [if_pos c14] at H
       have c14b0 := eq_true c14; have c14b1 := decide_eq_true c14
       try have c14b2 := eq_false (Nat.not_lt.2 c14)
       obtain ⟨t220, A15, H⟩ := bO H
       by_cases c16 : (a0 ++ (⟨#[40]⟩ : ByteArray)).size + t220.size ≤ 9223372036854775807
       ·rw [if_pos c16] at H
        have c16b0 := eq_true c16; have c16b1 := decide_eq_true c16; have c16n : a0.size + 1 + t220.size ≤ 9223372036854775807 := by have h_ := c16; simp only [ByteArray.size_append] at h_; have z0_ : (⟨#[40]⟩ : ByteArray).size = 1 := rfl; first | exact h_ | omega
        have c16b3 := eq_true c16n; have c16b4 : (9223372036854775807 < a0.size + 1 + t220.size) = False := eq_false (Nat.not_lt.2 c16n)
        try have c16b2 := eq_false (Nat.not_lt.2 c16)
        by_cases c17 : ((a0 ++ (⟨#[40]⟩ : ByteArray)) ++ t220).size + 1 ≤ 9223372036854775807
        ·rw [if_pos c17] at H
         have c17b0 := eq_true c17; have c17b1 := decide_eq_true c17; have c17n : a0.size + 1 + t220.size + 1 ≤ 9223372036854775807 := by have h_ := c17; simp only [ByteArray.size_append] at h_; have z0_ : (⟨#[40]⟩ : ByteArray).size = 1 := rfl; first | exact h_ | omega
         have c17b3 := eq_true c17n; have c17b4 : (9223372036854775807 < a0.size + 1 + t220.size + 1) = False := eq_false (Nat.not_lt.2 c17n)
         try have c17b2 := eq_false (Nat.not_lt.2 c17)
         obtain rfl := Option.some.inj H; obtain ⟨Ao18, co18, eo18⟩ := Kd.R_slice HO_7.out; subst eo18
         go_wp2_with (first | ((with_reducible refine gate_callee (f := 37) rfl ?_); refine gL 30 Tryd.func37 #[.slice Ao18 x7_1.length co18, .string (⟨#[44, 32]⟩ : ByteArray)] ?_; (with_reducible refine (strings_Join.calls _ _ x7_1 (⟨#[44, 32]⟩ : ByteArray) t220 _ ?side1 ?side2 A15.out).mono ?_); (case side1 => repeat (first | exact (Kd.R_reads' HO_7.out).2.2 | (with_reducible refine Kd.C_alloc ?_ _) | (with_reducible refine Kd.C_drewN ?_ _) | (with_reducible refine Kd.C_drew ?_))); (case side2 => exact (Kd.R_reads' HO_7.out).2.1); rintro e w19 ⟨rfl, hb⟩; refine ⟨_, rfl, ?_⟩; replace HO_7 := am (Kd.R_below (d6 HO_7) hb); replace HB := bH hb; clear hb))
         go_ret; exact ⟨eW, bB⟩
        ·rw [if_neg c17] at H
         exact absurd H (by simp)
       ·rw [if_neg c16] at H
        exact absurd H (by simp)
      ·rw [if_neg c14] at H
       exact absurd H (by simp)
set_option maxHeartbeats 8000000 in
set_option maxRecDepth 100000 in
theorem show_side.step (k : Nat) (ih_show_text : ∀ j_, j_ < k → ∀ (a0_0 : Int) (a0_1 : ByteArray) (a0_2 : Int) (A0_3 : Option Addr) (c0_3 : Nat) (l0_3 : List (S53)) (A1 : Option Addr) (c1 : Nat) (l1 : List ByteArray) (r : ByteArray) (w : World) (hG : Laid w) (hr0_3 : Kd.C k53 w A0_3 l0_3.length l0_3) (hc0_3 : l0_3.length ≤ c0_3) (hr1 : Kd.C Kd.string w A1 l1.length l1) (hc1 : l1.length ≤ c1) (h : show_text.f j_ a0_0 a0_1 a0_2 l0_3 l1 = some r),
    Calls Tryd.prog 38 #[.agg #[.int .i64 a0_0, .string a0_1, .int .i64 a0_2, .slice A0_3 l0_3.length c0_3], .slice A1 l1.length c1] w fun e w' => e = .returned (.string r) ∧ Below w.heap.size w w') (ih_show_apply : ∀ j_, j_ < k → ∀ (a0 : ByteArray) (A1 : Option Addr) (c1 : Nat) (l1 : List (S53)) (A2 : Option Addr) (c2 : Nat) (l2 : List ByteArray) (r : ByteArray) (w : World) (hG : Laid w) (hr1 : Kd.C k53 w A1 l1.length l1) (hc1 : l1.length ≤ c1) (hr2 : Kd.C Kd.string w A2 l2.length l2) (hc2 : l2.length ≤ c2) (h : show_apply.f j_ a0 l1 l2 = some r),
    Calls Tryd.prog 52 #[.string a0, .slice A1 l1.length c1, .slice A2 l2.length c2] w fun e w' => e = .returned (.string r) ∧ Below w.heap.size w w') (ih : ∀ j_, j_ < k → ∀ (a0_0 : Int) (a0_1 : ByteArray) (a0_2 : Int) (A0_3 : Option Addr) (c0_3 : Nat) (l0_3 : List (S53)) (A1 : Option Addr) (c1 : Nat) (l1 : List ByteArray) (a2 : Bool) (r : ByteArray) (w : World) (hG : Laid w) (hr0_3 : Kd.C k53 w A0_3 l0_3.length l0_3) (hc0_3 : l0_3.length ≤ c0_3) (hr1 : Kd.C Kd.string w A1 l1.length l1) (hc1 : l1.length ≤ c1) (h : show_side.f j_ a0_0 a0_1 a0_2 l0_3 l1 a2 = some r),
    Calls Tryd.prog 58 #[.agg #[.int .i64 a0_0, .string a0_1, .int .i64 a0_2, .slice A0_3 l0_3.length c0_3], .slice A1 l1.length c1, .bool a2] w fun e w' => e = .returned (.string r) ∧ Below w.heap.size w w') : ∀ (a0_0 : Int) (a0_1 : ByteArray) (a0_2 : Int) (A0_3 : Option Addr) (c0_3 : Nat) (l0_3 : List (S53)) (A1 : Option Addr) (c1 : Nat) (l1 : List ByteArray) (a2 : Bool) (r : ByteArray) (w : World) (hG : Laid w) (hr0_3 : Kd.C k53 w A0_3 l0_3.length l0_3) (hc0_3 : l0_3.length ≤ c0_3) (hr1 : Kd.C Kd.string w A1 l1.length l1) (hc1 : l1.length ≤ c1) (h : show_side.f k a0_0 a0_1 a0_2 l0_3 l1 a2 = some r),
    Calls Tryd.prog 58 #[.agg #[.int .i64 a0_0, .string a0_1, .int .i64 a0_2, .slice A0_3 l0_3.length c0_3], .slice A1 l1.length c1, .bool a2] w fun e w' => e = .returned (.string r) ∧ Below w.heap.size w w' := by
  intro a0_0 a0_1 a0_2 A0_3 c0_3 l0_3 A1 c1 l1 a2 r w hG hr0_3 hc0_3 hr1 hc1 h
  cases k with
  | zero => exact absurd h (by simp [show_side.f])
  | succ k =>
  simp only [show_side.f] at h; have hu53 := Tryd.underlying53; have HR0_3 := am hr0_3; have HC0_3 := am hc0_3; clear hr0_3 hc0_3; have HR1 := am hr1; have HC1 := am hc1; clear hr1 hc1; have HG := am hG; clear hG; have HB := am (Below.refl w.heap.size w); have H := h; clear h; obtain ⟨t222, A4, H⟩ := bO H; have HC5 := am H; clear H
  go_enter Tryd.func58, Tryd.ntmps58
  go_upto_region 2 with (first | ((with_reducible refine gate_dst (N := 3) rfl ?_); refine bE 3 #[.int .i64 a0_0, .string a0_1, .int .i64 a0_2, .slice A0_3 l0_3.length c0_3] 53 ?_; intro gb221 w6 BK221 hg hb; have GW221 := bZ hg; have GE221 := bZ hg; replace HB := bH hb; clear hb hg; obtain ⟨z7_0, z7_1, z7_2, z7_3, y7_0, y7_1, y7_2, y7_3⟩ := y4 BK221) | ((with_reducible refine gate_callee (f := 38) rfl ?_); refine gL 10 Tryd.func38 #[.agg #[.int .i64 a0_0, .string a0_1, .int .i64 a0_2, .slice A0_3 l0_3.length c0_3], .slice A1 l1.length c1] ?_; (with_reducible refine (ih_show_text k (by omega) a0_0 a0_1 a0_2 _ _ l0_3 _ _ l1 t222 _ ?side1 ?side2 HC0_3.out ?side4 HC1.out A4.out).mono ?_); (case side1 => exact Laid.below HG.out bB); (case side2 => exact cB HR0_3); (case side4 => exact cB HR1); rintro e w8 ⟨rfl, hb⟩; refine ⟨_, rfl, ?_⟩; replace BK221 := bK BK221 hb; replace HB := bH hb; clear hb))
  (try simp only [Act.put, List.setIfInBounds_toArray, List.set_cons_zero, List.set_cons_succ])
  go_cut [21] (fun v21 wc => ∃ (kq : Nat) (x21_4 : Bool), v21 = .bool x21_4 ∧ Aside0 (show_side.j0 kq t222 x21_4 = some r) ∧ Aside0 (kq ≤ k) ∧ Aside0 (wc.heap[gb221]? = some (.cells #[.int .i64 a0_0, .string a0_1, .int .i64 a0_2, (.slice A0_3 l0_3.length c0_3)] 53 (0, 0))) ∧ Aside0 (Below w.heap.size w wc))
  case first =>
   have H := HC5.out; clear HC5
   by_cases c9 : a2 = true
   ·subst c9
    rw [if_pos rfl] at H; have H' := am H; clear H; go_wp2; go_meet
    case rel => exact ⟨_, (true), eS, H', ⟨eO⟩, ⟨bD BK221⟩, ⟨bB⟩⟩
   ·replace c9 := Bool.eq_false_iff.mpr c9
    subst c9; rw [if_neg (show ¬ (false = true) by decide)] at H
    by_cases c10 : a0_0 = 4
    ·rw [if_pos c10] at H
     have c10b0 := beq_iff_eq.mpr c10; have c10b1 := bne_eq_false_iff_eq.mpr c10; clear c10; (first | rw [c10b0] | (simp only [i64_w, i32_w]; rw [c10b0]) | skip); have H' := am H; clear H; obtain ⟨z11_0, z11_1, z11_2, z11_3, y11_0, y11_1, y11_2, y11_3⟩ := y4 BK221; go_wp2; go_meet
     case rel => exact ⟨_, (decide (a0_2 < 0)), eS, H', ⟨eO⟩, ⟨bD BK221⟩, ⟨bB⟩⟩
    ·rw [if_neg c10] at H
     have c10b0 := beq_eq_false_iff_ne.mpr c10; have c10b1 := bne_iff_ne.mpr c10; (first | rw [c10b0] | (simp only [i64_w, i32_w]; rw [c10b0]) | skip); have H' := am H; clear H; obtain ⟨z12_0, z12_1, z12_2, z12_3, y12_0, y12_1, y12_2, y12_3⟩ := y4 BK221; go_wp2; go_meet
     case rel => exact ⟨_, (false), eS, H', ⟨eO⟩, ⟨bD BK221⟩, ⟨bB⟩⟩
  case rest =>
   clear HC5; (try clear c1); (try clear p2); (try clear c3); (try clear c5); (try clear c9); (try clear c10); (try clear c10b0); (try clear c10b1); (try clear z11_0 z11_1 z11_2 z11_3); (try clear z12_0 z12_1 z12_2 z12_3); (try clear z7_0 z7_1 z7_2 z7_3); (try clear y11_0 y11_1 y11_2 y11_3); (try clear y12_0 y12_1 y12_2 y12_3); (try clear y7_0 y7_1 y7_2 y7_3); obtain ⟨kq, x21_4, rfl, HA, HJ4, BK221, HB⟩ := hcut
   cases kq with
   | zero => exact absurd HA.out (by simp [show_side.j0])
   | succ kj4 =>
    have H := HA.out; clear HA; simp only [show_side.j0] at H
    by_cases c13 : x21_4 = true
    ·subst c13
     rw [if_pos rfl] at H
     by_cases c14 : 1 + t222.size ≤ 9223372036854775807
     ·rw [if_pos c14] at H
      have c14b0 := eq_true c14; have c14b1 := decide_eq_true c14
      try have c14b2 := eq_false (Nat.not_lt.2 c14)
      by_cases c15 : ((⟨#[40]⟩ : ByteArray) ++ t222).size + 1 ≤ 9223372036854775807
      ·rw [if_pos c15] at H
       have c15b0 := eq_true c15; have c15b1 := decide_eq_true c15; have c15n : 1 + t222.size + 1 ≤ 9223372036854775807 := by have h_ := c15; simp only [ByteArray.size_append] at h_; have z0_ : (⟨#[40]⟩ : ByteArray).size = 1 := rfl; first | exact h_ | omega
       have c15b3 := eq_true c15n; have c15b4 : (9223372036854775807 < 1 + t222.size + 1) = False := eq_false (Nat.not_lt.2 c15n)
       try have c15b2 := eq_false (Nat.not_lt.2 c15)
       obtain rfl := Option.some.inj H; go_wp2; go_ret; exact ⟨eW, bB⟩
      ·rw [if_neg c15] at H
       exact absurd H (by simp)
     ·rw [if_neg c14] at H
      exact absurd H (by simp)
    ·replace c13 := Bool.eq_false_iff.mpr c13
     subst c13; rw [if_neg (show ¬ (false = true) by decide)] at H; obtain rfl := Option.some.inj H; go_wp2; go_ret; exact ⟨eW, bB⟩
def show_text.Spec (k : Nat) : Prop := ∀ (a0_0 : Int) (a0_1 : ByteArray) (a0_2 : Int) (A0_3 : Option Addr) (c0_3 : Nat) (l0_3 : List (S53)) (A1 : Option Addr) (c1 : Nat) (l1 : List ByteArray) (r : ByteArray) (w : World) (hG : Laid w) (hr0_3 : Kd.C k53 w A0_3 l0_3.length l0_3) (hc0_3 : l0_3.length ≤ c0_3) (hr1 : Kd.C Kd.string w A1 l1.length l1) (hc1 : l1.length ≤ c1) (h : show_text.f k a0_0 a0_1 a0_2 l0_3 l1 = some r),
    Calls Tryd.prog 38 #[.agg #[.int .i64 a0_0, .string a0_1, .int .i64 a0_2, .slice A0_3 l0_3.length c0_3], .slice A1 l1.length c1] w fun e w' => e = .returned (.string r) ∧ Below w.heap.size w w'
def show_apply.Spec (k : Nat) : Prop := ∀ (a0 : ByteArray) (A1 : Option Addr) (c1 : Nat) (l1 : List (S53)) (A2 : Option Addr) (c2 : Nat) (l2 : List ByteArray) (r : ByteArray) (w : World) (hG : Laid w) (hr1 : Kd.C k53 w A1 l1.length l1) (hc1 : l1.length ≤ c1) (hr2 : Kd.C Kd.string w A2 l2.length l2) (hc2 : l2.length ≤ c2) (h : show_apply.f k a0 l1 l2 = some r),
    Calls Tryd.prog 52 #[.string a0, .slice A1 l1.length c1, .slice A2 l2.length c2] w fun e w' => e = .returned (.string r) ∧ Below w.heap.size w w'
def show_side.Spec (k : Nat) : Prop := ∀ (a0_0 : Int) (a0_1 : ByteArray) (a0_2 : Int) (A0_3 : Option Addr) (c0_3 : Nat) (l0_3 : List (S53)) (A1 : Option Addr) (c1 : Nat) (l1 : List ByteArray) (a2 : Bool) (r : ByteArray) (w : World) (hG : Laid w) (hr0_3 : Kd.C k53 w A0_3 l0_3.length l0_3) (hc0_3 : l0_3.length ≤ c0_3) (hr1 : Kd.C Kd.string w A1 l1.length l1) (hc1 : l1.length ≤ c1) (h : show_side.f k a0_0 a0_1 a0_2 l0_3 l1 a2 = some r),
    Calls Tryd.prog 58 #[.agg #[.int .i64 a0_0, .string a0_1, .int .i64 a0_2, .slice A0_3 l0_3.length c0_3], .slice A1 l1.length c1, .bool a2] w fun e w' => e = .returned (.string r) ∧ Below w.heap.size w w'
theorem show_text.all (k : Nat) : show_text.Spec k ∧ show_apply.Spec k ∧ show_side.Spec k := by
  induction k using Nat.strongRecOn with
  | _ k ih => exact ⟨show_text.step k (fun j_ hj_ => (ih j_ hj_).1) (fun j_ hj_ => (ih j_ hj_).2.1) (fun j_ hj_ => (ih j_ hj_).2.2), show_apply.step k (fun j_ hj_ => (ih j_ hj_).1) (fun j_ hj_ => (ih j_ hj_).2.1) (fun j_ hj_ => (ih j_ hj_).2.2), show_side.step k (fun j_ hj_ => (ih j_ hj_).1) (fun j_ hj_ => (ih j_ hj_).2.1) (fun j_ hj_ => (ih j_ hj_).2.2)⟩
theorem show_text.calls (k : Nat) : ∀ (a0_0 : Int) (a0_1 : ByteArray) (a0_2 : Int) (A0_3 : Option Addr) (c0_3 : Nat) (l0_3 : List (S53)) (A1 : Option Addr) (c1 : Nat) (l1 : List ByteArray) (r : ByteArray) (w : World) (hG : Laid w) (hr0_3 : Kd.C k53 w A0_3 l0_3.length l0_3) (hc0_3 : l0_3.length ≤ c0_3) (hr1 : Kd.C Kd.string w A1 l1.length l1) (hc1 : l1.length ≤ c1) (h : show_text.f k a0_0 a0_1 a0_2 l0_3 l1 = some r),
    Calls Tryd.prog 38 #[.agg #[.int .i64 a0_0, .string a0_1, .int .i64 a0_2, .slice A0_3 l0_3.length c0_3], .slice A1 l1.length c1] w fun e w' => e = .returned (.string r) ∧ Below w.heap.size w w' :=
  (show_text.all k).1
theorem show_apply.calls (k : Nat) : ∀ (a0 : ByteArray) (A1 : Option Addr) (c1 : Nat) (l1 : List (S53)) (A2 : Option Addr) (c2 : Nat) (l2 : List ByteArray) (r : ByteArray) (w : World) (hG : Laid w) (hr1 : Kd.C k53 w A1 l1.length l1) (hc1 : l1.length ≤ c1) (hr2 : Kd.C Kd.string w A2 l2.length l2) (hc2 : l2.length ≤ c2) (h : show_apply.f k a0 l1 l2 = some r),
    Calls Tryd.prog 52 #[.string a0, .slice A1 l1.length c1, .slice A2 l2.length c2] w fun e w' => e = .returned (.string r) ∧ Below w.heap.size w w' :=
  (show_text.all k).2.1
/-! ### show_termOf: function 49 -/
def show_termOf.f (a0_0 : Int) (a0_1 : ByteArray) (a0_2 : ByteArray) (l0_3 : List (S53)) (l0_4 : List (S30)) (a1 : Int) : Option (Int × ByteArray × Int × (List (S53))) := if a1 < (l0_3.length : Int) then (if 0 ≤ a1 then (some ((rd_T53 l0_3 a1).f0, (rd_T53 l0_3 a1).f1, (rd_T53 l0_3 a1).f2, (rd_T53 l0_3 a1).f3)) else (none)) else (some (0, (⟨#[]⟩ : ByteArray), 0, ([] : List (S53))))
set_option maxHeartbeats 8000000 in
set_option maxRecDepth 100000 in
theorem show_termOf.calls (a0_0 : Int) (a0_1 : ByteArray) (a0_2 : ByteArray) (P0_3_ : Nat → Prop) (A0_3 : Option Addr) (c0_3 : Nat) (l0_3 : List (S53)) (A0_4 : Option Addr) (c0_4 : Nat) (l0_4 : List (S30)) (a1 : Int) (r1 : Int) (r2 : ByteArray) (r3 : Int) (r4 : List (S53)) (w : World) (hs0_3 : Kd.V k53 53 w w.heap.size (fun k_ => P0_3_ k_) (.slice A0_3 l0_3.length c0_3) l0_3) (hr0_4 : Kd.C k30 w A0_4 l0_4.length l0_4) (hc0_4 : l0_4.length ≤ c0_4) (h : show_termOf.f a0_0 a0_1 a0_2 l0_3 l0_4 a1 = some (r1, r2, r3, r4)) :
    Calls Tryd.prog 49 #[.agg #[.int .i64 a0_0, .string a0_1, .string a0_2, .slice A0_3 l0_3.length c0_3, .slice A0_4 l0_4.length c0_4], .int .i64 a1] w fun e w' => ∃ v3_ : Value, e = .returned (.agg #[.int .i64 r1, .string r2, .int .i64 r3, v3_]) ∧ Kd.V k53 53 w' w.heap.size (fun k_ => (P0_3_ k_ ∨ w.heap.size ≤ k_)) v3_ r4 ∧ Below w.heap.size w w' := by
  have hu30 := Tryd.underlying30; have hu53 := Tryd.underlying53; have HO0_3 := am (show Kd.V k53 53 w w.heap.size (fun k_ => (P0_3_ k_ ∨ w.heap.size ≤ k_)) (.slice A0_3 l0_3.length c0_3) l0_3 from Kd.V_mono hs0_3 (fun k_ hk => .inl hk)); have HR0_4 := am hr0_4; have HC0_4 := am hc0_4; clear hr0_4 hc0_4; have HB := am (Below.refl w.heap.size w); have H := h; unfold show_termOf.f at H; clear h
  by_cases c3 : a1 < (l0_3.length : Int)
  ·rw [if_pos c3] at H
   have c3b0 : decide (a1 < (l0_3.length : Int)) = true := decide_eq_true c3; clear c3
   by_cases c4 : 0 ≤ a1
   ·rw [if_pos c4] at H
    have c4b0 : decide (0 ≤ a1) = true := decide_eq_true c4; clear c4; simp only [Option.some.injEq, Prod.mk.injEq] at H; obtain ⟨rfl, rfl, rfl, rfl⟩ := H
    go_enter Tryd.func49, Tryd.ntmps49
    go_wp2_with (first | ((with_reducible refine gate_dst (N := 2) rfl ?_); refine bE 2 #[.int .i64 a0_0, .string a0_1, .string a0_2, .slice A0_3 l0_3.length c0_3, .slice A0_4 l0_4.length c0_4] 30 ?_; intro gb223 w5 BK223 hg hb; replace HO0_3 := vE HO0_3 hg hb; have GW223 := bZ hg; have GE223 := bZ hg; replace HB := bH hb; clear hb hg) | ((with_reducible refine gate_dst (N := 4) rfl ?_); refine bE 4 #[.int .i64 0, .string (⟨#[]⟩ : ByteArray), .int .i64 0, .slice none 0 0] 53 ?_; intro gb224 w6 BK224 hg hb; replace HO0_3 := vE HO0_3 hg hb; have GW224 := bZ hg; have GE224 := bZ hg; replace HB := bH hb; have NB223_224 := bN BK223 hg; have NB224_223 := bM BK223 hg; replace BK223 := bK BK223 hb; clear hb hg; have hnb7 := NB223_224.out; have hnc7 := NB224_223.out; obtain ⟨z8_0, z8_1, z8_2, z8_3, z8_4, y8_0, y8_1, y8_2, y8_3, y8_4⟩ := y5 BK223; have p225 : 0 ≤ (a1 : Int) := of_decide_eq_true eA; have q225 : a1 < (l0_3.length : Int) := of_decide_eq_true eA; obtain ⟨ad225, A225_3, c225_3, e225, hx225_0, hx225_1, hx225_2, hx225_3, hl225_3, hi225_3⟩ := at_T53 (Kd.V_reads' HO0_3.out).2.2 a1 p225 q225; cases e225; obtain ⟨ce225, hce225, hMe225, hcc225⟩ := Kd.V_get HO0_3.out z53 a1 p225 (by first | exact q225 | exact of_decide_eq_true eA | (have e_ := (Kd.V_reads' HO0_3.out).1; omega)); obtain ⟨ua225_3, uc225_3, rfl, ul225_3, ge225_3⟩ := k53_openF hMe225; have hv225_3 := hcc225 3 _ rfl; rw [add_field _ _ 3 (by omega)] at hv225_3; replace hv225_3 := Option.some.inj (hv225_3.symm.trans hx225_3); injection hv225_3 with hva_ hvn_ hvc_; rw [hva_] at ge225_3; rw [hvc_] at ul225_3; have HL225_3 := am (show Kd.V k53 53 _ w.heap.size _ _ ((rd_T53 l0_3 a1).f3) from Kd.V_mk ul225_3 ge225_3); clear hva_ hvn_ hvc_ ge225_3 ul225_3; clear hcc225 hce225; have HR225_3 := am hi225_3; have HC225_3 := am hl225_3; clear hi225_3 hl225_3; replace p225 := eq_true p225; replace q225 := eq_true q225; obtain ⟨z9_0, z9_1, z9_2, z9_3, y9_0, y9_1, y9_2, y9_3⟩ := y4 BK224))
    refine bodyPost_ret (results_cell_row rfl _ _ gb224 53 #[.int .i64 ((rd_T53 l0_3 a1).f0), .string ((rd_T53 l0_3 a1).f1), .int .i64 ((rd_T53 l0_3 a1).f2), .slice A225_3 ((rd_T53 l0_3 a1).f3).length c225_3] (0, 0) _ rfl (d10 BK224) Tryd.underlying53 rfl (by kernel_rfl)) rfl ?_
    exact ⟨_, eW, by (with_reducible repeat (first | apply Kd.V_alloc | apply Kd.V_drewN | apply Kd.V_drew)); exact Kd.V_mono (Kd.V_far (p := ⟨gb224, 3, none⟩) (Kd.V_far (p := ⟨gb224, 2, none⟩) (Kd.V_far (p := ⟨gb224, 1, none⟩) (Kd.V_far (p := ⟨gb224, 0, none⟩) (Kd.V_mono HL225_3.out (fun k_ hk => (⟨hk, hk.2⟩ : _ ∧ k_ ≠ gb224))) (fun _ hk => hk.2) (.int .i64 ((rd_T53 l0_3 a1).f0))) (fun _ hk => hk.2) (.string ((rd_T53 l0_3 a1).f1))) (fun _ hk => hk.2) (.int .i64 ((rd_T53 l0_3 a1).f2))) (fun _ hk => hk.2) (.slice A225_3 ((rd_T53 l0_3 a1).f3).length c225_3)) (fun _ hk => hk.1.1.1), bB⟩
   ·rw [if_neg c4] at H
    exact absurd H (by simp)
  ·rw [if_neg c3] at H
   have c3b0 : decide (a1 < (l0_3.length : Int)) = false := decide_eq_false c3; clear c3; simp only [Option.some.injEq, Prod.mk.injEq] at H; obtain ⟨rfl, rfl, rfl, rfl⟩ := H
   go_enter Tryd.func49, Tryd.ntmps49
   go_wp2_with (first | ((with_reducible refine gate_dst (N := 2) rfl ?_); refine bE 2 #[.int .i64 a0_0, .string a0_1, .string a0_2, .slice A0_3 l0_3.length c0_3, .slice A0_4 l0_4.length c0_4] 30 ?_; intro gb223 w10 BK223 hg hb; replace HO0_3 := vE HO0_3 hg hb; have GW223 := bZ hg; have GE223 := bZ hg; replace HB := bH hb; clear hb hg) | ((with_reducible refine gate_dst (N := 4) rfl ?_); refine bE 4 #[.int .i64 0, .string (⟨#[]⟩ : ByteArray), .int .i64 0, .slice none 0 0] 53 ?_; intro gb224 w11 BK224 hg hb; replace HO0_3 := vE HO0_3 hg hb; have GW224 := bZ hg; have GE224 := bZ hg; replace HB := bH hb; have NB223_224 := bN BK223 hg; have NB224_223 := bM BK223 hg; replace BK223 := bK BK223 hb; clear hb hg; have hnb12 := NB223_224.out; have hnc12 := NB224_223.out; obtain ⟨z13_0, z13_1, z13_2, z13_3, z13_4, y13_0, y13_1, y13_2, y13_3, y13_4⟩ := y5 BK223; obtain ⟨z14_0, z14_1, z14_2, z14_3, y14_0, y14_1, y14_2, y14_3⟩ := y4 BK224))
   refine bodyPost_ret (results_cell_row rfl _ _ gb224 53 #[.int .i64 0, .string (⟨#[]⟩ : ByteArray), .int .i64 0, .slice none 0 0] (0, 0) _ rfl (d15 BK224) Tryd.underlying53 rfl (by kernel_rfl)) rfl ?_
   exact ⟨_, eW, d18, bB⟩
/-! ### show_sub: function 50 -/
def show_sub.f (a0_0 : Int) (a0_1 : ByteArray) (a0_2 : ByteArray) (l0_3 : List (S53)) (l0_4 : List (S30)) (a1 : Int) : Option (Int × ByteArray × ByteArray × (List (S53)) × (List (S30))) := if a1 < (l0_4.length : Int) then (if 0 ≤ a1 then (some ((rd_T30 l0_4 a1).f0, (rd_T30 l0_4 a1).f1, (rd_T30 l0_4 a1).f2, (rd_T30 l0_4 a1).f3, (rd_T30 l0_4 a1).f4)) else (none)) else (some (1, (⟨#[]⟩ : ByteArray), (⟨#[]⟩ : ByteArray), ([] : List (S53)), ([] : List (S30))))
set_option maxHeartbeats 8000000 in
set_option maxRecDepth 100000 in
theorem show_sub.calls (a0_0 : Int) (a0_1 : ByteArray) (a0_2 : ByteArray) (A0_3 : Option Addr) (c0_3 : Nat) (l0_3 : List (S53)) (P0_4_ : Nat → Prop) (A0_4 : Option Addr) (c0_4 : Nat) (l0_4 : List (S30)) (a1 : Int) (r1 : Int) (r2 : ByteArray) (r3 : ByteArray) (r4 : List (S53)) (r5 : List (S30)) (w : World) (hr0_3 : Kd.C k53 w A0_3 l0_3.length l0_3) (hc0_3 : l0_3.length ≤ c0_3) (hs0_4 : Kd.V k30 30 w w.heap.size (fun k_ => P0_4_ k_) (.slice A0_4 l0_4.length c0_4) l0_4) (h : show_sub.f a0_0 a0_1 a0_2 l0_3 l0_4 a1 = some (r1, r2, r3, r4, r5)) :
    Calls Tryd.prog 50 #[.agg #[.int .i64 a0_0, .string a0_1, .string a0_2, .slice A0_3 l0_3.length c0_3, .slice A0_4 l0_4.length c0_4], .int .i64 a1] w fun e w' => ∃ v3_ v4_ : Value, e = .returned (.agg #[.int .i64 r1, .string r2, .string r3, v3_, v4_]) ∧ Kd.V k53 53 w' w.heap.size (fun k_ => (P0_4_ k_ ∨ w.heap.size ≤ k_)) v3_ r4 ∧ Kd.V k30 30 w' w.heap.size (fun k_ => (P0_4_ k_ ∨ w.heap.size ≤ k_)) v4_ r5 ∧ Below w.heap.size w w' := by
  have hu30 := Tryd.underlying30; have HR0_3 := am hr0_3; have HC0_3 := am hc0_3; clear hr0_3 hc0_3; have HO0_4 := am (show Kd.V k30 30 w w.heap.size (fun k_ => (P0_4_ k_ ∨ w.heap.size ≤ k_)) (.slice A0_4 l0_4.length c0_4) l0_4 from Kd.V_mono hs0_4 (fun k_ hk => .inl hk)); have HB := am (Below.refl w.heap.size w); have H := h; unfold show_sub.f at H; clear h
  by_cases c3 : a1 < (l0_4.length : Int)
  ·rw [if_pos c3] at H
   have c3b0 : decide (a1 < (l0_4.length : Int)) = true := decide_eq_true c3; clear c3
   by_cases c4 : 0 ≤ a1
   ·rw [if_pos c4] at H
    have c4b0 : decide (0 ≤ a1) = true := decide_eq_true c4; clear c4; simp only [Option.some.injEq, Prod.mk.injEq] at H; obtain ⟨rfl, rfl, rfl, rfl, rfl⟩ := H
    go_enter Tryd.func50, Tryd.ntmps50
    go_wp2_with (first | ((with_reducible refine gate_dst (N := 2) rfl ?_); refine bE 2 #[.int .i64 a0_0, .string a0_1, .string a0_2, .slice A0_3 l0_3.length c0_3, .slice A0_4 l0_4.length c0_4] 30 ?_; intro gb226 w5 BK226 hg hb; replace HO0_4 := vE HO0_4 hg hb; have GW226 := bZ hg; have GE226 := bZ hg; replace HB := bH hb; clear hb hg) | ((with_reducible refine gate_dst (N := 4) rfl ?_); refine bE 4 #[.int .i64 0, .string (⟨#[]⟩ : ByteArray), .string (⟨#[]⟩ : ByteArray), .slice none 0 0, .slice none 0 0] 30 ?_; intro gb227 w6 BK227 hg hb; replace HO0_4 := vE HO0_4 hg hb; have GW227 := bZ hg; have GE227 := bZ hg; replace HB := bH hb; have NB226_227 := bN BK226 hg; have NB227_226 := bM BK226 hg; replace BK226 := bK BK226 hb; clear hb hg; have hnb7 := NB226_227.out; have hnc7 := NB227_226.out; obtain ⟨z8_0, z8_1, z8_2, z8_3, z8_4, y8_0, y8_1, y8_2, y8_3, y8_4⟩ := y5 BK226; have p228 : 0 ≤ (a1 : Int) := of_decide_eq_true eA; have q228 : a1 < (l0_4.length : Int) := of_decide_eq_true eA; obtain ⟨ad228, A228_3, c228_3, A228_4, c228_4, e228, hx228_0, hx228_1, hx228_2, hx228_3, hx228_4, hl228_3, hi228_3, hl228_4, hi228_4⟩ := at_T30 (Kd.V_reads' HO0_4.out).2.2 a1 p228 q228; cases e228; obtain ⟨ce228, hce228, hMe228, hcc228⟩ := Kd.V_get HO0_4.out z30 a1 p228 (by first | exact q228 | exact of_decide_eq_true eA | (have e_ := (Kd.V_reads' HO0_4.out).1; omega)); obtain ⟨ua228_3, uc228_3, ua228_4, uc228_4, rfl, ul228_3, ge228_3, ul228_4, ge228_4⟩ := k30_openF hMe228; have hv228_3 := hcc228 3 _ rfl; rw [add_field _ _ 3 (by omega)] at hv228_3; replace hv228_3 := Option.some.inj (hv228_3.symm.trans hx228_3); injection hv228_3 with hva_ hvn_ hvc_; rw [hva_] at ge228_3; rw [hvc_] at ul228_3; have HL228_3 := am (show Kd.V k53 53 _ w.heap.size _ _ ((rd_T30 l0_4 a1).f3) from Kd.V_mk ul228_3 ge228_3); clear hva_ hvn_ hvc_ ge228_3 ul228_3; have hv228_4 := hcc228 4 _ rfl; rw [add_field _ _ 4 (by omega)] at hv228_4; replace hv228_4 := Option.some.inj (hv228_4.symm.trans hx228_4); injection hv228_4 with hva_ hvn_ hvc_; rw [hva_] at ge228_4; rw [hvc_] at ul228_4; have HL228_4 := am (show Kd.V k30 30 _ w.heap.size _ _ ((rd_T30 l0_4 a1).f4) from Kd.V_mk ul228_4 ge228_4); clear hva_ hvn_ hvc_ ge228_4 ul228_4; clear hcc228 hce228; have HR228_3 := am hi228_3; have HC228_3 := am hl228_3; clear hi228_3 hl228_3; have HR228_4 := am hi228_4; have HC228_4 := am hl228_4; clear hi228_4 hl228_4; replace p228 := eq_true p228; replace q228 := eq_true q228; obtain ⟨z9_0, z9_1, z9_2, z9_3, z9_4, y9_0, y9_1, y9_2, y9_3, y9_4⟩ := y5 BK227))
    refine bodyPost_ret (results_cell_row rfl _ _ gb227 30 #[.int .i64 ((rd_T30 l0_4 a1).f0), .string ((rd_T30 l0_4 a1).f1), .string ((rd_T30 l0_4 a1).f2), .slice A228_3 ((rd_T30 l0_4 a1).f3).length c228_3, .slice A228_4 ((rd_T30 l0_4 a1).f4).length c228_4] (0, 0) _ rfl (by (with_reducible repeat (first | refine blk_drewN ?_ _ | refine blk_drew ?_ | refine blk_alloc ?_ _)); refine blk_put (cs := #[.int .i64 ((rd_T30 l0_4 a1).f0), .string ((rd_T30 l0_4 a1).f1), .string ((rd_T30 l0_4 a1).f2), .slice A228_3 ((rd_T30 l0_4 a1).f3).length c228_3, .slice none 0 0]) ?_ 4 _ rfl; (with_reducible repeat (first | refine blk_drewN ?_ _ | refine blk_drew ?_ | refine blk_alloc ?_ _)); refine blk_put (cs := #[.int .i64 ((rd_T30 l0_4 a1).f0), .string ((rd_T30 l0_4 a1).f1), .string ((rd_T30 l0_4 a1).f2), .slice none 0 0, .slice none 0 0]) ?_ 3 _ rfl; (with_reducible repeat (first | refine blk_drewN ?_ _ | refine blk_drew ?_ | refine blk_alloc ?_ _)); refine blk_put (cs := #[.int .i64 ((rd_T30 l0_4 a1).f0), .string ((rd_T30 l0_4 a1).f1), .string (⟨#[]⟩ : ByteArray), .slice none 0 0, .slice none 0 0]) ?_ 2 _ rfl; (with_reducible repeat (first | refine blk_drewN ?_ _ | refine blk_drew ?_ | refine blk_alloc ?_ _)); refine blk_put (cs := #[.int .i64 ((rd_T30 l0_4 a1).f0), .string (⟨#[]⟩ : ByteArray), .string (⟨#[]⟩ : ByteArray), .slice none 0 0, .slice none 0 0]) ?_ 1 _ rfl; (with_reducible repeat (first | refine blk_drewN ?_ _ | refine blk_drew ?_ | refine blk_alloc ?_ _)); refine blk_put (cs := #[.int .i64 0, .string (⟨#[]⟩ : ByteArray), .string (⟨#[]⟩ : ByteArray), .slice none 0 0, .slice none 0 0]) ?_ 0 _ rfl; (with_reducible repeat (first | refine blk_drewN ?_ _ | refine blk_drew ?_ | refine blk_alloc ?_ _)); exact BK227.out) Tryd.underlying30 rfl (by kernel_rfl)) rfl ?_
    exact ⟨_, _, eW, by (with_reducible repeat (first | apply Kd.V_alloc | apply Kd.V_drewN | apply Kd.V_drew)); exact Kd.V_mono (Kd.V_far (p := ⟨gb227, 4, none⟩) (Kd.V_far (p := ⟨gb227, 3, none⟩) (Kd.V_far (p := ⟨gb227, 2, none⟩) (Kd.V_far (p := ⟨gb227, 1, none⟩) (Kd.V_far (p := ⟨gb227, 0, none⟩) (Kd.V_mono HL228_3.out (fun k_ hk => (⟨hk, hk.2⟩ : _ ∧ k_ ≠ gb227))) (fun _ hk => hk.2) (.int .i64 ((rd_T30 l0_4 a1).f0))) (fun _ hk => hk.2) (.string ((rd_T30 l0_4 a1).f1))) (fun _ hk => hk.2) (.string ((rd_T30 l0_4 a1).f2))) (fun _ hk => hk.2) (.slice A228_3 ((rd_T30 l0_4 a1).f3).length c228_3)) (fun _ hk => hk.2) (.slice A228_4 ((rd_T30 l0_4 a1).f4).length c228_4)) (fun _ hk => hk.1.1.1), by (with_reducible repeat (first | apply Kd.V_alloc | apply Kd.V_drewN | apply Kd.V_drew)); exact Kd.V_mono (Kd.V_far (p := ⟨gb227, 4, none⟩) (Kd.V_far (p := ⟨gb227, 3, none⟩) (Kd.V_far (p := ⟨gb227, 2, none⟩) (Kd.V_far (p := ⟨gb227, 1, none⟩) (Kd.V_far (p := ⟨gb227, 0, none⟩) (Kd.V_mono HL228_4.out (fun k_ hk => (⟨hk, hk.2⟩ : _ ∧ k_ ≠ gb227))) (fun _ hk => hk.2) (.int .i64 ((rd_T30 l0_4 a1).f0))) (fun _ hk => hk.2) (.string ((rd_T30 l0_4 a1).f1))) (fun _ hk => hk.2) (.string ((rd_T30 l0_4 a1).f2))) (fun _ hk => hk.2) (.slice A228_3 ((rd_T30 l0_4 a1).f3).length c228_3)) (fun _ hk => hk.2) (.slice A228_4 ((rd_T30 l0_4 a1).f4).length c228_4)) (fun _ hk => hk.1.1.1), bB⟩
   ·rw [if_neg c4] at H
    exact absurd H (by simp)
  ·rw [if_neg c3] at H
   have c3b0 : decide (a1 < (l0_4.length : Int)) = false := decide_eq_false c3; clear c3; simp only [Option.some.injEq, Prod.mk.injEq] at H; obtain ⟨rfl, rfl, rfl, rfl, rfl⟩ := H
   go_enter Tryd.func50, Tryd.ntmps50
   go_wp2_with (first | ((with_reducible refine gate_dst (N := 2) rfl ?_); refine bE 2 #[.int .i64 a0_0, .string a0_1, .string a0_2, .slice A0_3 l0_3.length c0_3, .slice A0_4 l0_4.length c0_4] 30 ?_; intro gb226 w10 BK226 hg hb; replace HO0_4 := vE HO0_4 hg hb; have GW226 := bZ hg; have GE226 := bZ hg; replace HB := bH hb; clear hb hg) | ((with_reducible refine gate_dst (N := 4) rfl ?_); refine bE 4 #[.int .i64 0, .string (⟨#[]⟩ : ByteArray), .string (⟨#[]⟩ : ByteArray), .slice none 0 0, .slice none 0 0] 30 ?_; intro gb227 w11 BK227 hg hb; replace HO0_4 := vE HO0_4 hg hb; have GW227 := bZ hg; have GE227 := bZ hg; replace HB := bH hb; have NB226_227 := bN BK226 hg; have NB227_226 := bM BK226 hg; replace BK226 := bK BK226 hb; clear hb hg; have hnb12 := NB226_227.out; have hnc12 := NB227_226.out; obtain ⟨z13_0, z13_1, z13_2, z13_3, z13_4, y13_0, y13_1, y13_2, y13_3, y13_4⟩ := y5 BK226; obtain ⟨z14_0, z14_1, z14_2, z14_3, z14_4, y14_0, y14_1, y14_2, y14_3, y14_4⟩ := y5 BK227))
   refine bodyPost_ret (results_cell_row rfl _ _ gb227 30 #[.int .i64 1, .string (⟨#[]⟩ : ByteArray), .string (⟨#[]⟩ : ByteArray), .slice none 0 0, .slice none 0 0] (0, 0) _ rfl (by (with_reducible repeat (first | refine blk_drewN ?_ _ | refine blk_drew ?_ | refine blk_alloc ?_ _)); refine blk_put (cs := #[.int .i64 1, .string (⟨#[]⟩ : ByteArray), .string (⟨#[]⟩ : ByteArray), .slice none 0 0, .slice none 0 0]) ?_ 4 _ rfl; (with_reducible repeat (first | refine blk_drewN ?_ _ | refine blk_drew ?_ | refine blk_alloc ?_ _)); refine blk_put (cs := #[.int .i64 1, .string (⟨#[]⟩ : ByteArray), .string (⟨#[]⟩ : ByteArray), .slice none 0 0, .slice none 0 0]) ?_ 3 _ rfl; (with_reducible repeat (first | refine blk_drewN ?_ _ | refine blk_drew ?_ | refine blk_alloc ?_ _)); refine blk_put (cs := #[.int .i64 1, .string (⟨#[]⟩ : ByteArray), .string (⟨#[]⟩ : ByteArray), .slice none 0 0, .slice none 0 0]) ?_ 2 _ rfl; (with_reducible repeat (first | refine blk_drewN ?_ _ | refine blk_drew ?_ | refine blk_alloc ?_ _)); refine blk_put (cs := #[.int .i64 1, .string (⟨#[]⟩ : ByteArray), .string (⟨#[]⟩ : ByteArray), .slice none 0 0, .slice none 0 0]) ?_ 1 _ rfl; (with_reducible repeat (first | refine blk_drewN ?_ _ | refine blk_drew ?_ | refine blk_alloc ?_ _)); refine blk_put (cs := #[.int .i64 0, .string (⟨#[]⟩ : ByteArray), .string (⟨#[]⟩ : ByteArray), .slice none 0 0, .slice none 0 0]) ?_ 0 _ rfl; (with_reducible repeat (first | refine blk_drewN ?_ _ | refine blk_drew ?_ | refine blk_alloc ?_ _)); exact BK227.out) Tryd.underlying30 rfl (by kernel_rfl)) rfl ?_
   exact ⟨_, _, eW, d18, d18, bB⟩
end Go.Proofs.YtmlkllbaehegjaaDoor.PAll
end
section
/- Plain laws: show's text of a term is the document's. -/
namespace Go.Proofs.YtmlkllbaehegjaaDoor.PAll
open Go.RowKit
open Go.Proofs.YtmlkllbaehegjaaDoor
open Go.Proofs.YtmlkllbaehegjaaDoorW.PrintWords (rdOf)
def I64 (x : Int) : Prop := -9223372036854775808 ≤ x ∧ x ≤ 9223372036854775807
mutual
/-- All numbers are int64. -/
def OT : S53 → Prop
  | ⟨_, _, num, l⟩ => I64 num ∧ OTs l
def OTs : List S53 → Prop
  | [] => True
  | t :: r => OT t ∧ OTs r
end
theorem OT_to {t : S53} (h : OT t) : I64 t.f2 ∧ OTs t.f3 := by cases t; exact h
theorem RTs_at : ∀ {l : List S53} {i : Nat} (hi : i < l.length), RTs l → RT l[i]
  | t :: r, 0, _, h => h.1
  | t :: r, i + 1, hi, h => RTs_at (l := r) (i := i) (by simpa using hi) h.2
theorem NTs_at : ∀ {l : List S53} {i : Nat} (hi : i < l.length), NTs l → NT l[i]
  | t :: r, 0, _, h => h.1
  | t :: r, i + 1, hi, h => NTs_at (l := r) (i := i) (by simpa using hi) h.2
theorem OTs_at : ∀ {l : List S53} {i : Nat} (hi : i < l.length), OTs l → OT l[i]
  | t :: r, 0, _, h => h.1
  | t :: r, i + 1, hi, h => OTs_at (l := r) (i := i) (by simpa using hi) h.2
theorem num_ev (x : Int) (hx : I64 x) : ∃ s, digit_Text.f x = some s ∧ Ev (fun k => sequiturbase_Digits.f k x) s ∧ s.size ≤ 22 := by
  obtain ⟨h0, h1⟩ := hx
  by_cases hn : x < 0
  · obtain ⟨n, hn2, hn3⟩ : ∃ n : Nat, x = -(n : Int) ∧ 1 ≤ n := ⟨x.natAbs, by omega, by omega⟩
    have hl := Lib.itoa_length_le x h0 h1
    rw [hn2, Lib.itoa_neg n hn3] at hl
    refine ⟨(⟨#[45]⟩ : ByteArray) ++ numB n, ?_, ?_, ?_⟩
    · unfold digit_Text.f
      rw [if_pos ⟨h0, h1⟩, hn2, Lib.itoa_neg n hn3]
      congr 1
    · simp only [sequiturbase_Digits.f]
      refine Ev.pos hn ?_
      have e1 : wrap64 (x + 1) = x + 1 := IntWalk.wrap64_in _ (by omega)
      have e2 : wrap64 (-(x + 1)) = -(x + 1) := IntWalk.wrap64_in _ (by omega)
      rw [e1, e2, wrapU_in (x := -(x + 1)) (by omega) (by omega), wrapU_in (x := -(x + 1) + 1) (by omega) (by omega), show -(x + 1) + 1 = (n : Int) by omega]
      refine Ev.bind (digits_ev n (by omega)) (Ev.pos ?_ (Ev.const _))
      have : (numB n).size = (Lib.decDigits n).length := by simp [numB, ByteArray.size]
      simp at hl
      omega
    · have e : (numB n).size = (Lib.decDigits n).length := by simp [numB, ByteArray.size]
      have e1 : (⟨#[45]⟩ : ByteArray).size = 1 := rfl
      simp at hl
      rw [ByteArray.size_append]
      omega
  · obtain ⟨n, rfl⟩ : ∃ n : Nat, x = (n : Int) := ⟨x.toNat, by omega⟩
    exact ⟨numB n, text_eq n (by omega), Digits_ev n (by omega), by have := numB_size n (by omega); omega⟩
def par (s : ByteArray) : ByteArray := ((⟨#[40]⟩ : ByteArray) ++ s) ++ (⟨#[41]⟩ : ByteArray)
theorem par_size (s : ByteArray) : (par s).size = s.size + 2 := by
  have e1 : (⟨#[40]⟩ : ByteArray).size = 1 := rfl
  have e2 : (⟨#[41]⟩ : ByteArray).size = 1 := rfl
  simp only [par, ByteArray.size_append]
  omega
theorem side_j0 (s : ByteArray) (h : s.size ≤ 1000000000) (b : Bool) : Ev (fun k => show_side.j0 k s b) (if b = true then par s else s) := by
  have e1 : (⟨#[40]⟩ : ByteArray).size = 1 := rfl
  refine Ev.step ?_
  simp only [show_side.j0]
  cases b with
  | true => exact Ev.pos rfl (Ev.pos (by omega) (Ev.pos (by rw [ByteArray.size_append]; omega) (Ev.const _)))
  | false => exact Ev.neg (by simp) (Ev.const _)
/-- A side, out of the text. -/
def sideOf (t : S53) (s : ByteArray) (b : Bool) : ByteArray := if b = true ∨ (t.f0 = 4 ∧ t.f2 < 0) then par s else s
theorem sideOf_size (t : S53) (s : ByteArray) (b : Bool) : (sideOf t s b).size ≤ s.size + 2 := by
  unfold sideOf
  split
  · rw [par_size]; omega
  · omega
theorem side_show (t : S53) (names : List ByteArray) (s : ByteArray) (b : Bool) (h : Ev (fun k => show_text.f k t.f0 t.f1 t.f2 t.f3 names) s) (hs : s.size ≤ 1000000000) : Ev (fun k => show_side.f k t.f0 t.f1 t.f2 t.f3 names b) (sideOf t s b) := by
  refine Ev.step ?_
  simp only [show_side.f]
  refine Ev.bind h ?_
  unfold sideOf
  by_cases hb : b = true
  · refine Ev.pos hb ((side_j0 s hs true).eq ?_)
    rw [if_pos rfl, if_pos (.inl hb)]
  · refine Ev.neg hb ?_
    by_cases h4 : t.f0 = 4
    · refine Ev.pos h4 ((side_j0 s hs _).eq ?_)
      by_cases h0 : t.f2 < 0
      · rw [if_pos (decide_eq_true h0), if_pos (.inr ⟨h4, h0⟩)]
      · rw [if_neg (by simp [h0]), if_neg (by rintro (e | e); exact hb e; exact h0 e.2)]
    · refine Ev.neg h4 ((side_j0 s hs false).eq ?_)
      rw [if_neg (by simp), if_neg (by rintro (e | e); exact hb e; exact h4 e.1)]
theorem joinL_snoc (xs : List (List UInt8)) (x sep : List UInt8) : Lib.join (xs ++ [x]) sep = if xs = [] then x else Lib.join xs sep ++ sep ++ x := by
  cases xs with
  | nil => simp [Lib.join_one]
  | cons y r => simp [Lib.join_cons, Lib.joinTail]
def joinT (l : List ByteArray) : ByteArray := ⟨(Lib.join (l.map (·.data.toList)) [44, 32]).toArray⟩
theorem joinT_snoc (l : List ByteArray) (s : ByteArray) : joinT (l ++ [s]) = if l = [] then s else (joinT l ++ ⟨#[44, 32]⟩) ++ s := by
  apply bytes_inj
  unfold joinT
  rw [List.map_append, List.map_cons, List.map_nil, joinL_snoc]
  by_cases h : l = []
  · simp [h]
  · simp [h, ByteArray.data_append]
theorem wTs_take {l : List S53} {i : Nat} (hi : i < l.length) : wTs (l.take (i + 1)) = wTs (l.take i) + wT l[i] := by
  rw [List.take_succ_eq_append_getElem hi]
  have : ∀ (a b : List S53), wTs (a ++ b) = wTs a + wTs b := by
    intro a b
    induction a with
    | nil => simp [wTs]
    | cons x r ih => simp only [List.cons_append, wTs, ih]; omega
  rw [this]
  simp [wTs]
theorem wTs_take_le : ∀ (l : List S53) (i : Nat), wTs (l.take i) ≤ wTs l
  | [], i => by simp [wTs]
  | t :: r, 0 => by simp [wTs]
  | t :: r, i + 1 => by
    have := wTs_take_le r i
    simp only [List.take_succ_cons, wTs]
    omega
/-- The first i texts. -/
def pre (S : Nat → ByteArray) (i : Nat) : List ByteArray := (List.range i).map S
theorem pre_succ (S : Nat → ByteArray) (i : Nat) : pre S (i + 1) = pre S i ++ [S i] := by simp [pre, List.range_succ]
theorem pre_len (S : Nat → ByteArray) (i : Nat) : (pre S i).length = i := by simp [pre]
theorem join_pre (S : Nat → ByteArray) (i : Nat) : joinT (pre S (i + 1)) = if i = 0 then S i else (joinT (pre S i) ++ ⟨#[44, 32]⟩) ++ S i := by
  rw [pre_succ, joinT_snoc]
  by_cases h : i = 0
  · rw [if_pos h, if_pos (by subst h; rfl)]
  · rw [if_neg h, if_neg (by intro e; have := congrArg List.length e; rw [pre_len] at this; exact h this)]
theorem join_pre_size (S : Nat → ByteArray) (l : List S53) (hS : ∀ i (hi : i < l.length), (S i).size + 100 ≤ 300 * wT l[i]) : ∀ i, i ≤ l.length → (joinT (pre S i)).size ≤ 300 * wTs (l.take i)
  | 0, _ => Nat.zero_le _
  | i + 1, h => by
    have hi : i < l.length := by omega
    have h1 := join_pre_size S l hS i (by omega)
    have h2 := hS i hi
    rw [join_pre, wTs_take hi]
    have e1 : (⟨#[44, 32]⟩ : ByteArray).size = 2 := rfl
    split
    · omega
    · simp only [ByteArray.size_append]
      omega
theorem joinT_eq (l : List ByteArray) (hn : l.length ≤ 1000000000) (hs : (joinT l).size ≤ 1000000000) : strings_Join.f l (⟨#[44, 32]⟩ : ByteArray) = some (joinT l) := by
  unfold strings_Join.f
  have e : (Lib.join (l.map (·.data.toList)) (⟨#[44, 32]⟩ : ByteArray).data.toList).length = (joinT l).size := by
    show _ = (Lib.join (l.map (·.data.toList)) [44, 32]).toArray.size
    rw [List.size_toArray]
  rw [if_pos (by rw [e]; omega)]
  rfl
/-- A name with terms in brackets. -/
def appOf (name : ByteArray) (S : Nat → ByteArray) (n : Nat) : ByteArray := if n = 0 then name else name ++ par (joinT (pre S n))
theorem app_show (name : ByteArray) (l : List S53) (names : List ByteArray) (S : Nat → ByteArray) (hl : l.length ≤ 100000) (hname : name.size ≤ 1000) (hJ : (joinT (pre S l.length)).size ≤ 100000000)
    (hS : ∀ i (hi : i < l.length), Ev (fun k => show_text.f k l[i].f0 l[i].f1 l[i].f2 l[i].f3 names) (S i)) : Ev (fun k => show_apply.f k name l names) (appOf name S l.length) := by
  have loop : ∀ (j i : Nat), i + j = l.length → 0 < l.length → Ev (fun k => show_apply.l0 k name names (pre S i) l (l.length : Int) (i : Int)) (appOf name S l.length) := by
    intro j
    induction j with
    | zero =>
      intro i hi h0
      obtain rfl : i = l.length := by omega
      refine Ev.step ?_
      simp only [show_apply.l0]
      have e1 : (⟨#[40]⟩ : ByteArray).size = 1 := rfl
      refine Ev.neg (by omega) (Ev.pos (by omega) (Ev.bind (Ev.of_eq (joinT_eq _ (by rw [pre_len]; omega) (by omega))) ?_))
      refine Ev.pos (by simp only [ByteArray.size_append]; omega) (Ev.pos (by simp only [ByteArray.size_append]; omega) ((Ev.const _).eq ?_))
      unfold appOf par
      rw [if_neg (by omega)]
      apply bytes_inj
      simp [ByteArray.data_append]
    | succ j ih =>
      intro i hi h0
      have hlt : i < l.length := by omega
      refine Ev.step ?_
      simp only [show_apply.l0]
      refine Ev.pos (by omega) (Ev.pos (by omega) (Ev.pos (by omega) ?_))
      rw [rdT hlt, wrapN (x := (i : Int) + 1) (n := i + 1) (by omega) (by omega)]
      refine Ev.bind (hS i hlt) (Ev.pos (by rw [pre_len]; omega) ?_)
      have := ih (i + 1) (by omega) h0
      rw [pre_succ] at this
      exact this
  refine Ev.step ?_
  simp only [show_apply.f]
  by_cases h0 : l.length = 0
  · refine Ev.pos (by omega) ((Ev.const _).eq ?_)
    unfold appOf
    rw [if_pos h0]
  · refine Ev.neg (by omega) ?_
    exact loop l.length 0 (by omega) (by omega)
theorem arg_at (a0 : Int) (a1 : ByteArray) (a2 : Int) (l : List S53) {i : Nat} (hi : i < l.length) : show_arg.f a0 a1 a2 l (i : Int) = some (l[i].f0, l[i].f1, l[i].f2, l[i].f3) := by
  unfold show_arg.f
  rw [if_pos (by omega), if_pos (by omega), rdT hi]
theorem arg_any (a0 : Int) (a1 : ByteArray) (a2 : Int) (l : List S53) : ∃ b, show_arg.f a0 a1 a2 l 0 = some b := by
  unfold show_arg.f
  by_cases h : (0 : Int) < (l.length : Int)
  · rw [if_pos h, if_pos (by omega)]
    exact ⟨_, rfl⟩
  · rw [if_neg h]
    exact ⟨_, rfl⟩
def sumB (t : S53) : Bool := decide (t.f0 = 5 ∨ t.f0 = 6)
theorem sum_show (t : S53) : show_sum.f t.f0 t.f1 t.f2 t.f3 = some (sumB t) := by
  unfold show_sum.f sumB
  by_cases h : t.f0 = 5
  · rw [if_pos h]; simp [h]
  · rw [if_neg h]
    by_cases h6 : t.f0 = 6
    · simp [h6]
    · simp [h, h6]
end Go.Proofs.YtmlkllbaehegjaaDoor.PAll
end
section
namespace Go.Proofs.YtmlkllbaehegjaaDoor.PAll
open Go.RowKit Go.Proofs.YtmlkllbaehegjaaDoorW.PrintWords Go.Proofs.YtmlkllbaehegjaaDoorW.PrintLast Go.Proofs.YtmlkllbaehegjaaDoorW.PrintMore
attribute [local go_sem] max2_int min2_int max_two min_two max_three min_three max_four min_four
set_option linter.unusedVariables false
set_option linter.unusedSimpArgs false
/-- A state of type 62 at block g of W; what its slices lead to came in by w0. -/
def IsS62 (w0 W : World) (g : Nat) (f0 : List ByteArray) : Prop := ∃ A0 c0, W.heap[g]? = some (.cells #[.slice A0 f0.length c0] 62 (0, 0)) ∧ True ∧ Kd.C Kd.string w0 A0 f0.length f0
theorem IsS62.grown {w0 W : World} {g : Nat} {f0 : List ByteArray} {W1 : World} {row : Option Nat} (h : IsS62 w0 W g f0) (hw : W.grownBy W1 row) (hne : some g ≠ row) : IsS62 w0 W1 g f0 := by
  obtain ⟨A0, c0, hb, hg, hr0⟩ := h; exact ⟨A0, c0, blk_grown hb hw hne, hg, hr0⟩
theorem IsS62.fresh {w0 W : World} {g : Nat} {f0 : List ByteArray} (h : IsS62 w0 W g f0) : ∀ k, W.heap.size ≤ k → k ≠ g := by
  obtain ⟨A0, c0, hb, hg, hr0⟩ := h; exact Kd.freshB hb
theorem IsS62.kept {w0 W : World} {g : Nat} {f0 : List ByteArray} {W1 : World} {S : Nat → Prop} (h : IsS62 w0 W g f0) (hk : Kept W W1 S) (hne : ¬ S g) : IsS62 w0 W1 g f0 := by
  obtain ⟨A0, c0, hb, hg, hr0⟩ := h; exact ⟨A0, c0, blk_kept hb hk hne, hg, hr0⟩
theorem IsS62.below {w0 W : World} {g : Nat} {f0 : List ByteArray} {W1 : World} (h : IsS62 w0 W g f0) (hw : Below W.heap.size W W1) : IsS62 w0 W1 g f0 := h.grown (grown_of_below hw none) (by simp)
theorem IsS62.alloc {w0 W : World} {g : Nat} {f0 : List ByteArray} (h : IsS62 w0 W g f0) (o : Obj) : IsS62 w0 (W.alloc o) g f0 := h.below (below_alloc (Below.refl _ _) o)
theorem IsS62.drewN {w0 W : World} {g : Nat} {f0 : List ByteArray} (h : IsS62 w0 W g f0) (m : Nat) : IsS62 w0 (W.drewN m) g f0 := h
theorem IsS62.drew {w0 W : World} {g : Nat} {f0 : List ByteArray} (h : IsS62 w0 W g f0) : IsS62 w0 W.drew g f0 := h
theorem IsS62.at_ {w0 W : World} {g : Nat} {f0 : List ByteArray} {w' : World} {m : Nat} (hq : W.drewN m = w') (h : IsS62 w0 W g f0) : IsS62 w0 w' g f0 := by subst hq; exact IsS62.drewN h m
theorem IsS62.apart {w0 W : World} {g : Nat} {f0 : List ByteArray} {α : Type} {d : Kd α} {e : Nat} {base : Nat} {ok : Nat → Prop} {v : Value} {xs : List α} (h : IsS62 w0 W g f0) (ho : d.R e W base ok v xs) (ht : ∀ q, q ∈ e :: d.E → q ≠ 62) : d.R e W base (fun k => ok k ∧ k ≠ g) v xs := by
  obtain ⟨A0, c0, hb, hg, hr0⟩ := h; exact Kd.R_types ho hb ht
theorem IsS62.own_ne {w0 W : World} {g : Nat} {f0 : List ByteArray} {α : Type} {d : Kd α} {e : Nat} {base : Nat} {ok : Nat → Prop} {v : Value} {xs : List α} (h : IsS62 w0 W g f0) (ho : d.R e W base ok v xs) (ht : e ≠ 62) : some g ≠ v.ownBlock := by
  obtain ⟨A0, c0, hb, hg, hr0⟩ := h; exact Kd.R_ne ho hb ht
theorem IsS62.lt {w0 W : World} {g : Nat} {f0 : List ByteArray} (h : IsS62 w0 W g f0) : g < W.heap.size := by
  obtain ⟨A0, c0, hb, hg, hr0⟩ := h; exact blk_lt hb
theorem IsS62.far {w0 W : World} {g : Nat} {f0 : List ByteArray} {p : Addr} (h : IsS62 w0 W g f0) (hne : g ≠ p.block) (u : Value) : IsS62 w0 (W.setCell p u) g f0 := by
  obtain ⟨A0, c0, hb, hg, hr0⟩ := h; exact ⟨A0, c0, blk_far hb hne u, hg, hr0⟩
end Go.Proofs.YtmlkllbaehegjaaDoor.PAll
end
