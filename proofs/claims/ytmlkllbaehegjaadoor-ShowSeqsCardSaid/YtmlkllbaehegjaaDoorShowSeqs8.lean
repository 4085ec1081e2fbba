import Derived.Test.YtmlkllbaehegjaaDoorShowSeqs2
import Derived.Test.YtmlkllbaehegjaaDoorShowSeqs6
import Derived.Test.YtmlkllbaehegjaaDoorShowSeqs7
import Derived.Test.YtmlkllbaehegjaaDoorShowSeqs3
section
namespace Go.Proofs.YtmlkllbaehegjaaDoor.PAll
open Go.RowKit Go.Proofs.YtmlkllbaehegjaaDoorW.PrintWords Go.Proofs.YtmlkllbaehegjaaDoorW.PrintLast Go.Proofs.YtmlkllbaehegjaaDoorW.PrintMore
attribute [local go_sem] max2_int min2_int max_two min_two max_three min_three max_four min_four
set_option linter.unusedVariables false
set_option linter.unusedSimpArgs false
set_option maxHeartbeats 8000000 in
set_option maxRecDepth 100000 in
theorem show_side.step (k : Nat) (ih_show_text : ∀ j_, j_ < k → ∀ (a0_0 : Int) (a0_1 : ByteArray) (a0_2 : Int) (A0_3 : Option Addr) (c0_3 : Nat) (l0_3 : List (S53)) (A1 : Option Addr) (c1 : Nat) (l1 : List ByteArray) (r : ByteArray) (w : World) (hG : Laid w) (hr0_3 : Kd.C k53 w A0_3 l0_3.length l0_3) (hc0_3 : l0_3.length ≤ c0_3) (hr1 : Kd.C Kd.string w A1 l1.length l1) (hc1 : l1.length ≤ c1) (h : show_text.f j_ a0_0 a0_1 a0_2 l0_3 l1 = some r),
    Calls Tryd.prog 38 #[.agg #[.int .i64 a0_0, .string a0_1, .int .i64 a0_2, .slice A0_3 l0_3.length c0_3], .slice A1 l1.length c1] w fun e w' => e = .returned (.string r) ∧ Below w.heap.size w w') (ih_show_apply : ∀ j_, j_ < k → ∀ (a0 : ByteArray) (A1 : Option Addr) (c1 : Nat) (l1 : List (S53)) (A2 : Option Addr) (c2 : Nat) (l2 : List ByteArray) (r : ByteArray) (w : World) (hG : Laid w) (hr1 : Kd.C k53 w A1 l1.length l1) (hc1 : l1.length ≤ c1) (hr2 : Kd.C Kd.string w A2 l2.length l2) (hc2 : l2.length ≤ c2) (h : show_apply.f j_ a0 l1 l2 = some r),
    Calls Tryd.prog 52 #[.string a0, .slice A1 l1.length c1, .slice A2 l2.length c2] w fun e w' => e = .returned (.string r) ∧ Below w.heap.size w w') (ih : ∀ j_, j_ < k → ∀ (a0_0 : Int) (a0_1 : ByteArray) (a0_2 : Int) (A0_3 : Option Addr) (c0_3 : Nat) (l0_3 : List (S53)) (A1 : Option Addr) (c1 : Nat) (l1 : List ByteArray) (a2 : Bool) (r : ByteArray) (w : World) (hG : Laid w) (hr0_3 : Kd.C k53 w A0_3 l0_3.length l0_3) (hc0_3 : l0_3.length ≤ c0_3) (hr1 : Kd.C Kd.string w A1 l1.length l1) (hc1 : l1.length ≤ c1) (h : show_side.f j_ a0_0 a0_1 a0_2 l0_3 l1 a2 = some r),
    Calls Tryd.prog 58 #[.agg #[.int .i64 a0_0, .string a0_1, .int .i64 a0_2, .slice A0_3 l0_3.length c0_3], .slice A1 l1.length c1, .bool a2] w fun e w' => e = .returned (.string r) ∧ Below w.heap.size w w') : ∀ (a0_0 : Int) (a0_1 : ByteArray) (a0_2 : Int) (A0_3 : Option Addr) (c0_3 : Nat) (l0_3 : List (S53)) (A1 : Option Addr) (c1 : Nat) (l1 : List ByteArray) (a2 : Bool) (r : ByteArray) (w : World) (hG : Laid w) (hr0_3 : Kd.C k53 w A0_3 l0_3.length l0_3) (hc0_3 : l0_3.length ≤ c0_3) (hr1 : Kd.C Kd.string w A1 l1.length l1) (hc1 : l1.length ≤ c1) (h : show_side.f k a0_0 a0_1 a0_2 l0_3 l1 a2 = some r),
    Calls Tryd.prog 58 #[.agg #[.int .i64 a0_0, .string a0_1, .int .i64 a0_2, .slice A0_3 l0_3.length c0_3], .slice A1 l1.length c1, .bool a2] w fun e w' => e = .returned (.string r) ∧ Below w.heap.size w w' := by
  intro a0_0 a0_1 a0_2 A0_3 c0_3 l0_3 A1 c1 l1 a2 r w hG hr0_3 hc0_3 hr1 hc1 h
  cases k with
  | zero => exact absurd h (by simp [show_side.f])
  | succ k =>
  simp only [show_side.f] at h; have hu53 := Tryd.underlying53; have HR0_3 := am hr0_3; have HC0_3 := am hc0_3; clear hr0_3 hc0_3; have HR1 := am hr1; have HC1 := am hc1; clear hr1 hc1; have HG := am hG; clear hG; have HB := am (Below.refl w.heap.size w); have H := h; clear h; obtain ⟨t222, A4, H⟩ := bO H; have HC5 := am H; clear H
  go_enter Tryd.func58, Tryd.ntmps58
  go_upto_region 2 with (first | ((with_reducible refine gate_dst (N := 3) rfl ?_); refine bE 3 #[.int .i64 a0_0, .string a0_1, .int .i64 a0_2, .slice A0_3 l0_3.length c0_3] 53 ?_; intro gb221 w6 BK221 hg hb; have GW221 := bZ hg; have GE221 := bZ hg; replace HB := bH hb; clear hb hg; obtain ⟨z7_0, z7_1, z7_2, z7_3, y7_0, y7_1, y7_2, y7_3⟩ := y4 BK221) | ((with_reducible refine gate_callee (f := 38) rfl ?_); refine gL 10 Tryd.func38 #[.agg #[.int .i64 a0_0, .string a0_1, .int .i64 a0_2, .slice A0_3 l0_3.length c0_3], .slice A1 l1.length c1] ?_; (with_reducible refine (ih_show_text k (by omega) a0_0 a0_1 a0_2 _ _ l0_3 _ _ l1 t222 _ ?side1 ?side2 HC0_3.out ?side4 HC1.out A4.out).mono ?_); (case side1 => exact Laid.below HG.out bB); (case side2 => exact cB HR0_3); (case side4 => exact cB HR1); rintro e w8 ⟨rfl, hb⟩; refine ⟨_, rfl, ?_⟩; replace BK221 := bK BK221 hb; replace HB := bH hb; clear hb))
  (try simp only [Act.put, List.setIfInBounds_toArray, List.set_cons_zero, List.set_cons_succ])
  go_cut [21] (fun v21 wc => ∃ (kq : Nat) (x21_4 : Bool), v21 = .bool x21_4 ∧ Aside0 (show_side.j0 kq t222 x21_4 = some r) ∧ Aside0 (kq ≤ k) ∧ Aside0 (wc.heap[gb221]? = some (.cells #[.int .i64 a0_0, .string a0_1, .int .i64 a0_2, (.slice A0_3 l0_3.length c0_3)] 53 (0, 0))) ∧ Aside0 (Below w.heap.size w wc))
  case first =>
   have H := HC5.out; clear HC5
   by_cases c9 : a2 = true
   ·subst c9
    rw [if_pos rfl] at H; have H' := am H; clear H; go_wp2; go_meet
    case rel => exact ⟨_, (true), eS, H', ⟨eO⟩, ⟨bD BK221⟩, ⟨bB⟩⟩
   ·replace c9 := Bool.eq_false_iff.mpr c9
    subst c9; rw [if_neg (show ¬ (false = true) by decide)] at H
    by_cases c10 : a0_0 = 4
    ·rw [if_pos c10] at H
     have c10b0 := beq_iff_eq.mpr c10; have c10b1 := bne_eq_false_iff_eq.mpr c10; clear c10; (first | rw [c10b0] | (simp only [i64_w, i32_w]; rw [c10b0]) | skip); have H' := am H; clear H; obtain ⟨z11_0, z11_1, z11_2, z11_3, y11_0, y11_1, y11_2, y11_3⟩ := y4 BK221; go_wp2; go_meet
     case rel => exact ⟨_, (decide (a0_2 < 0)), eS, H', ⟨eO⟩, ⟨bD BK221⟩, ⟨bB⟩⟩
    ·rw [if_neg c10] at H
     have c10b0 := beq_eq_false_iff_ne.mpr c10; have c10b1 := bne_iff_ne.mpr c10; (first | rw [c10b0] | (simp only [i64_w, i32_w]; rw [c10b0]) | skip); have H' := am H; clear H; obtain ⟨z12_0, z12_1, z12_2, z12_3, y12_0, y12_1, y12_2, y12_3⟩ := y4 BK221; go_wp2; go_meet
     case rel => exact ⟨_, (false), eS, H', ⟨eO⟩, ⟨bD BK221⟩, ⟨bB⟩⟩
  case rest =>
   clear HC5; (try clear c1); (try clear p2); (try clear c3); (try clear c5); (try clear c9); (try clear c10); (try clear c10b0); (try clear c10b1); (try clear z11_0 z11_1 z11_2 z11_3); (try clear z12_0 z12_1 z12_2 z12_3); (try clear z7_0 z7_1 z7_2 z7_3); (try clear y11_0 y11_1 y11_2 y11_3); (try clear y12_0 y12_1 y12_2 y12_3); (try clear y7_0 y7_1 y7_2 y7_3); obtain ⟨kq, x21_4, rfl, HA, HJ4, BK221, HB⟩ := hcut
   cases kq with
   | zero => exact absurd HA.out (by simp [show_side.j0])
   | succ kj4 =>
    have H := HA.out; clear HA; simp only [show_side.j0] at H
    by_cases c13 : x21_4 = true
    ·subst c13
     rw [if_pos rfl] at H
     by_cases c14 : 1 + t222.size ≤ 9223372036854775807
     ·rw [if_pos c14] at H
      have c14b0 := eq_true c14; have c14b1 := decide_eq_true c14
      try have c14b2 := eq_false (Nat.not_lt.2 c14)
      by_cases c15 : ((⟨#[40]⟩ : ByteArray) ++ t222).size + 1 ≤ 9223372036854775807
      ·rw [if_pos c15] at H
       have c15b0 := eq_true c15; have c15b1 := decide_eq_true c15; have c15n : 1 + t222.size + 1 ≤ 9223372036854775807 := by have h_ := c15; simp only [ByteArray.size_append] at h_; have z0_ : (⟨#[40]⟩ : ByteArray).size = 1 := rfl; first | exact h_ | omega
       have c15b3 := eq_true c15n; have c15b4 : (9223372036854775807 < 1 + t222.size + 1) = False := eq_false (Nat.not_lt.2 c15n)
       try have c15b2 := eq_false (Nat.not_lt.2 c15)
       obtain rfl := Option.some.inj H; go_wp2; go_ret; exact ⟨eW, bB⟩
      ·rw [if_neg c15] at H
       exact absurd H (by simp)
     ·rw [if_neg c14] at H
      exact absurd H (by simp)
    ·replace c13 := Bool.eq_false_iff.mpr c13
     subst c13; rw [if_neg (show ¬ (false = true) by decide)] at H; obtain rfl := Option.some.inj H; go_wp2; go_ret; exact ⟨eW, bB⟩
def show_text.Spec (k : Nat) : Prop := ∀ (a0_0 : Int) (a0_1 : ByteArray) (a0_2 : Int) (A0_3 : Option Addr) (c0_3 : Nat) (l0_3 : List (S53)) (A1 : Option Addr) (c1 : Nat) (l1 : List ByteArray) (r : ByteArray) (w : World) (hG : Laid w) (hr0_3 : Kd.C k53 w A0_3 l0_3.length l0_3) (hc0_3 : l0_3.length ≤ c0_3) (hr1 : Kd.C Kd.string w A1 l1.length l1) (hc1 : l1.length ≤ c1) (h : show_text.f k a0_0 a0_1 a0_2 l0_3 l1 = some r),
    Calls Tryd.prog 38 #[.agg #[.int .i64 a0_0, .string a0_1, .int .i64 a0_2, .slice A0_3 l0_3.length c0_3], .slice A1 l1.length c1] w fun e w' => e = .returned (.string r) ∧ Below w.heap.size w w'
def show_apply.Spec (k : Nat) : Prop := ∀ (a0 : ByteArray) (A1 : Option Addr) (c1 : Nat) (l1 : List (S53)) (A2 : Option Addr) (c2 : Nat) (l2 : List ByteArray) (r : ByteArray) (w : World) (hG : Laid w) (hr1 : Kd.C k53 w A1 l1.length l1) (hc1 : l1.length ≤ c1) (hr2 : Kd.C Kd.string w A2 l2.length l2) (hc2 : l2.length ≤ c2) (h : show_apply.f k a0 l1 l2 = some r),
    Calls Tryd.prog 52 #[.string a0, .slice A1 l1.length c1, .slice A2 l2.length c2] w fun e w' => e = .returned (.string r) ∧ Below w.heap.size w w'
def show_side.Spec (k : Nat) : Prop := ∀ (a0_0 : Int) (a0_1 : ByteArray) (a0_2 : Int) (A0_3 : Option Addr) (c0_3 : Nat) (l0_3 : List (S53)) (A1 : Option Addr) (c1 : Nat) (l1 : List ByteArray) (a2 : Bool) (r : ByteArray) (w : World) (hG : Laid w) (hr0_3 : Kd.C k53 w A0_3 l0_3.length l0_3) (hc0_3 : l0_3.length ≤ c0_3) (hr1 : Kd.C Kd.string w A1 l1.length l1) (hc1 : l1.length ≤ c1) (h : show_side.f k a0_0 a0_1 a0_2 l0_3 l1 a2 = some r),
    Calls Tryd.prog 58 #[.agg #[.int .i64 a0_0, .string a0_1, .int .i64 a0_2, .slice A0_3 l0_3.length c0_3], .slice A1 l1.length c1, .bool a2] w fun e w' => e = .returned (.string r) ∧ Below w.heap.size w w'
theorem show_text.all (k : Nat) : show_text.Spec k ∧ show_apply.Spec k ∧ show_side.Spec k := by
  induction k using Nat.strongRecOn with
  | _ k ih => exact ⟨show_text.step k (fun j_ hj_ => (ih j_ hj_).1) (fun j_ hj_ => (ih j_ hj_).2.1) (fun j_ hj_ => (ih j_ hj_).2.2), show_apply.step k (fun j_ hj_ => (ih j_ hj_).1) (fun j_ hj_ => (ih j_ hj_).2.1) (fun j_ hj_ => (ih j_ hj_).2.2), show_side.step k (fun j_ hj_ => (ih j_ hj_).1) (fun j_ hj_ => (ih j_ hj_).2.1) (fun j_ hj_ => (ih j_ hj_).2.2)⟩
theorem show_text.calls (k : Nat) : ∀ (a0_0 : Int) (a0_1 : ByteArray) (a0_2 : Int) (A0_3 : Option Addr) (c0_3 : Nat) (l0_3 : List (S53)) (A1 : Option Addr) (c1 : Nat) (l1 : List ByteArray) (r : ByteArray) (w : World) (hG : Laid w) (hr0_3 : Kd.C k53 w A0_3 l0_3.length l0_3) (hc0_3 : l0_3.length ≤ c0_3) (hr1 : Kd.C Kd.string w A1 l1.length l1) (hc1 : l1.length ≤ c1) (h : show_text.f k a0_0 a0_1 a0_2 l0_3 l1 = some r),
    Calls Tryd.prog 38 #[.agg #[.int .i64 a0_0, .string a0_1, .int .i64 a0_2, .slice A0_3 l0_3.length c0_3], .slice A1 l1.length c1] w fun e w' => e = .returned (.string r) ∧ Below w.heap.size w w' :=
  (show_text.all k).1
theorem show_apply.calls (k : Nat) : ∀ (a0 : ByteArray) (A1 : Option Addr) (c1 : Nat) (l1 : List (S53)) (A2 : Option Addr) (c2 : Nat) (l2 : List ByteArray) (r : ByteArray) (w : World) (hG : Laid w) (hr1 : Kd.C k53 w A1 l1.length l1) (hc1 : l1.length ≤ c1) (hr2 : Kd.C Kd.string w A2 l2.length l2) (hc2 : l2.length ≤ c2) (h : show_apply.f k a0 l1 l2 = some r),
    Calls Tryd.prog 52 #[.string a0, .slice A1 l1.length c1, .slice A2 l2.length c2] w fun e w' => e = .returned (.string r) ∧ Below w.heap.size w w' :=
  (show_text.all k).2.1
/-! ### show_termOf: function 49 -/
def show_termOf.f (a0_0 : Int) (a0_1 : ByteArray) (a0_2 : ByteArray) (l0_3 : List (S53)) (l0_4 : List (S30)) (a1 : Int) : Option (Int × ByteArray × Int × (List (S53))) := if a1 < (l0_3.length : Int) then (if 0 ≤ a1 then (some ((rd_T53 l0_3 a1).f0, (rd_T53 l0_3 a1).f1, (rd_T53 l0_3 a1).f2, (rd_T53 l0_3 a1).f3)) else (none)) else (some (0, (⟨#[]⟩ : ByteArray), 0, ([] : List (S53))))
set_option maxHeartbeats 8000000 in
set_option maxRecDepth 100000 in
theorem show_termOf.calls (a0_0 : Int) (a0_1 : ByteArray) (a0_2 : ByteArray) (P0_3_ : Nat → Prop) (A0_3 : Option Addr) (c0_3 : Nat) (l0_3 : List (S53)) (A0_4 : Option Addr) (c0_4 : Nat) (l0_4 : List (S30)) (a1 : Int) (r1 : Int) (r2 : ByteArray) (r3 : Int) (r4 : List (S53)) (w : World) (hs0_3 : Kd.V k53 53 w w.heap.size (fun k_ => P0_3_ k_) (.slice A0_3 l0_3.length c0_3) l0_3) (hr0_4 : Kd.C k30 w A0_4 l0_4.length l0_4) (hc0_4 : l0_4.length ≤ c0_4) (h : show_termOf.f a0_0 a0_1 a0_2 l0_3 l0_4 a1 = some (r1, r2, r3, r4)) :
    Calls Tryd.prog 49 #[.agg #[.int .i64 a0_0, .string a0_1, .string a0_2, .slice A0_3 l0_3.length c0_3, .slice A0_4 l0_4.length c0_4], .int .i64 a1] w fun e w' => ∃ v3_ : Value, e = .returned (.agg #[.int .i64 r1, .string r2, .int .i64 r3, v3_]) ∧ Kd.V k53 53 w' w.heap.size (fun k_ => (P0_3_ k_ ∨ w.heap.size ≤ k_)) v3_ r4 ∧ Below w.heap.size w w' := by
  have hu30 := Tryd.underlying30; have hu53 := Tryd.underlying53; have HO0_3 := am (show Kd.V k53 53 w w.heap.size (fun k_ => (P0_3_ k_ ∨ w.heap.size ≤ k_)) (.slice A0_3 l0_3.length c0_3) l0_3 from Kd.V_mono hs0_3 (fun k_ hk => .inl hk)); have HR0_4 := am hr0_4; have HC0_4 := am hc0_4; clear hr0_4 hc0_4; have HB := am (Below.refl w.heap.size w); have H := h; unfold show_termOf.f at H; clear h
  by_cases c3 : a1 < (l0_3.length : Int)
  ·rw [if_pos c3] at H
   have c3b0 : decide (a1 < (l0_3.length : Int)) = true := decide_eq_true c3; clear c3
   by_cases c4 : 0 ≤ a1
   ·rw [if_pos c4] at H
    have c4b0 : decide (0 ≤ a1) = true := decide_eq_true c4; clear c4; simp only [Option.some.injEq, Prod.mk.injEq] at H; obtain ⟨rfl, rfl, rfl, rfl⟩ := H
    go_enter Tryd.func49, Tryd.ntmps49
    go_wp2_with (first | ((with_reducible refine gate_dst (N := 2) rfl ?_); refine bE 2 #[.int .i64 a0_0, .string a0_1, .string a0_2, .slice A0_3 l0_3.length c0_3, .slice A0_4 l0_4.length c0_4] 30 ?_; intro gb223 w5 BK223 hg hb; replace HO0_3 := vE HO0_3 hg hb; have GW223 := bZ hg; have GE223 := bZ hg; replace HB := bH hb; clear hb hg) | ((with_reducible refine gate_dst (N := 4) rfl ?_); refine bE 4 #[.int .i64 0, .string (⟨#[]⟩ : ByteArray), .int .i64 0, .slice none 0 0] 53 ?_; intro gb224 w6 BK224 hg hb; replace HO0_3 := vE HO0_3 hg hb; have GW224 := bZ hg; have GE224 := bZ hg; replace HB := bH hb; have NB223_224 := bN BK223 hg; have NB224_223 := bM BK223 hg; replace BK223 := bK BK223 hb; clear hb hg; have hnb7 := NB223_224.out; have hnc7 := NB224_223.out; obtain ⟨z8_0, z8_1, z8_2, z8_3, z8_4, y8_0, y8_1, y8_2, y8_3, y8_4⟩ := y5 BK223; have p225 : 0 ≤ (a1 : Int) := of_decide_eq_true eA; have q225 : a1 < (l0_3.length : Int) := of_decide_eq_true eA; obtain ⟨ad225, A225_3, c225_3, e225, hx225_0, hx225_1, hx225_2, hx225_3, hl225_3, hi225_3⟩ := at_T53 (Kd.V_reads' HO0_3.out).2.2 a1 p225 q225; cases e225; obtain ⟨ce225, hce225, hMe225, hcc225⟩ := Kd.V_get HO0_3.out z53 a1 p225 (by first | exact q225 | exact of_decide_eq_true eA | (have e_ := (Kd.V_reads' HO0_3.out).1; omega)); obtain ⟨ua225_3, uc225_3, rfl, ul225_3, ge225_3⟩ := k53_openF hMe225; have hv225_3 := hcc225 3 _ rfl; rw [add_field _ _ 3 (by omega)] at hv225_3; replace hv225_3 := Option.some.inj (hv225_3.symm.trans hx225_3); injection hv225_3 with hva_ hvn_ hvc_; rw [hva_] at ge225_3; rw [hvc_] at ul225_3; have HL225_3 := am (show Kd.V k53 53 _ w.heap.size _ _ ((rd_T53 l0_3 a1).f3) from Kd.V_mk ul225_3 ge225_3); clear hva_ hvn_ hvc_ ge225_3 ul225_3; clear hcc225 hce225; have HR225_3 := am hi225_3; have HC225_3 := am hl225_3; clear hi225_3 hl225_3; replace p225 := eq_true p225; replace q225 := eq_true q225; obtain ⟨z9_0, z9_1, z9_2, z9_3, y9_0, y9_1, y9_2, y9_3⟩ := y4 BK224))
    refine bodyPost_ret (results_cell_row rfl _ _ gb224 53 #[.int .i64 ((rd_T53 l0_3 a1).f0), .string ((rd_T53 l0_3 a1).f1), .int .i64 ((rd_T53 l0_3 a1).f2), .slice A225_3 ((rd_T53 l0_3 a1).f3).length c225_3] (0, 0) _ rfl (d10 BK224) Tryd.underlying53 rfl (by kernel_rfl)) rfl ?_
    exact ⟨_, eW, by (with_reducible repeat (first | apply Kd.V_alloc | apply Kd.V_drewN | apply Kd.V_drew)); exact Kd.V_mono (Kd.V_far (p := ⟨gb224, 3, none⟩) (Kd.V_far (p := ⟨gb224, 2, none⟩) (Kd.V_far (p := ⟨gb224, 1, none⟩) (Kd.V_far (p := ⟨gb224, 0, none⟩) (Kd.V_mono HL225_3.out (fun k_ hk => (⟨hk, hk.2⟩ : _ ∧ k_ ≠ gb224))) (fun _ hk => hk.2) (.int .i64 ((rd_T53 l0_3 a1).f0))) (fun _ hk => hk.2) (.string ((rd_T53 l0_3 a1).f1))) (fun _ hk => hk.2) (.int .i64 ((rd_T53 l0_3 a1).f2))) (fun _ hk => hk.2) (.slice A225_3 ((rd_T53 l0_3 a1).f3).length c225_3)) (fun _ hk => hk.1.1.1), bB⟩
   ·rw [if_neg c4] at H
    exact absurd H (by simp)
  ·rw [if_neg c3] at H
   have c3b0 : decide (a1 < (l0_3.length : Int)) = false := decide_eq_false c3; clear c3; simp only [Option.some.injEq, Prod.mk.injEq] at H; obtain ⟨rfl, rfl, rfl, rfl⟩ := H
   go_enter Tryd.func49, Tryd.ntmps49
   go_wp2_with (first | ((with_reducible refine gate_dst (N := 2) rfl ?_); refine bE 2 #[.int .i64 a0_0, .string a0_1, .string a0_2, .slice A0_3 l0_3.length c0_3, .slice A0_4 l0_4.length c0_4] 30 ?_; intro gb223 w10 BK223 hg hb; replace HO0_3 := vE HO0_3 hg hb; have GW223 := bZ hg; have GE223 := bZ hg; replace HB := bH hb; clear hb hg) | ((with_reducible refine gate_dst (N := 4) rfl ?_); refine bE 4 #[.int .i64 0, .string (⟨#[]⟩ : ByteArray), .int .i64 0, .slice none 0 0] 53 ?_; intro gb224 w11 BK224 hg hb; replace HO0_3 := vE HO0_3 hg hb; have GW224 := bZ hg; have GE224 := bZ hg; replace HB := bH hb; have NB223_224 := bN BK223 hg; have NB224_223 := bM BK223 hg; replace BK223 := bK BK223 hb; clear hb hg; have hnb12 := NB223_224.out; have hnc12 := NB224_223.out; obtain ⟨z13_0, z13_1, z13_2, z13_3, z13_4, y13_0, y13_1, y13_2, y13_3, y13_4⟩ := y5 BK223; obtain ⟨z14_0, z14_1, z14_2, z14_3, y14_0, y14_1, y14_2, y14_3⟩ := y4 BK224))
   refine bodyPost_ret (results_cell_row rfl _ _ gb224 53 #[.int .i64 0, .string (⟨#[]⟩ : ByteArray), .int .i64 0, .slice none 0 0] (0, 0) _ rfl (d15 BK224) Tryd.underlying53 rfl (by kernel_rfl)) rfl ?_
   exact ⟨_, eW, d17, bB⟩
/-! ### show_sub: function 50 -/
def show_sub.f (a0_0 : Int) (a0_1 : ByteArray) (a0_2 : ByteArray) (l0_3 : List (S53)) (l0_4 : List (S30)) (a1 : Int) : Option (Int × ByteArray × ByteArray × (List (S53)) × (List (S30))) := if a1 < (l0_4.length : Int) then (if 0 ≤ a1 then (some ((rd_T30 l0_4 a1).f0, (rd_T30 l0_4 a1).f1, (rd_T30 l0_4 a1).f2, (rd_T30 l0_4 a1).f3, (rd_T30 l0_4 a1).f4)) else (none)) else (some (1, (⟨#[]⟩ : ByteArray), (⟨#[]⟩ : ByteArray), ([] : List (S53)), ([] : List (S30))))
set_option maxHeartbeats 8000000 in
set_option maxRecDepth 100000 in
theorem show_sub.calls (a0_0 : Int) (a0_1 : ByteArray) (a0_2 : ByteArray) (A0_3 : Option Addr) (c0_3 : Nat) (l0_3 : List (S53)) (P0_4_ : Nat → Prop) (A0_4 : Option Addr) (c0_4 : Nat) (l0_4 : List (S30)) (a1 : Int) (r1 : Int) (r2 : ByteArray) (r3 : ByteArray) (r4 : List (S53)) (r5 : List (S30)) (w : World) (hr0_3 : Kd.C k53 w A0_3 l0_3.length l0_3) (hc0_3 : l0_3.length ≤ c0_3) (hs0_4 : Kd.V k30 30 w w.heap.size (fun k_ => P0_4_ k_) (.slice A0_4 l0_4.length c0_4) l0_4) (h : show_sub.f a0_0 a0_1 a0_2 l0_3 l0_4 a1 = some (r1, r2, r3, r4, r5)) :
    Calls Tryd.prog 50 #[.agg #[.int .i64 a0_0, .string a0_1, .string a0_2, .slice A0_3 l0_3.length c0_3, .slice A0_4 l0_4.length c0_4], .int .i64 a1] w fun e w' => ∃ v3_ v4_ : Value, e = .returned (.agg #[.int .i64 r1, .string r2, .string r3, v3_, v4_]) ∧ Kd.V k53 53 w' w.heap.size (fun k_ => (P0_4_ k_ ∨ w.heap.size ≤ k_)) v3_ r4 ∧ Kd.V k30 30 w' w.heap.size (fun k_ => (P0_4_ k_ ∨ w.heap.size ≤ k_)) v4_ r5 ∧ Below w.heap.size w w' := by
  have hu30 := Tryd.underlying30; have HR0_3 := am hr0_3; have HC0_3 := am hc0_3; clear hr0_3 hc0_3; have HO0_4 := am (show Kd.V k30 30 w w.heap.size (fun k_ => (P0_4_ k_ ∨ w.heap.size ≤ k_)) (.slice A0_4 l0_4.length c0_4) l0_4 from Kd.V_mono hs0_4 (fun k_ hk => .inl hk)); have HB := am (Below.refl w.heap.size w); have H := h; unfold show_sub.f at H; clear h
  by_cases c3 : a1 < (l0_4.length : Int)
  ·rw [if_pos c3] at H
   have c3b0 : decide (a1 < (l0_4.length : Int)) = true := decide_eq_true c3; clear c3
   by_cases c4 : 0 ≤ a1
   ·rw [if_pos c4] at H
    have c4b0 : decide (0 ≤ a1) = true := decide_eq_true c4; clear c4; simp only [Option.some.injEq, Prod.mk.injEq] at H; obtain ⟨rfl, rfl, rfl, rfl, rfl⟩ := H
    go_enter Tryd.func50, Tryd.ntmps50
    go_wp2_with (first | ((with_reducible refine gate_dst (N := 2) rfl ?_); refine bE 2 #[.int .i64 a0_0, .string a0_1, .string a0_2, .slice A0_3 l0_3.length c0_3, .slice A0_4 l0_4.length c0_4] 30 ?_; intro gb226 w5 BK226 hg hb; replace HO0_4 := vE HO0_4 hg hb; have GW226 := bZ hg; have GE226 := bZ hg; replace HB := bH hb; clear hb hg) | ((with_reducible refine gate_dst (N := 4) rfl ?_); refine bE 4 #[.int .i64 0, .string (⟨#[]⟩ : ByteArray), .string (⟨#[]⟩ : ByteArray), .slice none 0 0, .slice none 0 0] 30 ?_; intro gb227 w6 BK227 hg hb; replace HO0_4 := vE HO0_4 hg hb; have GW227 := bZ hg; have GE227 := bZ hg; replace HB := bH hb; have NB226_227 := bN BK226 hg; have NB227_226 := bM BK226 hg; replace BK226 := bK BK226 hb; clear hb hg; have hnb7 := NB226_227.out; have hnc7 := NB227_226.out; obtain ⟨z8_0, z8_1, z8_2, z8_3, z8_4, y8_0, y8_1, y8_2, y8_3, y8_4⟩ := y5 BK226; have p228 : 0 ≤ (a1 : Int) := of_decide_eq_true eA; have q228 : a1 < (l0_4.length : Int) := of_decide_eq_true eA; obtain ⟨ad228, A228_3, c228_3, A228_4, c228_4, e228, hx228_0, hx228_1, hx228_2, hx228_3, hx228_4, hl228_3, hi228_3, hl228_4, hi228_4⟩ := at_T30 (Kd.V_reads' HO0_4.out).2.2 a1 p228 q228; cases e228; obtain ⟨ce228, hce228, hMe228, hcc228⟩ := Kd.V_get HO0_4.out z30 a1 p228 (by first | exact q228 | exact of_decide_eq_true eA | (have e_ := (Kd.V_reads' HO0_4.out).1; omega)); obtain ⟨ua228_3, uc228_3, ua228_4, uc228_4, rfl, ul228_3, ge228_3, ul228_4, ge228_4⟩ := k30_openF hMe228; have hv228_3 := hcc228 3 _ rfl; rw [add_field _ _ 3 (by omega)] at hv228_3; replace hv228_3 := Option.some.inj (hv228_3.symm.trans hx228_3); injection hv228_3 with hva_ hvn_ hvc_; rw [hva_] at ge228_3; rw [hvc_] at ul228_3; have HL228_3 := am (show Kd.V k53 53 _ w.heap.size _ _ ((rd_T30 l0_4 a1).f3) from Kd.V_mk ul228_3 ge228_3); clear hva_ hvn_ hvc_ ge228_3 ul228_3; have hv228_4 := hcc228 4 _ rfl; rw [add_field _ _ 4 (by omega)] at hv228_4; replace hv228_4 := Option.some.inj (hv228_4.symm.trans hx228_4); injection hv228_4 with hva_ hvn_ hvc_; rw [hva_] at ge228_4; rw [hvc_] at ul228_4; have HL228_4 := am (show Kd.V k30 30 _ w.heap.size _ _ ((rd_T30 l0_4 a1).f4) from Kd.V_mk ul228_4 ge228_4); clear hva_ hvn_ hvc_ ge228_4 ul228_4; clear hcc228 hce228; have HR228_3 := am hi228_3; have HC228_3 := am hl228_3; clear hi228_3 hl228_3; have HR228_4 := am hi228_4; have HC228_4 := am hl228_4; clear hi228_4 hl228_4; replace p228 := eq_true p228; replace q228 := eq_true q228; obtain ⟨z9_0, z9_1, z9_2, z9_3, z9_4, y9_0, y9_1, y9_2, y9_3, y9_4⟩ := y5 BK227))
    refine bodyPost_ret (results_cell_row rfl _ _ gb227 30 #[.int .i64 ((rd_T30 l0_4 a1).f0), .string ((rd_T30 l0_4 a1).f1), .string ((rd_T30 l0_4 a1).f2), .slice A228_3 ((rd_T30 l0_4 a1).f3).length c228_3, .slice A228_4 ((rd_T30 l0_4 a1).f4).length c228_4] (0, 0) _ rfl (by (with_reducible repeat (first | refine blk_drewN ?_ _ | refine blk_drew ?_ | refine blk_alloc ?_ _)); refine blk_put (cs := #[.int .i64 ((rd_T30 l0_4 a1).f0), .string ((rd_T30 l0_4 a1).f1), .string ((rd_T30 l0_4 a1).f2), .slice A228_3 ((rd_T30 l0_4 a1).f3).length c228_3, .slice none 0 0]) ?_ 4 _ rfl; (with_reducible repeat (first | refine blk_drewN ?_ _ | refine blk_drew ?_ | refine blk_alloc ?_ _)); refine blk_put (cs := #[.int .i64 ((rd_T30 l0_4 a1).f0), .string ((rd_T30 l0_4 a1).f1), .string ((rd_T30 l0_4 a1).f2), .slice none 0 0, .slice none 0 0]) ?_ 3 _ rfl; (with_reducible repeat (first | refine blk_drewN ?_ _ | refine blk_drew ?_ | refine blk_alloc ?_ _)); refine blk_put (cs := #[.int .i64 ((rd_T30 l0_4 a1).f0), .string ((rd_T30 l0_4 a1).f1), .string (⟨#[]⟩ : ByteArray), .slice none 0 0, .slice none 0 0]) ?_ 2 _ rfl; (with_reducible repeat (first | refine blk_drewN ?_ _ | refine blk_drew ?_ | refine blk_alloc ?_ _)); refine blk_put (cs := #[.int .i64 ((rd_T30 l0_4 a1).f0), .string (⟨#[]⟩ : ByteArray), .string (⟨#[]⟩ : ByteArray), .slice none 0 0, .slice none 0 0]) ?_ 1 _ rfl; (with_reducible repeat (first | refine blk_drewN ?_ _ | refine blk_drew ?_ | refine blk_alloc ?_ _)); refine blk_put (cs := #[.int .i64 0, .string (⟨#[]⟩ : ByteArray), .string (⟨#[]⟩ : ByteArray), .slice none 0 0, .slice none 0 0]) ?_ 0 _ rfl; (with_reducible repeat (first | refine blk_drewN ?_ _ | refine blk_drew ?_ | refine blk_alloc ?_ _)); exact BK227.out) Tryd.underlying30 rfl (by kernel_rfl)) rfl ?_
    exact ⟨_, _, eW, by (with_reducible repeat (first | apply Kd.V_alloc | apply Kd.V_drewN | apply Kd.V_drew)); exact Kd.V_mono (Kd.V_far (p := ⟨gb227, 4, none⟩) (Kd.V_far (p := ⟨gb227, 3, none⟩) (Kd.V_far (p := ⟨gb227, 2, none⟩) (Kd.V_far (p := ⟨gb227, 1, none⟩) (Kd.V_far (p := ⟨gb227, 0, none⟩) (Kd.V_mono HL228_3.out (fun k_ hk => (⟨hk, hk.2⟩ : _ ∧ k_ ≠ gb227))) (fun _ hk => hk.2) (.int .i64 ((rd_T30 l0_4 a1).f0))) (fun _ hk => hk.2) (.string ((rd_T30 l0_4 a1).f1))) (fun _ hk => hk.2) (.string ((rd_T30 l0_4 a1).f2))) (fun _ hk => hk.2) (.slice A228_3 ((rd_T30 l0_4 a1).f3).length c228_3)) (fun _ hk => hk.2) (.slice A228_4 ((rd_T30 l0_4 a1).f4).length c228_4)) (fun _ hk => hk.1.1.1), by (with_reducible repeat (first | apply Kd.V_alloc | apply Kd.V_drewN | apply Kd.V_drew)); exact Kd.V_mono (Kd.V_far (p := ⟨gb227, 4, none⟩) (Kd.V_far (p := ⟨gb227, 3, none⟩) (Kd.V_far (p := ⟨gb227, 2, none⟩) (Kd.V_far (p := ⟨gb227, 1, none⟩) (Kd.V_far (p := ⟨gb227, 0, none⟩) (Kd.V_mono HL228_4.out (fun k_ hk => (⟨hk, hk.2⟩ : _ ∧ k_ ≠ gb227))) (fun _ hk => hk.2) (.int .i64 ((rd_T30 l0_4 a1).f0))) (fun _ hk => hk.2) (.string ((rd_T30 l0_4 a1).f1))) (fun _ hk => hk.2) (.string ((rd_T30 l0_4 a1).f2))) (fun _ hk => hk.2) (.slice A228_3 ((rd_T30 l0_4 a1).f3).length c228_3)) (fun _ hk => hk.2) (.slice A228_4 ((rd_T30 l0_4 a1).f4).length c228_4)) (fun _ hk => hk.1.1.1), bB⟩
   ·rw [if_neg c4] at H
    exact absurd H (by simp)
  ·rw [if_neg c3] at H
   have c3b0 : decide (a1 < (l0_4.length : Int)) = false := decide_eq_false c3; clear c3; simp only [Option.some.injEq, Prod.mk.injEq] at H; obtain ⟨rfl, rfl, rfl, rfl, rfl⟩ := H
   go_enter Tryd.func50, Tryd.ntmps50
   go_wp2_with (first | ((with_reducible refine gate_dst (N := 2) rfl ?_); refine bE 2 #[.int .i64 a0_0, .string a0_1, .string a0_2, .slice A0_3 l0_3.length c0_3, .slice A0_4 l0_4.length c0_4] 30 ?_; intro gb226 w10 BK226 hg hb; replace HO0_4 := vE HO0_4 hg hb; have GW226 := bZ hg; have GE226 := bZ hg; replace HB := bH hb; clear hb hg) | ((with_reducible refine gate_dst (N := 4) rfl ?_); refine bE 4 #[.int .i64 0, .string (⟨#[]⟩ : ByteArray), .string (⟨#[]⟩ : ByteArray), .slice none 0 0, .slice none 0 0] 30 ?_; intro gb227 w11 BK227 hg hb; replace HO0_4 := vE HO0_4 hg hb; have GW227 := bZ hg; have GE227 := bZ hg; replace HB := bH hb; have NB226_227 := bN BK226 hg; have NB227_226 := bM BK226 hg; replace BK226 := bK BK226 hb; clear hb hg; have hnb12 := NB226_227.out; have hnc12 := NB227_226.out; obtain ⟨z13_0, z13_1, z13_2, z13_3, z13_4, y13_0, y13_1, y13_2, y13_3, y13_4⟩ := y5 BK226; obtain ⟨z14_0, z14_1, z14_2, z14_3, z14_4, y14_0, y14_1, y14_2, y14_3, y14_4⟩ := y5 BK227))
   refine bodyPost_ret (results_cell_row rfl _ _ gb227 30 #[.int .i64 1, .string (⟨#[]⟩ : ByteArray), .string (⟨#[]⟩ : ByteArray), .slice none 0 0, .slice none 0 0] (0, 0) _ rfl (by (with_reducible repeat (first | refine blk_drewN ?_ _ | refine blk_drew ?_ | refine blk_alloc ?_ _)); refine blk_put (cs := #[.int .i64 1, .string (⟨#[]⟩ : ByteArray), .string (⟨#[]⟩ : ByteArray), .slice none 0 0, .slice none 0 0]) ?_ 4 _ rfl; (with_reducible repeat (first | refine blk_drewN ?_ _ | refine blk_drew ?_ | refine blk_alloc ?_ _)); refine blk_put (cs := #[.int .i64 1, .string (⟨#[]⟩ : ByteArray), .string (⟨#[]⟩ : ByteArray), .slice none 0 0, .slice none 0 0]) ?_ 3 _ rfl; (with_reducible repeat (first | refine blk_drewN ?_ _ | refine blk_drew ?_ | refine blk_alloc ?_ _)); refine blk_put (cs := #[.int .i64 1, .string (⟨#[]⟩ : ByteArray), .string (⟨#[]⟩ : ByteArray), .slice none 0 0, .slice none 0 0]) ?_ 2 _ rfl; (with_reducible repeat (first | refine blk_drewN ?_ _ | refine blk_drew ?_ | refine blk_alloc ?_ _)); refine blk_put (cs := #[.int .i64 1, .string (⟨#[]⟩ : ByteArray), .string (⟨#[]⟩ : ByteArray), .slice none 0 0, .slice none 0 0]) ?_ 1 _ rfl; (with_reducible repeat (first | refine blk_drewN ?_ _ | refine blk_drew ?_ | refine blk_alloc ?_ _)); refine blk_put (cs := #[.int .i64 0, .string (⟨#[]⟩ : ByteArray), .string (⟨#[]⟩ : ByteArray), .slice none 0 0, .slice none 0 0]) ?_ 0 _ rfl; (with_reducible repeat (first | refine blk_drewN ?_ _ | refine blk_drew ?_ | refine blk_alloc ?_ _)); exact BK227.out) Tryd.underlying30 rfl (by kernel_rfl)) rfl ?_
   exact ⟨_, _, eW, d17, d17, bB⟩
/-! ### show_Var: function 15 -/
def show_Var.f (a0_0 : ByteArray) (a0_1 : ByteArray) : Option (ByteArray) := if a0_0.size + 2 ≤ 9223372036854775807 then (if (a0_0 ++ (⟨#[58, 32]⟩ : ByteArray)).size + a0_1.size ≤ 9223372036854775807 then (some ((a0_0 ++ (⟨#[58, 32]⟩ : ByteArray)) ++ a0_1)) else (none)) else (none)
set_option maxHeartbeats 8000000 in
set_option maxRecDepth 100000 in
theorem show_Var.calls (a0_0 : ByteArray) (a0_1 : ByteArray) (r : ByteArray) (w : World) (h : show_Var.f a0_0 a0_1 = some r) :
    Calls Tryd.prog 15 #[.agg #[.string a0_0, .string a0_1]] w fun e w' => e = .returned (.string r) ∧ Below w.heap.size w w' := by
  have hu42 := Tryd.underlying42; have HB := am (Below.refl w.heap.size w); have H := h; unfold show_Var.f at H; clear h
  by_cases c2 : a0_0.size + 2 ≤ 9223372036854775807
  ·rw [if_pos c2] at H
   have c2b0 := eq_true c2; have c2b1 := decide_eq_true c2
   try have c2b2 := eq_false (Nat.not_lt.2 c2)
   by_cases c3 : (a0_0 ++ (⟨#[58, 32]⟩ : ByteArray)).size + a0_1.size ≤ 9223372036854775807
   ·rw [if_pos c3] at H
    have c3b0 := eq_true c3; have c3b1 := decide_eq_true c3; have c3n : a0_0.size + 2 + a0_1.size ≤ 9223372036854775807 := by have h_ := c3; simp only [ByteArray.size_append] at h_; have z0_ : (⟨#[58, 32]⟩ : ByteArray).size = 2 := rfl; first | exact h_ | omega
    have c3b3 := eq_true c3n; have c3b4 : (9223372036854775807 < a0_0.size + 2 + a0_1.size) = False := eq_false (Nat.not_lt.2 c3n)
    try have c3b2 := eq_false (Nat.not_lt.2 c3)
    obtain rfl := Option.some.inj H
    go_enter Tryd.func15, Tryd.ntmps15
    go_wp2_with (first | ((with_reducible refine gate_dst (N := 1) rfl ?_); refine bE 1 #[.string a0_0, .string a0_1] 42 ?_; intro gb434 w4 BK434 hg hb; have GW434 := bZ hg; have GE434 := bZ hg; replace HB := bH hb; clear hb hg; obtain ⟨z5_0, z5_1, y5_0, y5_1⟩ := y2 BK434))
    go_ret; exact ⟨eW, bB⟩
   ·rw [if_neg c3] at H
    exact absurd H (by simp)
  ·rw [if_neg c2] at H
   exact absurd H (by simp)
/-! ### sequiturref14_Var: function 16 -/
def sequiturref14_Var.f (a0_0 : ByteArray) (a0_1 : ByteArray) : Option (ByteArray) := if a0_0.size + 2 ≤ 9223372036854775807 then (if (a0_0 ++ (⟨#[58, 32]⟩ : ByteArray)).size + a0_1.size ≤ 9223372036854775807 then (some ((a0_0 ++ (⟨#[58, 32]⟩ : ByteArray)) ++ a0_1)) else (none)) else (none)
set_option maxHeartbeats 8000000 in
set_option maxRecDepth 100000 in
theorem sequiturref14_Var.calls (a0_0 : ByteArray) (a0_1 : ByteArray) (r : ByteArray) (w : World) (h : sequiturref14_Var.f a0_0 a0_1 = some r) :
    Calls Tryd.prog 16 #[.agg #[.string a0_0, .string a0_1]] w fun e w' => e = .returned (.string r) ∧ Below w.heap.size w w' := by
  have hu42 := Tryd.underlying42; have HB := am (Below.refl w.heap.size w); have H := h; unfold sequiturref14_Var.f at H; clear h
  by_cases c2 : a0_0.size + 2 ≤ 9223372036854775807
  ·rw [if_pos c2] at H
   have c2b0 := eq_true c2; have c2b1 := decide_eq_true c2
   try have c2b2 := eq_false (Nat.not_lt.2 c2)
   by_cases c3 : (a0_0 ++ (⟨#[58, 32]⟩ : ByteArray)).size + a0_1.size ≤ 9223372036854775807
   ·rw [if_pos c3] at H
    have c3b0 := eq_true c3; have c3b1 := decide_eq_true c3; have c3n : a0_0.size + 2 + a0_1.size ≤ 9223372036854775807 := by have h_ := c3; simp only [ByteArray.size_append] at h_; have z0_ : (⟨#[58, 32]⟩ : ByteArray).size = 2 := rfl; first | exact h_ | omega
    have c3b3 := eq_true c3n; have c3b4 : (9223372036854775807 < a0_0.size + 2 + a0_1.size) = False := eq_false (Nat.not_lt.2 c3n)
    try have c3b2 := eq_false (Nat.not_lt.2 c3)
    obtain rfl := Option.some.inj H
    go_enter Tryd.func16, Tryd.ntmps16
    go_wp2_with (first | ((with_reducible refine gate_dst (N := 1) rfl ?_); refine bE 1 #[.string a0_0, .string a0_1] 42 ?_; intro gb435 w4 BK435 hg hb; have GW435 := bZ hg; have GE435 := bZ hg; replace HB := bH hb; clear hb hg; obtain ⟨z5_0, z5_1, y5_0, y5_1⟩ := y2 BK435))
    go_ret; exact ⟨eW, bB⟩
   ·rw [if_neg c3] at H
    exact absurd H (by simp)
  ·rw [if_neg c2] at H
   exact absurd H (by simp)
/-! ### sequiturref14_brackets: function 69 -/
def sequiturref14_brackets.f (a0 : ByteArray) : Option (ByteArray) := if 1 + a0.size ≤ 9223372036854775807 then (if ((⟨#[40]⟩ : ByteArray) ++ a0).size + 1 ≤ 9223372036854775807 then (some (((⟨#[40]⟩ : ByteArray) ++ a0) ++ (⟨#[41]⟩ : ByteArray))) else (none)) else (none)
set_option maxHeartbeats 8000000 in
set_option maxRecDepth 100000 in
theorem sequiturref14_brackets.calls (a0 : ByteArray) (r : ByteArray) (w : World) (h : sequiturref14_brackets.f a0 = some r) :
    Calls Tryd.prog 69 #[.string a0] w fun e w' => e = .returned (.string r) ∧ Drawn0 w w' := by
  have H := h; unfold sequiturref14_brackets.f at H; clear h
  by_cases c2 : 1 + a0.size ≤ 9223372036854775807
  ·rw [if_pos c2] at H
   have c2b0 := eq_true c2; have c2b1 := decide_eq_true c2
   try have c2b2 := eq_false (Nat.not_lt.2 c2)
   by_cases c3 : ((⟨#[40]⟩ : ByteArray) ++ a0).size + 1 ≤ 9223372036854775807
   ·rw [if_pos c3] at H
    have c3b0 := eq_true c3; have c3b1 := decide_eq_true c3; have c3n : 1 + a0.size + 1 ≤ 9223372036854775807 := by have h_ := c3; simp only [ByteArray.size_append] at h_; have z0_ : (⟨#[40]⟩ : ByteArray).size = 1 := rfl; first | exact h_ | omega
    have c3b3 := eq_true c3n; have c3b4 : (9223372036854775807 < 1 + a0.size + 1) = False := eq_false (Nat.not_lt.2 c3n)
    try have c3b2 := eq_false (Nat.not_lt.2 c3)
    obtain rfl := Option.some.inj H
    go_enter Tryd.func69, Tryd.ntmps69
    go_wp2; go_ret; exact ⟨by first | rfl | (simp; done) | (simp [*]; done) | (simp [*, nel]; done), by repeat (first | exact Drawn0.refl _ | apply Drawn0.step)⟩
   ·rw [if_neg c3] at H
    exact absurd H (by simp)
  ·rw [if_neg c2] at H
   exact absurd H (by simp)
/-! ### sequiturref14_low: function 92 -/
def sequiturref14_low.f (a0_0 : Int) (a0_1 : ByteArray) (a0_2 : Int) (l0_3 : List (S53)) : Option (Bool) := if a0_0 = 4 then (some (decide (a0_2 < 0))) else (some false)
set_option maxHeartbeats 8000000 in
set_option maxRecDepth 100000 in
theorem sequiturref14_low.calls (a0_0 : Int) (a0_1 : ByteArray) (a0_2 : Int) (A0_3 : Option Addr) (c0_3 : Nat) (l0_3 : List (S53)) (r : Bool) (w : World) (hr0_3 : Kd.C k53 w A0_3 l0_3.length l0_3) (hc0_3 : l0_3.length ≤ c0_3) (h : sequiturref14_low.f a0_0 a0_1 a0_2 l0_3 = some r) :
    Calls Tryd.prog 92 #[.agg #[.int .i64 a0_0, .string a0_1, .int .i64 a0_2, .slice A0_3 l0_3.length c0_3]] w fun e w' => e = .returned (.bool r) ∧ Below w.heap.size w w' := by
  have hu53 := Tryd.underlying53; have HR0_3 := am hr0_3; have HC0_3 := am hc0_3; clear hr0_3 hc0_3; have HB := am (Below.refl w.heap.size w); have H := h; unfold sequiturref14_low.f at H; clear h
  by_cases c2 : a0_0 = 4
  ·rw [if_pos c2] at H
   have c2b0 := beq_iff_eq.mpr c2; have c2b1 := bne_eq_false_iff_eq.mpr c2; clear c2; obtain rfl := Option.some.inj H
   go_enter Tryd.func92, Tryd.ntmps92
   go_wp2_with (first | ((with_reducible refine gate_dst (N := 1) rfl ?_); refine bE 1 #[.int .i64 a0_0, .string a0_1, .int .i64 a0_2, .slice A0_3 l0_3.length c0_3] 53 ?_; intro gb436 w3 BK436 hg hb; have GW436 := bZ hg; have GE436 := bZ hg; replace HB := bH hb; clear hb hg; obtain ⟨z4_0, z4_1, z4_2, z4_3, y4_0, y4_1, y4_2, y4_3⟩ := y4 BK436))
   go_ret; exact ⟨eW, bB⟩
  ·rw [if_neg c2] at H
   have c2b0 := beq_eq_false_iff_ne.mpr c2; have c2b1 := bne_iff_ne.mpr c2; obtain rfl := Option.some.inj H
   go_enter Tryd.func92, Tryd.ntmps92
   go_wp2_with (first | ((with_reducible refine gate_dst (N := 1) rfl ?_); refine bE 1 #[.int .i64 a0_0, .string a0_1, .int .i64 a0_2, .slice A0_3 l0_3.length c0_3] 53 ?_; intro gb436 w5 BK436 hg hb; have GW436 := bZ hg; have GE436 := bZ hg; replace HB := bH hb; clear hb hg; obtain ⟨z6_0, z6_1, z6_2, z6_3, y6_0, y6_1, y6_2, y6_3⟩ := y4 BK436))
   go_ret; exact ⟨eW, bB⟩
/-! ### sequiturref14_sum: function 82 -/
def sequiturref14_sum.f (a0_0 : Int) (a0_1 : ByteArray) (a0_2 : Int) (l0_3 : List (S53)) : Option (Bool) := if a0_0 = 5 then (some true) else (some (a0_0 == 6))
set_option maxHeartbeats 8000000 in
set_option maxRecDepth 100000 in
theorem sequiturref14_sum.calls (a0_0 : Int) (a0_1 : ByteArray) (a0_2 : Int) (A0_3 : Option Addr) (c0_3 : Nat) (l0_3 : List (S53)) (r : Bool) (w : World) (hr0_3 : Kd.C k53 w A0_3 l0_3.length l0_3) (hc0_3 : l0_3.length ≤ c0_3) (h : sequiturref14_sum.f a0_0 a0_1 a0_2 l0_3 = some r) :
    Calls Tryd.prog 82 #[.agg #[.int .i64 a0_0, .string a0_1, .int .i64 a0_2, .slice A0_3 l0_3.length c0_3]] w fun e w' => e = .returned (.bool r) ∧ Below w.heap.size w w' := by
  have hu53 := Tryd.underlying53; have HR0_3 := am hr0_3; have HC0_3 := am hc0_3; clear hr0_3 hc0_3; have HB := am (Below.refl w.heap.size w); have H := h; unfold sequiturref14_sum.f at H; clear h
  by_cases c2 : a0_0 = 5
  ·rw [if_pos c2] at H
   have c2b0 := beq_iff_eq.mpr c2; have c2b1 := bne_eq_false_iff_eq.mpr c2; clear c2; obtain rfl := Option.some.inj H
   go_enter Tryd.func82, Tryd.ntmps82
   go_wp2_with (first | ((with_reducible refine gate_dst (N := 1) rfl ?_); refine bE 1 #[.int .i64 a0_0, .string a0_1, .int .i64 a0_2, .slice A0_3 l0_3.length c0_3] 53 ?_; intro gb437 w3 BK437 hg hb; have GW437 := bZ hg; have GE437 := bZ hg; replace HB := bH hb; clear hb hg; obtain ⟨z4_0, z4_1, z4_2, z4_3, y4_0, y4_1, y4_2, y4_3⟩ := y4 BK437))
   go_ret; exact ⟨eW, bB⟩
  ·rw [if_neg c2] at H
   have c2b0 := beq_eq_false_iff_ne.mpr c2; have c2b1 := bne_iff_ne.mpr c2; obtain rfl := Option.some.inj H
   go_enter Tryd.func82, Tryd.ntmps82
   go_wp2_with (first | ((with_reducible refine gate_dst (N := 1) rfl ?_); refine bE 1 #[.int .i64 a0_0, .string a0_1, .int .i64 a0_2, .slice A0_3 l0_3.length c0_3] 53 ?_; intro gb437 w5 BK437 hg hb; have GW437 := bZ hg; have GE437 := bZ hg; replace HB := bH hb; clear hb hg; obtain ⟨z6_0, z6_1, z6_2, z6_3, y6_0, y6_1, y6_2, y6_3⟩ := y4 BK437))
   go_ret; exact ⟨eW, bB⟩
end Go.Proofs.YtmlkllbaehegjaaDoor.PAll
end
section
namespace Go.Proofs.YtmlkllbaehegjaaDoor.PAll
open Go.RowKit Go.Proofs.YtmlkllbaehegjaaDoorW.PrintWords Go.Proofs.YtmlkllbaehegjaaDoorW.PrintLast Go.Proofs.YtmlkllbaehegjaaDoorW.PrintMore
attribute [local go_sem] max2_int min2_int max_two min_two max_three min_three max_four min_four   -- for this text's walks alone
set_option linter.unusedVariables false
set_option linter.unusedSimpArgs false
/-! ### sequiturref14_term: function 68 -/
/-! ### sequiturref14_list: function 80 -/
/-! ### sequiturref14_side: function 81 -/
mutual
def sequiturref14_term.j0 : Nat → List ByteArray → Int → Bool → Int → ByteArray → Int → List (S53) → Option (ByteArray)
  | 0, _, _, _, _, _, _, _ => none
  | k + 1, x1, x10, x11, x479000, x479001, x479002, x479003 => if x11 = true then (if (x479003.length : Int) = 0 then (some x479001) else ((sequiturref14_list.f k x479003 x1).bind fun t479 => ((sequiturref14_brackets.f t479).bind fun t480 => (if x479001.size + t480.size ≤ 9223372036854775807 then (some (x479001 ++ t480)) else (none))))) else (if x10 = 2 then (if x479002 < (x1.length : Int) then (if 0 ≤ (wrap64 ((wrap64 ((x1.length : Int) - 1)) - x479002)) then (if (wrap64 ((wrap64 ((x1.length : Int) - 1)) - x479002)) < (x1.length : Int) then (some (rdOf ByteArray.empty x1 (wrap64 ((wrap64 ((x1.length : Int) - 1)) - x479002)))) else (none)) else (none)) else ((sequiturbase_Digits.f k (wrap64 (x479002 - (x1.length : Int)))).bind fun t482 => (if 1 + t482.size ≤ 9223372036854775807 then (some ((⟨#[39]⟩ : ByteArray) ++ t482)) else (none)))) else (if x10 = 4 then ((sequiturbase_Digits.f k x479002).bind fun t483 => (some t483)) else (if x10 = 5 then (if 0 < (x479003.length : Int) then ((sequiturref14_side.f k ((rd_T53 x479003 0).f0) ((rd_T53 x479003 0).f1) ((rd_T53 x479003 0).f2) ((rd_T53 x479003 0).f3) x1 false).bind fun t485 => (if t485.size + 3 ≤ 9223372036854775807 then (if 1 < (x479003.length : Int) then ((sequiturref14_sum.f ((rd_T53 x479003 1).f0) ((rd_T53 x479003 1).f1) ((rd_T53 x479003 1).f2) ((rd_T53 x479003 1).f3)).bind fun t488 => ((sequiturref14_side.f k ((rd_T53 x479003 1).f0) ((rd_T53 x479003 1).f1) ((rd_T53 x479003 1).f2) ((rd_T53 x479003 1).f3) x1 t488).bind fun t489 => (if (t485 ++ (⟨#[32, 43, 32]⟩ : ByteArray)).size + t489.size ≤ 9223372036854775807 then (some ((t485 ++ (⟨#[32, 43, 32]⟩ : ByteArray)) ++ t489)) else (none)))) else (none)) else (none))) else (none)) else (if x10 = 6 then (if 0 < (x479003.length : Int) then ((sequiturref14_side.f k ((rd_T53 x479003 0).f0) ((rd_T53 x479003 0).f1) ((rd_T53 x479003 0).f2) ((rd_T53 x479003 0).f3) x1 false).bind fun t491 => (if t491.size + 3 ≤ 9223372036854775807 then (if 1 < (x479003.length : Int) then ((sequiturref14_sum.f ((rd_T53 x479003 1).f0) ((rd_T53 x479003 1).f1) ((rd_T53 x479003 1).f2) ((rd_T53 x479003 1).f3)).bind fun t494 => ((sequiturref14_side.f k ((rd_T53 x479003 1).f0) ((rd_T53 x479003 1).f1) ((rd_T53 x479003 1).f2) ((rd_T53 x479003 1).f3) x1 t494).bind fun t495 => (if (t491 ++ (⟨#[32, 45, 32]⟩ : ByteArray)).size + t495.size ≤ 9223372036854775807 then (some ((t491 ++ (⟨#[32, 45, 32]⟩ : ByteArray)) ++ t495)) else (none)))) else (none)) else (none))) else (none)) else (if x10 = 7 then (if 0 < (x479003.length : Int) then ((sequiturref14_sum.f ((rd_T53 x479003 0).f0) ((rd_T53 x479003 0).f1) ((rd_T53 x479003 0).f2) ((rd_T53 x479003 0).f3)).bind fun t498 => (if t498 = true then ((sequiturref14_side.f k ((rd_T53 x479003 0).f0) ((rd_T53 x479003 0).f1) ((rd_T53 x479003 0).f2) ((rd_T53 x479003 0).f3) x1 true).bind fun t499 => (if 1 + t499.size ≤ 9223372036854775807 then (some ((⟨#[45]⟩ : ByteArray) ++ t499)) else (none))) else (if ((rd_T53 x479003 0).f0) = 8 then ((sequiturref14_side.f k ((rd_T53 x479003 0).f0) ((rd_T53 x479003 0).f1) ((rd_T53 x479003 0).f2) ((rd_T53 x479003 0).f3) x1 true).bind fun t500 => (if 1 + t500.size ≤ 9223372036854775807 then (some ((⟨#[45]⟩ : ByteArray) ++ t500)) else (none))) else ((sequiturref14_side.f k ((rd_T53 x479003 0).f0) ((rd_T53 x479003 0).f1) ((rd_T53 x479003 0).f2) ((rd_T53 x479003 0).f3) x1 (((rd_T53 x479003 0).f0) == 4)).bind fun t501 => (if 1 + t501.size ≤ 9223372036854775807 then (some ((⟨#[45]⟩ : ByteArray) ++ t501)) else (none)))))) else (none)) else ((sequiturbase_Digits.f k x479002).bind fun t502 => (if x479002 < 0 then ((sequiturref14_brackets.f t502).bind fun t503 => (sequiturref14_term.j1 k x1 t503 x479000 x479001 x479002 x479003)) else (sequiturref14_term.j1 k x1 t502 x479000 x479001 x479002 x479003))))))))
def sequiturref14_term.j1 : Nat → List ByteArray → ByteArray → Int → ByteArray → Int → List (S53) → Option (ByteArray)
  | 0, _, _, _, _, _, _ => none
  | k + 1, x1, x7, x479000, x479001, x479002, x479003 => if 0 < (x479003.length : Int) then (if x7.size + 3 ≤ 9223372036854775807 then ((sequiturref14_sum.f ((rd_T53 x479003 0).f0) ((rd_T53 x479003 0).f1) ((rd_T53 x479003 0).f2) ((rd_T53 x479003 0).f3)).bind fun t506 => (if t506 = true then ((sequiturref14_side.f k ((rd_T53 x479003 0).f0) ((rd_T53 x479003 0).f1) ((rd_T53 x479003 0).f2) ((rd_T53 x479003 0).f3) x1 true).bind fun t507 => (if (x7 ++ (⟨#[32, 42, 32]⟩ : ByteArray)).size + t507.size ≤ 9223372036854775807 then (some ((x7 ++ (⟨#[32, 42, 32]⟩ : ByteArray)) ++ t507)) else (none))) else ((sequiturref14_side.f k ((rd_T53 x479003 0).f0) ((rd_T53 x479003 0).f1) ((rd_T53 x479003 0).f2) ((rd_T53 x479003 0).f3) x1 (((rd_T53 x479003 0).f0) == 8)).bind fun t508 => (if (x7 ++ (⟨#[32, 42, 32]⟩ : ByteArray)).size + t508.size ≤ 9223372036854775807 then (some ((x7 ++ (⟨#[32, 42, 32]⟩ : ByteArray)) ++ t508)) else (none))))) else (none)) else (none)
def sequiturref14_term.f : Nat → Int → ByteArray → Int → List (S53) → List ByteArray → Option (ByteArray)
  | 0, _, _, _, _, _ => none
  | k + 1, a0_0, a0_1, a0_2, l0_3, l1 => if a0_0 = 1 then (sequiturref14_term.j0 k l1 a0_0 (a0_0 == 1) a0_0 a0_1 a0_2 l0_3) else (sequiturref14_term.j0 k l1 a0_0 (a0_0 == 3) a0_0 a0_1 a0_2 l0_3)
def sequiturref14_list.l0 : Nat → List (S53) → List ByteArray → ByteArray → Int → Option (ByteArray)
  | 0, _, _, _, _ => none
  | k + 1, x0, x1, x5, x6 => if x6 < (x0.length : Int) then (if x6 > 0 then (if x5.size + 2 ≤ 9223372036854775807 then (if 0 ≤ x6 then ((sequiturref14_term.f k ((rd_T53 x0 x6).f0) ((rd_T53 x0 x6).f1) ((rd_T53 x0 x6).f2) ((rd_T53 x0 x6).f3) x1).bind fun t510 => (if (x5 ++ (⟨#[44, 32]⟩ : ByteArray)).size + t510.size ≤ 9223372036854775807 then (sequiturref14_list.l0 k x0 x1 ((x5 ++ (⟨#[44, 32]⟩ : ByteArray)) ++ t510) (wrap64 (x6 + 1))) else (none))) else (none)) else (none)) else (if 0 ≤ x6 then ((sequiturref14_term.f k ((rd_T53 x0 x6).f0) ((rd_T53 x0 x6).f1) ((rd_T53 x0 x6).f2) ((rd_T53 x0 x6).f3) x1).bind fun t512 => (if x5.size + t512.size ≤ 9223372036854775807 then (sequiturref14_list.l0 k x0 x1 (x5 ++ t512) (wrap64 (x6 + 1))) else (none))) else (none))) else (some x5)
def sequiturref14_list.f : Nat → List (S53) → List ByteArray → Option (ByteArray)
  | 0, _, _ => none
  | k + 1, l0, l1 => sequiturref14_list.l0 k l0 l1 (⟨#[]⟩ : ByteArray) 0
def sequiturref14_side.f : Nat → Int → ByteArray → Int → List (S53) → List ByteArray → Bool → Option (ByteArray)
  | 0, _, _, _, _, _, _ => none
  | k + 1, a0_0, a0_1, a0_2, l0_3, l1, a2 => (sequiturref14_term.f k a0_0 a0_1 a0_2 l0_3 l1).bind fun t514 => (if a2 = true then ((sequiturref14_brackets.f t514).bind fun t516 => (some t516)) else ((sequiturref14_low.f a0_0 a0_1 a0_2 l0_3).bind fun t515 => (if t515 = true then ((sequiturref14_brackets.f t514).bind fun t517 => (some t517)) else (some t514))))
end
end Go.Proofs.YtmlkllbaehegjaaDoor.PAll
end
