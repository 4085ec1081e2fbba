import Derived.WalkKit
import Derived.Below
import Derived.LoopTactic
import Derived.Outline
import Derived.Deep.LoopGhost
import Derived.Lib.Hide
import Derived.Maps.Views
import Derived.Carry
import Derived.Test.YtmlkllbaehegjaaDoorShowSeqs2
import Derived.Test.YtmlkllbaehegjaaDoorShowSeqs10
import Derived.Test.YtmlkllbaehegjaaDoorProg
import Derived.Test.YtmlkllbaehegjaaDoorShowSeqs0
import Derived.Test.YtmlkllbaehegjaaDoorShowSeqs3
section
namespace Go.Proofs.YtmlkllbaehegjaaDoor.PAll
open Go.RowKit Go.Proofs.YtmlkllbaehegjaaDoorW.PrintWords Go.Proofs.YtmlkllbaehegjaaDoorW.PrintLast Go.Proofs.YtmlkllbaehegjaaDoorW.PrintMore
attribute [local go_sem] max2_int min2_int max_two min_two max_three min_three max_four min_four   -- for this text's walks alone
set_option linter.unusedVariables false
set_option linter.unusedSimpArgs false
/-! ### sequiturref14_termNames: function 73 -/
mutual
def sequiturref14_termNames.j0 : Nat → List ByteArray → Bool → Int → ByteArray → Int → List (S53) → Option (List ByteArray)
  | 0, _, _, _, _, _, _ => none
  | k + 1, x3, x12, x570000, x570001, x570002, x570003 => if x12 = true then (if x3.length < 8796093022208 then (sequiturref14_termNames.j1 k (x3 ++ [x570001]) x570000 x570001 x570002 x570003) else (none)) else (sequiturref14_termNames.j1 k x3 x570000 x570001 x570002 x570003)
def sequiturref14_termNames.j1 : Nat → List ByteArray → Int → ByteArray → Int → List (S53) → Option (List ByteArray)
  | 0, _, _, _, _, _ => none
  | k + 1, x3, x570000, x570001, x570002, x570003 => sequiturref14_termNames.l0 k x3 0 x570000 x570001 x570002 x570003
def sequiturref14_termNames.l0 : Nat → List ByteArray → Int → Int → ByteArray → Int → List (S53) → Option (List ByteArray)
  | 0, _, _, _, _, _, _ => none
  | k + 1, x3, x4, x570000, x570001, x570002, x570003 => if x4 < (x570003.length : Int) then (if 0 ≤ x4 then ((sequiturref14_termNames.f k ((rd_T53 x570003 x4).f0) ((rd_T53 x570003 x4).f1) ((rd_T53 x570003 x4).f2) ((rd_T53 x570003 x4).f3)).bind fun t574 => (if x3.length + t574.length < 8796093022208 then (sequiturref14_termNames.l0 k (x3 ++ t574) (wrap64 (x4 + 1)) x570000 x570001 x570002 x570003) else (none))) else (none)) else (some x3)
def sequiturref14_termNames.f : Nat → Int → ByteArray → Int → List (S53) → Option (List ByteArray)
  | 0, _, _, _, _ => none
  | k + 1, a0_0, a0_1, a0_2, l0_3 => if a0_0 = 1 then (sequiturref14_termNames.j0 k ([] : List ByteArray) true a0_0 a0_1 a0_2 l0_3) else (sequiturref14_termNames.j0 k ([] : List ByteArray) (a0_0 == 3) a0_0 a0_1 a0_2 l0_3)
end
set_option maxHeartbeats 8000000 in
set_option maxRecDepth 100000 in
theorem sequiturref14_termNames.calls (k : Nat) : ∀ (a0_0 : Int) (a0_1 : ByteArray) (a0_2 : Int) (A0_3 : Option Addr) (c0_3 : Nat) (l0_3 : List (S53)) (r : List ByteArray) (w : World) (hr0_3 : Kd.C k53 w A0_3 l0_3.length l0_3) (hc0_3 : l0_3.length ≤ c0_3) (h : sequiturref14_termNames.f k a0_0 a0_1 a0_2 l0_3 = some r),
    Calls Tryd.prog 73 #[.agg #[.int .i64 a0_0, .string a0_1, .int .i64 a0_2, .slice A0_3 l0_3.length c0_3]] w fun e w' => ∃ v0_ : Value, e = .returned (v0_) ∧ Kd.R Kd.string 9 w' w.heap.size (fun _ => True) v0_ r ∧ Below w.heap.size w w' := by
  induction k using Nat.strongRecOn with
  | _ k ih =>
  intro a0_0 a0_1 a0_2 A0_3 c0_3 l0_3 r w hr0_3 hc0_3 h
  cases k with
  | zero => exact absurd h (by simp [sequiturref14_termNames.f])
  | succ k =>
  simp only [sequiturref14_termNames.f] at h; have hu53 := Tryd.underlying53; have HR0_3 := am hr0_3; have HC0_3 := am hc0_3; clear hr0_3 hc0_3; have HB := am (Below.refl w.heap.size w); have H := h; clear h; have HC2 := am H; clear H
  go_enter Tryd.func73, Tryd.ntmps73
  go_upto_region 2 with (first | ((with_reducible refine gate_dst (N := 1) rfl ?_); refine bE 1 #[.int .i64 a0_0, .string a0_1, .int .i64 a0_2, .slice A0_3 l0_3.length c0_3] 53 ?_; intro gb569 w3 BK569 hg hb; have GW569 := bZ hg; have GE569 := bZ hg; replace HB := bH hb; clear hb hg))
  (try simp only [Act.put, List.setIfInBounds_toArray, List.set_cons_zero, List.set_cons_succ])
  go_cut [12] (fun v12 wc => ∃ (kq : Nat) (x12_1 : Bool), v12 = .bool x12_1 ∧ Aside0 (sequiturref14_termNames.j0 kq ([] : List ByteArray) x12_1 a0_0 a0_1 a0_2 l0_3 = some r) ∧ Aside0 (kq ≤ k) ∧ Aside0 (Kd.R Kd.string 9 wc w.heap.size (fun _ => True) (.slice none 0 0) ([] : List ByteArray)) ∧ Aside0 (wc.heap[gb569]? = some (.cells #[.int .i64 a0_0, .string a0_1, .int .i64 a0_2, (.slice A0_3 l0_3.length c0_3)] 53 (0, 0))) ∧ Aside0 (Below w.heap.size w wc))
  case first =>
   have H := HC2.out; clear HC2
   by_cases c4 : a0_0 = 1
   ·rw [if_pos c4] at H
    have c4b0 := beq_iff_eq.mpr c4; have c4b1 := bne_eq_false_iff_eq.mpr c4; clear c4; (first | rw [c4b0] | (simp only [i64_w, i32_w]; rw [c4b0]) | skip); have H' := am H; clear H; obtain ⟨z5_0, z5_1, z5_2, z5_3, y5_0, y5_1, y5_2, y5_3⟩ := y4 BK569; go_wp2; go_meet
    case rel => exact ⟨_, (true), eS, H', ⟨eO⟩, ⟨by first | exact Kd.R_nil _ _ _ _ _ | exact Kd.N_nil _ _ _ _ _ | exact Kd.V_nil _ _ _ _ _ | exact Kd.Q_nil _ _ _ _ _ | exact Kd.S_nil _ _ _ _ _⟩, ⟨bD BK569⟩, ⟨bB⟩⟩
   ·rw [if_neg c4] at H
    have c4b0 := beq_eq_false_iff_ne.mpr c4; have c4b1 := bne_iff_ne.mpr c4; (first | rw [c4b0] | (simp only [i64_w, i32_w]; rw [c4b0]) | skip); have H' := am H; clear H; obtain ⟨z6_0, z6_1, z6_2, z6_3, y6_0, y6_1, y6_2, y6_3⟩ := y4 BK569; go_wp2; go_meet
    case rel => exact ⟨_, ((a0_0 == 3)), eS, H', ⟨eO⟩, ⟨by first | exact Kd.R_nil _ _ _ _ _ | exact Kd.N_nil _ _ _ _ _ | exact Kd.V_nil _ _ _ _ _ | exact Kd.Q_nil _ _ _ _ _ | exact Kd.S_nil _ _ _ _ _⟩, ⟨bD BK569⟩, ⟨bB⟩⟩
  case rest =>
   clear HC2; (try clear p2); (try clear c4); (try clear c4b0); (try clear c4b1); (try clear z5_0 z5_1 z5_2 z5_3); (try clear z6_0 z6_1 z6_2 z6_3); (try clear y5_0 y5_1 y5_2 y5_3); (try clear y6_0 y6_1 y6_2 y6_3); obtain ⟨kq, x12_1, rfl, HA, HJ1, HO_3, BK569, HB⟩ := hcut
   cases kq with
   | zero => exact absurd HA.out (by simp [sequiturref14_termNames.j0])
   | succ kj1 =>
    have H := HA.out; clear HA; simp only [sequiturref14_termNames.j0] at H; have HC7 := am H; clear H
    go_upto_if 12 with (fail)
    go_cut [3] (fun v3 wc => ∃ (kq : Nat) (x3_6 : List ByteArray), Aside0 (sequiturref14_termNames.j1 kq x3_6 a0_0 a0_1 a0_2 l0_3 = some r) ∧ Aside0 (kq ≤ kj1) ∧ Aside0 (Kd.R Kd.string 9 wc w.heap.size (fun _ => True) v3 x3_6) ∧ Aside0 (wc.heap[gb569]? = some (.cells #[.int .i64 a0_0, .string a0_1, .int .i64 a0_2, (.slice A0_3 l0_3.length c0_3)] 53 (0, 0))) ∧ Aside0 (Below w.heap.size w wc))
    case first =>
     have H := HC7.out; clear HC7
     by_cases c8 : x12_1 = true
     ·subst c8
      rw [if_pos rfl] at H
      by_cases c9 : ([] : List ByteArray).length < 8796093022208
      ·rw [if_pos c9] at H
       have LMc9 := am c9; clear c9; obtain ⟨y570, hy570⟩ : ∃ y_ : List ByteArray, y_ = (([] : List ByteArray) ++ [a0_1]) := ⟨_, rfl⟩; replace H : (sequiturref14_termNames.j1 kj1 y570 a0_0 a0_1 a0_2 l0_3) = some r := by first | (rw [hy570]; with_reducible exact H) | (have H2_ := (Option.bind_some _ _).symm.trans H; rw [hy570]; with_reducible exact H2_) | (have H2_ := (Option.bind_some _ _).symm.trans H; with_reducible exact H2_) | with_reducible exact H | (rw [hy570]; exact H) | exact H
       have Ny570 := am hy570; clear hy570; have H' := am H; clear H; obtain ⟨z10_0, z10_1, z10_2, z10_3, y10_0, y10_1, y10_2, y10_3⟩ := y4 BK569
       go_wp2_with (first | ((with_reducible refine gate_builtin (b := .append) (xs := #[.tmp 13, .tmp 16]) rfl ?_); at_builtin; refine Kd.R_append Kd.string (w0 := w) w.heap.size rfl (.tmp 13) (.tmp 16) 22 9 (.string ⟨#[]⟩) 16 rfl Tryd.underlying22 info9 rfl (by decide) (by omega) (.slice none 0 0) ([] : List ByteArray) a0_1 [.string a0_1] (fun _ => True) (fun _ => False) rfl rfl ?aP (fun _ hk => hk.elim) ?aF ?aO ?aB ?aS ?aL ?_; (case aP => exact rfl); (case aB => exact bB); (case aF => exact (fun _ _ => trivial)); (case aO => exact (d6 HO_3)); (case aS => exact (below_size bB)); (case aL => have := LMc9.out; omega); intro v571 w11 ho hb hg hat; rw [← Ny570.out] at ho; replace BK569 := am (blk_grown (bD BK569) hg (Kd.R_ne HO_3.out BK569.out (by decide))); replace HB := am (hb); have HO572 := am (ho); clear HO_3; clear ho hb hg hat))
       go_meet
       case rel => exact ⟨_, (y570), H', ⟨by have := HJ1.out; first | omega | exact Nat.le_refl _⟩, ⟨by (with_reducible repeat (first | apply Kd.R_alloc | apply Kd.R_drewN | apply Kd.R_drew)); exact HO572.out⟩, ⟨bD BK569⟩, ⟨bB⟩⟩
      ·rw [if_neg c9] at H
       exact absurd H (by simp)
     ·replace c8 := Bool.eq_false_iff.mpr c8
      subst c8; rw [if_neg (show ¬ (false = true) by decide)] at H; have H' := am H; clear H; go_wp2; go_meet
      case rel => exact ⟨_, (([] : List ByteArray)), H', ⟨by have := HJ1.out; first | omega | exact Nat.le_refl _⟩, ⟨by (with_reducible repeat (first | apply Kd.R_alloc | apply Kd.R_drewN | apply Kd.R_drew)); exact HO_3.out⟩, ⟨bD BK569⟩, ⟨bB⟩⟩
    case rest =>
     clear HC7; (try clear p2); (try clear c4); (try clear c4b0); (try clear c4b1); (try clear c7); (try clear c8); (try clear c9); (try clear z10_0 z10_1 z10_2 z10_3); (try clear z5_0 z5_1 z5_2 z5_3); (try clear z6_0 z6_1 z6_2 z6_3); (try clear y10_0 y10_1 y10_2 y10_3); (try clear y5_0 y5_1 y5_2 y5_3); (try clear y6_0 y6_1 y6_2 y6_3); (try clear p2); obtain ⟨kq, x3_6, HA, HJ6, HO_3, BK569, HB⟩ := hcut
     cases kq with
     | zero => exact absurd HA.out (by simp [sequiturref14_termNames.j1])
     | succ kj6 =>
      have H := HA.out; clear HA; simp only [sequiturref14_termNames.j1] at H; have H' := am H; clear H; go_wp2
      go_loopg [3, 4] kj6 (fun kq v3 v4 w' => ∃ (x3_3 : List ByteArray) (x4_3 : Int), v4 = .int .i64 x4_3 ∧ Aside0 (sequiturref14_termNames.l0 kq x3_3 x4_3 a0_0 a0_1 a0_2 l0_3 = some r) ∧ Aside0 (kq ≤ kj6) ∧ Aside0 (Kd.R Kd.string 9 w' w.heap.size (fun _ => True) v3 x3_3) ∧ Aside0 (w'.heap[gb569]? = some (.cells #[.int .i64 a0_0, .string a0_1, .int .i64 a0_2, (.slice A0_3 l0_3.length c0_3)] 53 (0, 0))) ∧ Aside0 (Below w.heap.size w w'))
      case atStart => exact ⟨(x3_6), (0), eS, H', ⟨Nat.le_refl _⟩, ⟨by (with_reducible repeat (first | apply Kd.R_alloc | apply Kd.R_drewN | apply Kd.R_drew)); exact HO_3.out⟩, ⟨bD BK569⟩, ⟨bB⟩⟩
      case round =>
       clear H'; (try clear p2); (try clear c4); (try clear c4b0); (try clear c4b1); (try clear c7); (try clear c8); (try clear c9); (try clear z10_0 z10_1 z10_2 z10_3); (try clear z5_0 z5_1 z5_2 z5_3); (try clear z6_0 z6_1 z6_2 z6_3); (try clear y10_0 y10_1 y10_2 y10_3); (try clear y5_0 y5_1 y5_2 y5_3); (try clear y6_0 y6_1 y6_2 y6_3); (try clear p2); obtain ⟨x3_3, x4_3, rfl, HA, HK3, HO_3, BK569, HB⟩ := hrel
       cases gk with
       | zero => exact absurd HA.out (by simp [sequiturref14_termNames.l0])
       | succ k3 =>
        have H := HA.out; clear HA; simp only [sequiturref14_termNames.l0] at H
        by_cases c12 : x4_3 < (l0_3.length : Int)
        ·rw [if_pos c12] at H
         have c12b0 : decide (x4_3 < (l0_3.length : Int)) = true := decide_eq_true c12; clear c12
         by_cases c13 : 0 ≤ x4_3
         ·rw [if_pos c13] at H
          have c13b0 : decide (0 ≤ x4_3) = true := decide_eq_true c13; clear c13; obtain ⟨t574, A14, H⟩ := bO H
          by_cases c15 : x3_3.length + t574.length < 8796093022208
          ·rw [if_pos c15] at H
           have LMc15 := am c15; clear c15; obtain ⟨y577, hy577⟩ : ∃ y_ : List ByteArray, y_ = (x3_3 ++ t574) := ⟨_, rfl⟩; replace H : (sequiturref14_termNames.l0 k3 y577 (wrap64 (x4_3 + 1)) a0_0 a0_1 a0_2 l0_3) = some r := by first | (rw [hy577]; with_reducible exact H) | (have H2_ := (Option.bind_some _ _).symm.trans H; rw [hy577]; with_reducible exact H2_) | (have H2_ := (Option.bind_some _ _).symm.trans H; with_reducible exact H2_) | with_reducible exact H | (rw [hy577]; exact H) | exact H
           have Ny577 := am hy577; clear hy577; have H' := am H; clear H; obtain ⟨z16_0, z16_1, z16_2, z16_3, y16_0, y16_1, y16_2, y16_3⟩ := y4 BK569; have p573 : 0 ≤ (x4_3 : Int) := of_decide_eq_true eA; have q573 : x4_3 < (l0_3.length : Int) := of_decide_eq_true eA; obtain ⟨ad573, A573_3, c573_3, e573, hx573_0, hx573_1, hx573_2, hx573_3, hl573_3, hi573_3⟩ := at_T53 HR0_3.out x4_3 p573 q573
           cases e573
           replace hx573_0 := cX HB hx573_0; replace hx573_1 := cX HB hx573_1; replace hx573_2 := cX HB hx573_2; replace hx573_3 := cX HB hx573_3; have HR573_3 := am hi573_3; have HC573_3 := am hl573_3; clear hi573_3 hl573_3; replace p573 := eq_true p573; replace q573 := eq_true q573
           go_wp2_with (first | ((with_reducible refine gate_callee (f := 73) rfl ?_); refine gL 31 Tryd.func73 #[.agg #[.int .i64 ((rd_T53 l0_3 x4_3).f0), .string ((rd_T53 l0_3 x4_3).f1), .int .i64 ((rd_T53 l0_3 x4_3).f2), .slice A573_3 ((rd_T53 l0_3 x4_3).f3).length c573_3]] ?_; (with_reducible refine (ih k3 (by have := HJ1.out; have := HJ6.out; have := HK3.out; omega) ((rd_T53 l0_3 x4_3).f0) ((rd_T53 l0_3 x4_3).f1) ((rd_T53 l0_3 x4_3).f2) _ _ ((rd_T53 l0_3 x4_3).f3) t574 _ ?side1 HC573_3.out A14.out).mono ?_); (case side1 => exact cB HR573_3); rintro e w17 ⟨v575, rfl, ho0, hb⟩; refine ⟨_, rfl, ?_⟩; have HO576 := am (Kd.R_lower (Kd.R_new' ho0 (Kd.R_lt (d6 HO_3))) (below_size bB)); replace HO_3 := am (Kd.R_elder' (d6 HO_3) (Kd.R_base ho0) hb); replace BK569 := bK BK569 hb; replace HB := bH hb; clear hb ho0; obtain ⟨Ao19, co19, eo19⟩ := Kd.R_slice HO576.out; subst eo19) | ((with_reducible refine gate_builtin (b := .append) (xs := #[.tmp 25, .tmp 31]) rfl ?_); at_builtin; refine Kd.R_append_rows Kd.string (w0 := w) w.heap.size rfl (.tmp 25) (.tmp 31) 22 9 (.string ⟨#[]⟩) 16 rfl Tryd.underlying22 info9 rfl (by decide) (by omega) u3 x3_3 t574 _ _ _ (fun k_ => some k_ ≠ (.slice Ao19 t574.length co19 : Value).ownBlock) (fun _ => False) rfl rfl ?aO ?aR (fun _ _ h => h) (fun _ h => h.elim) ?aF ?aB ?aS ?aL ?_; (case aR => repeat (first | exact (Kd.R_reads' HO576.out).2.2 | (with_reducible refine Kd.C_alloc ?_ _) | (with_reducible refine Kd.C_drewN ?_ _) | (with_reducible refine Kd.C_drew ?_))); (case aB => exact bB); (case aF => exact (fun k_ hk => Kd.fresh' (Kd.R_lt (d6 HO576)) k_ hk)); (case aO => exact (by (with_reducible repeat (first | apply Kd.R_alloc | apply Kd.R_drewN | apply Kd.R_drew)); exact Kd.R_mono HO_3.out (fun _ hk => hk.2))); (case aS => exact (below_size bB)); (case aL => have := LMc15.out; omega); intro v578 w18 ho hb hg hat; rw [← Ny577.out] at ho; replace BK569 := am (blk_grown (bD BK569) hg (Kd.R_ne HO_3.out BK569.out (by decide))); replace HO576 := am (Kd.R_after (ok := (fun _ => True)) (d6 HO576) hg hat); replace HB := am (hb); have HO579 := am (ho); clear HO_3; clear ho hb hg hat))
           go_roundg k3
           case measure => have := HJ1.out; have := HJ6.out; have := HK3.out; omega
           case rel => exact ⟨(y577), (wrap64 (x4_3 + 1)), eS, H', ⟨by have := HJ1.out; have := HJ6.out; have := HK3.out; omega⟩, ⟨by (with_reducible repeat (first | apply Kd.R_alloc | apply Kd.R_drewN | apply Kd.R_drew)); exact Kd.R_mono HO579.out (fun _ hk => trivial)⟩, ⟨bD BK569⟩, ⟨bB⟩⟩
          ·rw [if_neg c15] at H
           exact absurd H (by simp)
         ·rw [if_neg c13] at H
          exact absurd H (by simp)
        ·rw [if_neg c12] at H
         have c12b0 : decide (x4_3 < (l0_3.length : Int)) = false := decide_eq_false c12; clear c12; obtain rfl := Option.some.inj H; obtain ⟨z20_0, z20_1, z20_2, z20_3, y20_0, y20_1, y20_2, y20_3⟩ := y4 BK569; go_wp2; go_ret; exact ⟨_, eW, by (with_reducible repeat (first | apply Kd.R_alloc | apply Kd.R_drewN | apply Kd.R_drew)); exact HO_3.out, bB⟩
end Go.Proofs.YtmlkllbaehegjaaDoor.PAll
end
section
namespace Go.Proofs.YtmlkllbaehegjaaDoor.PAll
open Go.RowKit Go.Proofs.YtmlkllbaehegjaaDoorW.PrintWords Go.Proofs.YtmlkllbaehegjaaDoorW.PrintLast Go.Proofs.YtmlkllbaehegjaaDoorW.PrintMore
attribute [local go_sem] max2_int min2_int max_two min_two max_three min_three max_four min_four   -- for this text's walks alone
set_option linter.unusedVariables false
set_option linter.unusedSimpArgs false
/-! ### sequiturref14_names: function 55 -/
mutual
def sequiturref14_names.j0 : Nat → List ByteArray → Int → ByteArray → ByteArray → List (S53) → List (S30) → Option (List ByteArray)
  | 0, _, _, _, _, _, _ => none
  | k + 1, x3, x581000, x581001, x581002, x581003, x581004 => sequiturref14_names.l0 k x3 0 x581000 x581001 x581002 x581003 x581004
def sequiturref14_names.l0 : Nat → List ByteArray → Int → Int → ByteArray → ByteArray → List (S53) → List (S30) → Option (List ByteArray)
  | 0, _, _, _, _, _, _, _ => none
  | k + 1, x3, x4, x581000, x581001, x581002, x581003, x581004 => if x4 < (x581003.length : Int) then (if 0 ≤ x4 then ((sequiturref14_termNames.f k ((rd_T53 x581003 x4).f0) ((rd_T53 x581003 x4).f1) ((rd_T53 x581003 x4).f2) ((rd_T53 x581003 x4).f3)).bind fun t585 => (if x3.length + t585.length < 8796093022208 then (sequiturref14_names.l0 k (x3 ++ t585) (wrap64 (x4 + 1)) x581000 x581001 x581002 x581003 x581004) else (none))) else (none)) else (sequiturref14_names.l1 k x3 0 x581000 x581001 x581002 x581003 x581004)
def sequiturref14_names.l1 : Nat → List ByteArray → Int → Int → ByteArray → ByteArray → List (S53) → List (S30) → Option (List ByteArray)
  | 0, _, _, _, _, _, _, _ => none
  | k + 1, x3, x5, x581000, x581001, x581002, x581003, x581004 => if x5 < (x581004.length : Int) then (if 0 ≤ x5 then ((sequiturref14_names.f k ((rd_T30 x581004 x5).f0) ((rd_T30 x581004 x5).f1) ((rd_T30 x581004 x5).f2) ((rd_T30 x581004 x5).f3) ((rd_T30 x581004 x5).f4)).bind fun t592 => (if x3.length + t592.length < 8796093022208 then (sequiturref14_names.l1 k (x3 ++ t592) (wrap64 (x5 + 1)) x581000 x581001 x581002 x581003 x581004) else (none))) else (none)) else (some x3)
def sequiturref14_names.f : Nat → Int → ByteArray → ByteArray → List (S53) → List (S30) → Option (List ByteArray)
  | 0, _, _, _, _, _ => none
  | k + 1, a0_0, a0_1, a0_2, l0_3, l0_4 => if a0_0 = 3 then (if ([] : List ByteArray).length < 8796093022208 then (sequiturref14_names.j0 k (([] : List ByteArray) ++ [a0_1]) a0_0 a0_1 a0_2 l0_3 l0_4) else (none)) else (sequiturref14_names.j0 k ([] : List ByteArray) a0_0 a0_1 a0_2 l0_3 l0_4)
end
set_option maxHeartbeats 8000000 in
set_option maxRecDepth 100000 in
theorem sequiturref14_names.calls (k : Nat) : ∀ (a0_0 : Int) (a0_1 : ByteArray) (a0_2 : ByteArray) (A0_3 : Option Addr) (c0_3 : Nat) (l0_3 : List (S53)) (A0_4 : Option Addr) (c0_4 : Nat) (l0_4 : List (S30)) (r : List ByteArray) (w : World) (hr0_3 : Kd.C k53 w A0_3 l0_3.length l0_3) (hc0_3 : l0_3.length ≤ c0_3) (hr0_4 : Kd.C k30 w A0_4 l0_4.length l0_4) (hc0_4 : l0_4.length ≤ c0_4) (h : sequiturref14_names.f k a0_0 a0_1 a0_2 l0_3 l0_4 = some r),
    Calls Tryd.prog 55 #[.agg #[.int .i64 a0_0, .string a0_1, .string a0_2, .slice A0_3 l0_3.length c0_3, .slice A0_4 l0_4.length c0_4]] w fun e w' => ∃ v0_ : Value, e = .returned (v0_) ∧ Kd.R Kd.string 9 w' w.heap.size (fun _ => True) v0_ r ∧ Below w.heap.size w w' := by
  induction k using Nat.strongRecOn with
  | _ k ih =>
  intro a0_0 a0_1 a0_2 A0_3 c0_3 l0_3 A0_4 c0_4 l0_4 r w hr0_3 hc0_3 hr0_4 hc0_4 h
  cases k with
  | zero => exact absurd h (by simp [sequiturref14_names.f])
  | succ k =>
  simp only [sequiturref14_names.f] at h; have hu30 := Tryd.underlying30; have hu53 := Tryd.underlying53; have HR0_3 := am hr0_3; have HC0_3 := am hc0_3; clear hr0_3 hc0_3; have HR0_4 := am hr0_4; have HC0_4 := am hc0_4; clear hr0_4 hc0_4; have HB := am (Below.refl w.heap.size w); have H := h; clear h; have HC2 := am H; clear H
  go_enter Tryd.func55, Tryd.ntmps55
  go_upto_if 8 with (first | ((with_reducible refine gate_dst (N := 1) rfl ?_); refine bE 1 #[.int .i64 a0_0, .string a0_1, .string a0_2, .slice A0_3 l0_3.length c0_3, .slice A0_4 l0_4.length c0_4] 30 ?_; intro gb580 w3 BK580 hg hb; have GW580 := bZ hg; have GE580 := bZ hg; replace HB := bH hb; clear hb hg; obtain ⟨z4_0, z4_1, z4_2, z4_3, z4_4, y4_0, y4_1, y4_2, y4_3, y4_4⟩ := y5 BK580))
  (try simp only [Act.put, List.setIfInBounds_toArray, List.set_cons_zero, List.set_cons_succ])
  go_cut [3] (fun v3 wc => ∃ (kq : Nat) (x3_1 : List ByteArray), Aside0 (sequiturref14_names.j0 kq x3_1 a0_0 a0_1 a0_2 l0_3 l0_4 = some r) ∧ Aside0 (kq ≤ k) ∧ Aside0 (Kd.R Kd.string 9 wc w.heap.size (fun _ => True) v3 x3_1) ∧ Aside0 (wc.heap[gb580]? = some (.cells #[.int .i64 a0_0, .string a0_1, .string a0_2, (.slice A0_3 l0_3.length c0_3), (.slice A0_4 l0_4.length c0_4)] 30 (0, 0))) ∧ Aside0 (Below w.heap.size w wc))
  case first =>
   have H := HC2.out; clear HC2
   by_cases c5 : a0_0 = 3
   ·rw [if_pos c5] at H
    have c5b0 := beq_iff_eq.mpr c5; have c5b1 := bne_eq_false_iff_eq.mpr c5; clear c5; (first | rw [c5b0] | (simp only [i64_w, i32_w]; rw [c5b0]) | skip)
    by_cases c6 : ([] : List ByteArray).length < 8796093022208
    ·rw [if_pos c6] at H
     have LMc6 := am c6; clear c6; obtain ⟨y581, hy581⟩ : ∃ y_ : List ByteArray, y_ = (([] : List ByteArray) ++ [a0_1]) := ⟨_, rfl⟩; replace H : (sequiturref14_names.j0 k y581 a0_0 a0_1 a0_2 l0_3 l0_4) = some r := by first | (rw [hy581]; with_reducible exact H) | (have H2_ := (Option.bind_some _ _).symm.trans H; rw [hy581]; with_reducible exact H2_) | (have H2_ := (Option.bind_some _ _).symm.trans H; with_reducible exact H2_) | with_reducible exact H | (rw [hy581]; exact H) | exact H
     have Ny581 := am hy581; clear hy581; have H' := am H; clear H; obtain ⟨z7_0, z7_1, z7_2, z7_3, z7_4, y7_0, y7_1, y7_2, y7_3, y7_4⟩ := y5 BK580
     go_wp2_with (first | ((with_reducible refine gate_builtin (b := .append) (xs := #[.tmp 9, .tmp 12]) rfl ?_); at_builtin; refine Kd.R_append Kd.string (w0 := w) w.heap.size rfl (.tmp 9) (.tmp 12) 22 9 (.string ⟨#[]⟩) 16 rfl Tryd.underlying22 info9 rfl (by decide) (by omega) (.slice none 0 0) ([] : List ByteArray) a0_1 [.string a0_1] (fun _ => True) (fun _ => False) rfl rfl ?aP (fun _ hk => hk.elim) ?aF ?aO ?aB ?aS ?aL ?_; (case aP => exact rfl); (case aB => exact bB); (case aF => exact (fun _ _ => trivial)); (case aO => exact ((Kd.R_nil _ _ _ _ (fun _ => True)))); (case aS => exact (below_size bB)); (case aL => have := LMc6.out; omega); intro v582 w8 ho hb hg hat; rw [← Ny581.out] at ho; replace BK580 := am (blk_grown (bD BK580) hg (by simp [Value.ownBlock])); replace HB := am (hb); have HO583 := am (ho); clear ho hb hg hat))
     go_meet
     case rel => exact ⟨_, (y581), H', ⟨eO⟩, ⟨by (with_reducible repeat (first | apply Kd.R_alloc | apply Kd.R_drewN | apply Kd.R_drew)); exact HO583.out⟩, ⟨bD BK580⟩, ⟨bB⟩⟩
    ·rw [if_neg c6] at H
     exact absurd H (by simp)
   ·rw [if_neg c5] at H
    have c5b0 := beq_eq_false_iff_ne.mpr c5; have c5b1 := bne_iff_ne.mpr c5; (first | rw [c5b0] | (simp only [i64_w, i32_w]; rw [c5b0]) | skip); have H' := am H; clear H; go_wp2; go_meet
    case rel => exact ⟨_, (([] : List ByteArray)), H', ⟨eO⟩, ⟨by first | exact Kd.R_nil _ _ _ _ _ | exact Kd.N_nil _ _ _ _ _ | exact Kd.V_nil _ _ _ _ _ | exact Kd.Q_nil _ _ _ _ _ | exact Kd.S_nil _ _ _ _ _⟩, ⟨bD BK580⟩, ⟨bB⟩⟩
  case rest =>
   clear HC2; (try clear p2); (try clear c5); (try clear c5b0); (try clear c5b1); (try clear c6); (try clear z4_0 z4_1 z4_2 z4_3 z4_4); (try clear z7_0 z7_1 z7_2 z7_3 z7_4); (try clear y4_0 y4_1 y4_2 y4_3 y4_4); (try clear y7_0 y7_1 y7_2 y7_3 y7_4); obtain ⟨kq, x3_1, HA, HJ1, HO_3, BK580, HB⟩ := hcut
   cases kq with
   | zero => exact absurd HA.out (by simp [sequiturref14_names.j0])
   | succ kj1 =>
    have H := HA.out; clear HA; simp only [sequiturref14_names.j0] at H; have H' := am H; clear H; go_wp2
    go_loopg [3, 4] kj1 (fun kq v3 v4 w' => ∃ (x3_2 : List ByteArray) (x4_2 : Int), v4 = .int .i64 x4_2 ∧ Aside0 (sequiturref14_names.l0 kq x3_2 x4_2 a0_0 a0_1 a0_2 l0_3 l0_4 = some r) ∧ Aside0 (kq ≤ kj1) ∧ Aside0 (Kd.R Kd.string 9 w' w.heap.size (fun _ => True) v3 x3_2) ∧ Aside0 (w'.heap[gb580]? = some (.cells #[.int .i64 a0_0, .string a0_1, .string a0_2, (.slice A0_3 l0_3.length c0_3), (.slice A0_4 l0_4.length c0_4)] 30 (0, 0))) ∧ Aside0 (Below w.heap.size w w'))
    case atStart => exact ⟨(x3_1), (0), eS, H', ⟨Nat.le_refl _⟩, ⟨by (with_reducible repeat (first | apply Kd.R_alloc | apply Kd.R_drewN | apply Kd.R_drew)); exact HO_3.out⟩, ⟨bD BK580⟩, ⟨bB⟩⟩
    case round =>
     clear H'; (try clear p2); (try clear c5); (try clear c5b0); (try clear c5b1); (try clear c6); (try clear z4_0 z4_1 z4_2 z4_3 z4_4); (try clear z7_0 z7_1 z7_2 z7_3 z7_4); (try clear y4_0 y4_1 y4_2 y4_3 y4_4); (try clear y7_0 y7_1 y7_2 y7_3 y7_4); (try clear p2); obtain ⟨x3_2, x4_2, rfl, HA, HK2, HO_3, BK580, HB⟩ := hrel
     cases gk with
     | zero => exact absurd HA.out (by simp [sequiturref14_names.l0])
     | succ k2 =>
      have H := HA.out; clear HA; simp only [sequiturref14_names.l0] at H
      by_cases c9 : x4_2 < (l0_3.length : Int)
      ·rw [if_pos c9] at H
       have c9b0 : decide (x4_2 < (l0_3.length : Int)) = true := decide_eq_true c9; clear c9
       by_cases c10 : 0 ≤ x4_2
       ·rw [if_pos c10] at H
        have c10b0 : decide (0 ≤ x4_2) = true := decide_eq_true c10; clear c10; obtain ⟨t585, A11, H⟩ := bO H
        by_cases c12 : x3_2.length + t585.length < 8796093022208
        ·rw [if_pos c12] at H
         have LMc12 := am c12; clear c12; obtain ⟨y588, hy588⟩ : ∃ y_ : List ByteArray, y_ = (x3_2 ++ t585) := ⟨_, rfl⟩; replace H : (sequiturref14_names.l0 k2 y588 (wrap64 (x4_2 + 1)) a0_0 a0_1 a0_2 l0_3 l0_4) = some r := by first | (rw [hy588]; with_reducible exact H) | (have H2_ := (Option.bind_some _ _).symm.trans H; rw [hy588]; with_reducible exact H2_) | (have H2_ := (Option.bind_some _ _).symm.trans H; with_reducible exact H2_) | with_reducible exact H | (rw [hy588]; exact H) | exact H
         have Ny588 := am hy588; clear hy588; have H' := am H; clear H; obtain ⟨z13_0, z13_1, z13_2, z13_3, z13_4, y13_0, y13_1, y13_2, y13_3, y13_4⟩ := y5 BK580; have p584 : 0 ≤ (x4_2 : Int) := of_decide_eq_true eA; have q584 : x4_2 < (l0_3.length : Int) := of_decide_eq_true eA; obtain ⟨ad584, A584_3, c584_3, e584, hx584_0, hx584_1, hx584_2, hx584_3, hl584_3, hi584_3⟩ := at_T53 HR0_3.out x4_2 p584 q584
         cases e584
         replace hx584_0 := cX HB hx584_0; replace hx584_1 := cX HB hx584_1; replace hx584_2 := cX HB hx584_2; replace hx584_3 := cX HB hx584_3; have HR584_3 := am hi584_3; have HC584_3 := am hl584_3; clear hi584_3 hl584_3; replace p584 := eq_true p584; replace q584 := eq_true q584
         go_wp2_with (first | ((with_reducible refine gate_callee (f := 73) rfl ?_); refine gL 27 Tryd.func73 #[.agg #[.int .i64 ((rd_T53 l0_3 x4_2).f0), .string ((rd_T53 l0_3 x4_2).f1), .int .i64 ((rd_T53 l0_3 x4_2).f2), .slice A584_3 ((rd_T53 l0_3 x4_2).f3).length c584_3]] ?_; (with_reducible refine (sequiturref14_termNames.calls k2 ((rd_T53 l0_3 x4_2).f0) ((rd_T53 l0_3 x4_2).f1) ((rd_T53 l0_3 x4_2).f2) _ _ ((rd_T53 l0_3 x4_2).f3) t585 _ ?side1 HC584_3.out A11.out).mono ?_); (case side1 => exact cB HR584_3); rintro e w14 ⟨v586, rfl, ho0, hb⟩; refine ⟨_, rfl, ?_⟩; have HO587 := am (Kd.R_lower (Kd.R_new' ho0 (Kd.R_lt (d6 HO_3))) (below_size bB)); replace HO_3 := am (Kd.R_elder' (d6 HO_3) (Kd.R_base ho0) hb); replace BK580 := bK BK580 hb; replace HB := bH hb; clear hb ho0; obtain ⟨Ao16, co16, eo16⟩ := Kd.R_slice HO587.out; subst eo16) | ((with_reducible refine gate_builtin (b := .append) (xs := #[.tmp 21, .tmp 27]) rfl ?_); at_builtin; refine Kd.R_append_rows Kd.string (w0 := w) w.heap.size rfl (.tmp 21) (.tmp 27) 22 9 (.string ⟨#[]⟩) 16 rfl Tryd.underlying22 info9 rfl (by decide) (by omega) u3 x3_2 t585 _ _ _ (fun k_ => some k_ ≠ (.slice Ao16 t585.length co16 : Value).ownBlock) (fun _ => False) rfl rfl ?aO ?aR (fun _ _ h => h) (fun _ h => h.elim) ?aF ?aB ?aS ?aL ?_; (case aR => repeat (first | exact (Kd.R_reads' HO587.out).2.2 | (with_reducible refine Kd.C_alloc ?_ _) | (with_reducible refine Kd.C_drewN ?_ _) | (with_reducible refine Kd.C_drew ?_))); (case aB => exact bB); (case aF => exact (fun k_ hk => Kd.fresh' (Kd.R_lt (d6 HO587)) k_ hk)); (case aO => exact (by (with_reducible repeat (first | apply Kd.R_alloc | apply Kd.R_drewN | apply Kd.R_drew)); exact Kd.R_mono HO_3.out (fun _ hk => hk.2))); (case aS => exact (below_size bB)); (case aL => have := LMc12.out; omega); intro v589 w15 ho hb hg hat; rw [← Ny588.out] at ho; replace BK580 := am (blk_grown (bD BK580) hg (Kd.R_ne HO_3.out BK580.out (by decide))); replace HO587 := am (Kd.R_after (ok := (fun _ => True)) (d6 HO587) hg hat); replace HB := am (hb); have HO590 := am (ho); clear HO_3; clear ho hb hg hat))
         go_roundg k2
         case measure => have := HJ1.out; have := HK2.out; omega
         case rel => exact ⟨(y588), (wrap64 (x4_2 + 1)), eS, H', ⟨by have := HJ1.out; have := HK2.out; omega⟩, ⟨by (with_reducible repeat (first | apply Kd.R_alloc | apply Kd.R_drewN | apply Kd.R_drew)); exact Kd.R_mono HO590.out (fun _ hk => trivial)⟩, ⟨bD BK580⟩, ⟨bB⟩⟩
        ·rw [if_neg c12] at H
         exact absurd H (by simp)
       ·rw [if_neg c10] at H
        exact absurd H (by simp)
      ·rw [if_neg c9] at H
       have c9b0 : decide (x4_2 < (l0_3.length : Int)) = false := decide_eq_false c9; clear c9; have H' := am H; clear H; obtain ⟨z17_0, z17_1, z17_2, z17_3, z17_4, y17_0, y17_1, y17_2, y17_3, y17_4⟩ := y5 BK580; go_wp2
       go_loopg [3, 5] k2 (fun kq v3 v5 w' => ∃ (x3_3 : List ByteArray) (x5_3 : Int), v5 = .int .i64 x5_3 ∧ Aside0 (sequiturref14_names.l1 kq x3_3 x5_3 a0_0 a0_1 a0_2 l0_3 l0_4 = some r) ∧ Aside0 (kq ≤ k2) ∧ Aside0 (Kd.R Kd.string 9 w' w.heap.size (fun _ => True) v3 x3_3) ∧ Aside0 (w'.heap[gb580]? = some (.cells #[.int .i64 a0_0, .string a0_1, .string a0_2, (.slice A0_3 l0_3.length c0_3), (.slice A0_4 l0_4.length c0_4)] 30 (0, 0))) ∧ Aside0 (Below w.heap.size w w'))
       case atStart => exact ⟨(x3_2), (0), eS, H', ⟨Nat.le_refl _⟩, ⟨by (with_reducible repeat (first | apply Kd.R_alloc | apply Kd.R_drewN | apply Kd.R_drew)); exact HO_3.out⟩, ⟨bD BK580⟩, ⟨bB⟩⟩
       case round =>
        clear H'; (try clear c1); (try clear p2); (try clear c5); (try clear c5b0); (try clear c5b1); (try clear p5); (try clear q5); (try clear hx5); (try clear c6); (try clear p6); (try clear c7); (try clear c9); (try clear c9b0); (try clear c10); (try clear c10b0); (try clear c12); (try clear z13_0 z13_1 z13_2 z13_3 z13_4); (try clear z17_0 z17_1 z17_2 z17_3 z17_4); (try clear z4_0 z4_1 z4_2 z4_3 z4_4); (try clear z7_0 z7_1 z7_2 z7_3 z7_4); (try clear y13_0 y13_1 y13_2 y13_3 y13_4); (try clear y17_0 y17_1 y17_2 y17_3 y17_4); (try clear y4_0 y4_1 y4_2 y4_3 y4_4); (try clear y7_0 y7_1 y7_2 y7_3 y7_4); (try clear hx584_0); (try clear hx584_1); (try clear hx584_2); (try clear hx584_3); (try clear p2); (try clear p584); (try clear q584); obtain ⟨x3_3, x5_3, rfl, HA, HK3, HO_3, BK580, HB⟩ := hrel
        cases gk with
        | zero => exact absurd HA.out (by simp [sequiturref14_names.l1])
        | succ k3 =>
         have H := HA.out; clear HA; simp only [sequiturref14_names.l1] at H
         by_cases c18 : x5_3 < (l0_4.length : Int)
         ·rw [if_pos c18] at H
          have c18b0 : decide (x5_3 < (l0_4.length : Int)) = true := decide_eq_true c18; clear c18
          by_cases c19 : 0 ≤ x5_3
          ·rw [if_pos c19] at H
           have c19b0 : decide (0 ≤ x5_3) = true := decide_eq_true c19; clear c19; obtain ⟨t592, A20, H⟩ := bO H
           by_cases c21 : x3_3.length + t592.length < 8796093022208
           ·rw [if_pos c21] at H
            have LMc21 := am c21; clear c21; obtain ⟨y595, hy595⟩ : ∃ y_ : List ByteArray, y_ = (x3_3 ++ t592) := ⟨_, rfl⟩; replace H : (sequiturref14_names.l1 k3 y595 (wrap64 (x5_3 + 1)) a0_0 a0_1 a0_2 l0_3 l0_4) = some r := by first | (rw [hy595]; with_reducible exact H) | (have H2_ := (Option.bind_some _ _).symm.trans H; rw [hy595]; with_reducible exact H2_) | (have H2_ := (Option.bind_some _ _).symm.trans H; with_reducible exact H2_) | with_reducible exact H | (rw [hy595]; exact H) | exact H
            have Ny595 := am hy595; clear hy595; have H' := am H; clear H; obtain ⟨z22_0, z22_1, z22_2, z22_3, z22_4, y22_0, y22_1, y22_2, y22_3, y22_4⟩ := y5 BK580; have p591 : 0 ≤ (x5_3 : Int) := of_decide_eq_true eA; have q591 : x5_3 < (l0_4.length : Int) := of_decide_eq_true eA; obtain ⟨ad591, A591_3, c591_3, A591_4, c591_4, e591, hx591_0, hx591_1, hx591_2, hx591_3, hx591_4, hl591_3, hi591_3, hl591_4, hi591_4⟩ := at_T30 HR0_4.out x5_3 p591 q591
            cases e591
            replace hx591_0 := cX HB hx591_0; replace hx591_1 := cX HB hx591_1; replace hx591_2 := cX HB hx591_2; replace hx591_3 := cX HB hx591_3; replace hx591_4 := cX HB hx591_4; have HR591_3 := am hi591_3; have HC591_3 := am hl591_3; clear hi591_3 hl591_3; have HR591_4 := am hi591_4; have HC591_4 := am hl591_4; clear hi591_4 hl591_4; replace p591 := eq_true p591; replace q591 := eq_true q591
            go_wp2_with (first | ((with_reducible refine gate_callee (f := 55) rfl ?_); refine gL 42 Tryd.func55 #[.agg #[.int .i64 ((rd_T30 l0_4 x5_3).f0), .string ((rd_T30 l0_4 x5_3).f1), .string ((rd_T30 l0_4 x5_3).f2), .slice A591_3 ((rd_T30 l0_4 x5_3).f3).length c591_3, .slice A591_4 ((rd_T30 l0_4 x5_3).f4).length c591_4]] ?_; (with_reducible refine (ih k3 (by have := HJ1.out; have := HK2.out; have := HK3.out; omega) ((rd_T30 l0_4 x5_3).f0) ((rd_T30 l0_4 x5_3).f1) ((rd_T30 l0_4 x5_3).f2) _ _ ((rd_T30 l0_4 x5_3).f3) _ _ ((rd_T30 l0_4 x5_3).f4) t592 _ ?side1 HC591_3.out ?side3 HC591_4.out A20.out).mono ?_); (case side1 => exact cB HR591_3); (case side3 => exact cB HR591_4); rintro e w23 ⟨v593, rfl, ho0, hb⟩; refine ⟨_, rfl, ?_⟩; have HO594 := am (Kd.R_lower (Kd.R_new' ho0 (Kd.R_lt (d6 HO_3))) (below_size bB)); replace HO_3 := am (Kd.R_elder' (d6 HO_3) (Kd.R_base ho0) hb); replace BK580 := bK BK580 hb; replace HB := bH hb; clear hb ho0; obtain ⟨Ao25, co25, eo25⟩ := Kd.R_slice HO594.out; subst eo25) | ((with_reducible refine gate_builtin (b := .append) (xs := #[.tmp 36, .tmp 42]) rfl ?_); at_builtin; refine Kd.R_append_rows Kd.string (w0 := w) w.heap.size rfl (.tmp 36) (.tmp 42) 22 9 (.string ⟨#[]⟩) 16 rfl Tryd.underlying22 info9 rfl (by decide) (by omega) u3 x3_3 t592 _ _ _ (fun k_ => some k_ ≠ (.slice Ao25 t592.length co25 : Value).ownBlock) (fun _ => False) rfl rfl ?aO ?aR (fun _ _ h => h) (fun _ h => h.elim) ?aF ?aB ?aS ?aL ?_; (case aR => repeat (first | exact (Kd.R_reads' HO594.out).2.2 | (with_reducible refine Kd.C_alloc ?_ _) | (with_reducible refine Kd.C_drewN ?_ _) | (with_reducible refine Kd.C_drew ?_))); (case aB => exact bB); (case aF => exact (fun k_ hk => Kd.fresh' (Kd.R_lt (d6 HO594)) k_ hk)); (case aO => exact (by (with_reducible repeat (first | apply Kd.R_alloc | apply Kd.R_drewN | apply Kd.R_drew)); exact Kd.R_mono HO_3.out (fun _ hk => hk.2))); (case aS => exact (below_size bB)); (case aL => have := LMc21.out; omega); intro v596 w24 ho hb hg hat; rw [← Ny595.out] at ho; replace BK580 := am (blk_grown (bD BK580) hg (Kd.R_ne HO_3.out BK580.out (by decide))); replace HO594 := am (Kd.R_after (ok := (fun _ => True)) (d6 HO594) hg hat); replace HB := am (hb); have HO597 := am (ho); clear HO_3; clear ho hb hg hat))
            go_roundg k3
            case measure => have := HJ1.out; have := HK2.out; have := HK3.out; omega
            case rel => exact ⟨(y595), (wrap64 (x5_3 + 1)), eS, H', ⟨by have := HJ1.out; have := HK2.out; have := HK3.out; omega⟩, ⟨by (with_reducible repeat (first | apply Kd.R_alloc | apply Kd.R_drewN | apply Kd.R_drew)); exact Kd.R_mono HO597.out (fun _ hk => trivial)⟩, ⟨bD BK580⟩, ⟨bB⟩⟩
           ·rw [if_neg c21] at H
            exact absurd H (by simp)
          ·rw [if_neg c19] at H
           exact absurd H (by simp)
         ·rw [if_neg c18] at H
          have c18b0 : decide (x5_3 < (l0_4.length : Int)) = false := decide_eq_false c18; clear c18; obtain rfl := Option.some.inj H; obtain ⟨z26_0, z26_1, z26_2, z26_3, z26_4, y26_0, y26_1, y26_2, y26_3, y26_4⟩ := y5 BK580; go_wp2; go_ret; exact ⟨_, eW, by (with_reducible repeat (first | apply Kd.R_alloc | apply Kd.R_drewN | apply Kd.R_drew)); exact HO_3.out, bB⟩
end Go.Proofs.YtmlkllbaehegjaaDoor.PAll
end
section
/- Plain laws: the names a claim holds, gathered in one order by both. -/
namespace Go.Proofs.YtmlkllbaehegjaaDoor.PAll
open Go.RowKit
open Go.Proofs.YtmlkllbaehegjaaDoor
mutual
def nmT : S53 → List ByteArray
  | ⟨op, name, _, l⟩ => (if op = 1 ∨ op = 3 then [name] else []) ++ nmTs l
def nmTs : List S53 → List ByteArray
  | [] => []
  | t :: r => nmT t ++ nmTs r
end
mutual
def nmC : S30 → List ByteArray
  | ⟨op, name, _, l, c⟩ => (if op = 3 then [name] else []) ++ (nmTs l ++ nmCs c)
def nmCs : List S30 → List ByteArray
  | [] => []
  | t :: r => nmC t ++ nmCs r
end
theorem nmT_eq (t : S53) : nmT t = (if t.f0 = 1 ∨ t.f0 = 3 then [t.f1] else []) ++ nmTs t.f3 := by cases t; simp [nmT]
theorem nmC_eq (t : S30) : nmC t = (if t.f0 = 3 then [t.f1] else []) ++ (nmTs t.f3 ++ nmCs t.f4) := by cases t; simp [nmC]
theorem nmTs_drop {l : List S53} {i : Nat} (hi : i < l.length) : nmTs (l.drop i) = nmT l[i] ++ nmTs (l.drop (i + 1)) := by rw [List.drop_eq_getElem_cons hi, nmTs]
theorem nmCs_drop {l : List S30} {i : Nat} (hi : i < l.length) : nmCs (l.drop i) = nmC l[i] ++ nmCs (l.drop (i + 1)) := by rw [List.drop_eq_getElem_cons hi, nmCs]
mutual
theorem nmT_len : ∀ t : S53, (nmT t).length ≤ wT t
  | ⟨op, name, _, l⟩ => by
    have := nmTs_len l
    simp only [nmT, wT, List.length_append]
    split <;> simp <;> omega
theorem nmTs_len : ∀ l : List S53, (nmTs l).length ≤ wTs l
  | [] => by simp [nmTs]
  | t :: r => by
    have := nmT_len t
    have := nmTs_len r
    simp only [nmTs, wTs, List.length_append]
    omega
end
mutual
theorem nmC_len : ∀ t : S30, (nmC t).length ≤ wC t
  | ⟨op, name, _, l, c⟩ => by
    have := nmTs_len l
    have := nmCs_len c
    simp only [nmC, wC, List.length_append]
    split <;> simp <;> omega
theorem nmCs_len : ∀ l : List S30, (nmCs l).length ≤ wCs l
  | [] => by simp [nmCs]
  | t :: r => by
    have := nmC_len t
    have := nmCs_len r
    simp only [nmCs, wCs, List.length_append]
    omega
end
/-! ### the document's -/
theorem termNames_ev : ∀ (N : Nat) (t : S53), wT t ≤ N → N ≤ 100000 → Ev (fun k => sequiturref14_termNames.f k t.f0 t.f1 t.f2 t.f3) (nmT t)
  | 0, t, h, _ => by
    have := wT_pos t
    omega
  | N + 1, t, h, hN => by
    rw [wT_eq] at h
    have hl := wTs_len t.f3
    have loop : ∀ (j i : Nat) (x : List ByteArray), i + j = t.f3.length → x.length + wTs (t.f3.drop i) ≤ 200000 → Ev (fun k => sequiturref14_termNames.l0 k x (i : Int) t.f0 t.f1 t.f2 t.f3) (x ++ nmTs (t.f3.drop i)) := by
      intro j
      induction j with
      | zero =>
        intro i x hi hx
        refine Ev.step ?_
        simp only [sequiturref14_termNames.l0]
        rw [List.drop_eq_nil_of_le (by omega), nmTs, List.append_nil]
        exact Ev.neg (by omega) (Ev.const _)
      | succ j ih =>
        intro i x hi hx
        have hlt : i < t.f3.length := by omega
        have hw := wT_mem hlt
        have hn := nmT_len t.f3[i]
        rw [wTs_drop hlt] at hx
        refine Ev.step ?_
        simp only [sequiturref14_termNames.l0]
        rw [rdT hlt, wrapN (x := (i : Int) + 1) (n := i + 1) (by omega) (by omega)]
        refine Ev.pos (by omega) (Ev.pos (by omega) (Ev.bind (termNames_ev N t.f3[i] (by omega) (by omega)) (Ev.pos (by omega) ?_)))
        refine (ih (i + 1) (x ++ nmT t.f3[i]) (by omega) (by rw [List.length_append]; omega)).eq ?_
        rw [nmTs_drop hlt, List.append_assoc]
    have j1 : ∀ x : List ByteArray, x.length ≤ 1 → Ev (fun k => sequiturref14_termNames.j1 k x t.f0 t.f1 t.f2 t.f3) (x ++ nmTs t.f3) := by
      intro x hx
      refine Ev.step ?_
      simp only [sequiturref14_termNames.j1]
      exact loop t.f3.length 0 x (by omega) (by rw [List.drop_zero]; omega)
    have j0 : ∀ b : Bool, b = decide (t.f0 = 1 ∨ t.f0 = 3) → Ev (fun k => sequiturref14_termNames.j0 k ([] : List ByteArray) b t.f0 t.f1 t.f2 t.f3) (nmT t) := by
      intro b hb
      refine Ev.step ?_
      simp only [sequiturref14_termNames.j0]
      rw [nmT_eq]
      by_cases q : t.f0 = 1 ∨ t.f0 = 3
      · rw [decide_eq_true q] at hb
        rw [if_pos q]
        exact Ev.pos hb (Ev.pos (by simp) (j1 _ (by simp)))
      · rw [decide_eq_false q] at hb
        rw [if_neg q]
        exact Ev.neg (by simp [hb]) (j1 _ (by simp))
    refine Ev.step ?_
    simp only [sequiturref14_termNames.f]
    by_cases q : t.f0 = 1
    · exact Ev.pos q (j0 true (decide_eq_true (.inl q)).symm)
    · refine Ev.neg q (j0 _ ?_)
      by_cases q3 : t.f0 = 3
      · rw [q3]; rfl
      · rw [beq_eq_false_iff_ne.mpr q3]
        exact (decide_eq_false (by omega)).symm
theorem names_ev : ∀ (N : Nat) (t : S30), wC t ≤ N → N ≤ 100000 → Ev (fun k => sequiturref14_names.f k t.f0 t.f1 t.f2 t.f3 t.f4) (nmC t)
  | 0, t, h, _ => by
    have := wC_pos t
    omega
  | N + 1, t, h, hN => by
    rw [wC_eq] at h
    have hl := wTs_len t.f3
    have hl4 := wCs_len t.f4
    have loop1 : ∀ (j i : Nat) (x : List ByteArray), i + j = t.f4.length → x.length + wCs (t.f4.drop i) ≤ 300000 → Ev (fun k => sequiturref14_names.l1 k x (i : Int) t.f0 t.f1 t.f2 t.f3 t.f4) (x ++ nmCs (t.f4.drop i)) := by
      intro j
      induction j with
      | zero =>
        intro i x hi hx
        refine Ev.step ?_
        simp only [sequiturref14_names.l1]
        rw [List.drop_eq_nil_of_le (by omega), nmCs, List.append_nil]
        exact Ev.neg (by omega) (Ev.const _)
      | succ j ih =>
        intro i x hi hx
        have hlt : i < t.f4.length := by omega
        have hw := wC_mem hlt
        have hn := nmC_len t.f4[i]
        rw [wCs_drop hlt] at hx
        refine Ev.step ?_
        simp only [sequiturref14_names.l1]
        rw [rdC hlt, wrapN (x := (i : Int) + 1) (n := i + 1) (by omega) (by omega)]
        refine Ev.pos (by omega) (Ev.pos (by omega) (Ev.bind (names_ev N t.f4[i] (by omega) (by omega)) (Ev.pos (by omega) ?_)))
        refine (ih (i + 1) (x ++ nmC t.f4[i]) (by omega) (by rw [List.length_append]; omega)).eq ?_
        rw [nmCs_drop hlt, List.append_assoc]
    have loop : ∀ (j i : Nat) (x : List ByteArray), i + j = t.f3.length → x.length + wTs (t.f3.drop i) ≤ 150000 → Ev (fun k => sequiturref14_names.l0 k x (i : Int) t.f0 t.f1 t.f2 t.f3 t.f4) (x ++ (nmTs (t.f3.drop i) ++ nmCs t.f4)) := by
      intro j
      induction j with
      | zero =>
        intro i x hi hx
        refine Ev.step ?_
        simp only [sequiturref14_names.l0]
        rw [List.drop_eq_nil_of_le (by omega), nmTs, List.nil_append]
        refine Ev.neg (by omega) ?_
        exact loop1 t.f4.length 0 x (by omega) (by rw [List.drop_zero]; omega)
      | succ j ih =>
        intro i x hi hx
        have hlt : i < t.f3.length := by omega
        have hw := wT_mem hlt
        have hn := nmT_len t.f3[i]
        rw [wTs_drop hlt] at hx
        refine Ev.step ?_
        simp only [sequiturref14_names.l0]
        rw [rdT hlt, wrapN (x := (i : Int) + 1) (n := i + 1) (by omega) (by omega)]
        refine Ev.pos (by omega) (Ev.pos (by omega) (Ev.bind (termNames_ev N t.f3[i] (by omega) (by omega)) (Ev.pos (by omega) ?_)))
        refine (ih (i + 1) (x ++ nmT t.f3[i]) (by omega) (by rw [List.length_append]; omega)).eq ?_
        rw [nmTs_drop hlt, List.append_assoc, List.append_assoc]
    have j0 : ∀ x : List ByteArray, x.length ≤ 1 → Ev (fun k => sequiturref14_names.j0 k x t.f0 t.f1 t.f2 t.f3 t.f4) (x ++ (nmTs t.f3 ++ nmCs t.f4)) := by
      intro x hx
      refine Ev.step ?_
      simp only [sequiturref14_names.j0]
      exact loop t.f3.length 0 x (by omega) (by rw [List.drop_zero]; omega)
    refine Ev.step ?_
    simp only [sequiturref14_names.f]
    rw [nmC_eq]
    by_cases q : t.f0 = 3
    · rw [if_pos q]
      exact Ev.pos q (Ev.pos (by simp) (j0 _ (by simp)))
    · rw [if_neg q]
      exact Ev.neg q (j0 _ (by simp))
/-! ### the program's -/
theorem shower_term_ev : ∀ (N : Nat) (t : S53), wT t ≤ N → N ≤ 100000 → ∀ s : List ByteArray, s.length + wT t ≤ 500000 → Ev (fun k => shower_term.f k s t.f0 t.f1 t.f2 t.f3) (s ++ nmT t)
  | 0, t, h, _, _, _ => by
    have := wT_pos t
    omega
  | N + 1, t, h, hN, s, hs => by
    rw [wT_eq] at h hs
    have hl2 := wTs_len t.f3
    have loop : ∀ (j i : Nat) (x : List ByteArray), i + j = t.f3.length → x.length + wTs (t.f3.drop i) ≤ 500000 → Ev (fun k => shower_term.l0 k x t.f3 (i : Int)) (x ++ nmTs (t.f3.drop i)) := by
      intro j
      induction j with
      | zero =>
        intro i x hi hx
        refine Ev.step ?_
        simp only [shower_term.l0]
        rw [List.drop_eq_nil_of_le (by omega), nmTs, List.append_nil]
        exact Ev.neg (by omega) (Ev.const _)
      | succ j ih =>
        intro i x hi hx
        have hlt : i < t.f3.length := by omega
        have hw := wT_mem hlt
        have hn := nmT_len t.f3[i]
        rw [wTs_drop hlt] at hx
        refine Ev.step ?_
        simp only [shower_term.l0]
        rw [rdT hlt, wrapN (x := (i : Int) + 1) (n := i + 1) (by omega) (by omega)]
        refine Ev.pos (by omega) (Ev.pos (by omega) (Ev.bind (shower_term_ev N t.f3[i] (by omega) (by omega) x (by omega)) ?_))
        refine (ih (i + 1) (x ++ nmT t.f3[i]) (by omega) (by rw [List.length_append]; omega)).eq ?_
        rw [nmTs_drop hlt, List.append_assoc]
    refine Ev.step ?_
    simp only [shower_term.f]
    rw [nmT_eq]
    by_cases q : t.f0 = 1 ∨ t.f0 = 3
    · rw [if_pos q]
      refine Ev.pos q (Ev.pos (by omega) ?_)
      have := loop t.f3.length 0 (s ++ [t.f1]) (by omega) (by rw [List.drop_zero, List.length_append, List.length_singleton]; omega)
      rw [List.drop_zero, List.append_assoc] at this
      exact this
    · rw [if_neg q]
      refine Ev.neg q ?_
      have := loop t.f3.length 0 s (by omega) (by rw [List.drop_zero]; omega)
      rw [List.drop_zero] at this
      rw [List.nil_append]
      exact this
theorem shower_claim_ev : ∀ (N : Nat) (t : S30), wC t ≤ N → N ≤ 100000 → ∀ s : List ByteArray, s.length + wC t ≤ 400000 → Ev (fun k => shower_claim.f k s t.f0 t.f1 t.f2 t.f3 t.f4) (s ++ nmC t)
  | 0, t, h, _, _, _ => by
    have := wC_pos t
    omega
  | N + 1, t, h, hN, s, hs => by
    rw [wC_eq] at h hs
    have hl2 := wTs_len t.f3
    have hl4 := wCs_len t.f4
    have hn3 := nmTs_len t.f3
    have loop1 : ∀ (j i : Nat) (x : List ByteArray), i + j = t.f4.length → x.length + wCs (t.f4.drop i) ≤ 400000 → Ev (fun k => shower_claim.l1 k x t.f4 (i : Int)) (x ++ nmCs (t.f4.drop i)) := by
      intro j
      induction j with
      | zero =>
        intro i x hi hx
        refine Ev.step ?_
        simp only [shower_claim.l1]
        rw [List.drop_eq_nil_of_le (by omega), nmCs, List.append_nil]
        exact Ev.neg (by omega) (Ev.const _)
      | succ j ih =>
        intro i x hi hx
        have hlt : i < t.f4.length := by omega
        have hw := wC_mem hlt
        have hn := nmC_len t.f4[i]
        rw [wCs_drop hlt] at hx
        refine Ev.step ?_
        simp only [shower_claim.l1]
        rw [rdC hlt, wrapN (x := (i : Int) + 1) (n := i + 1) (by omega) (by omega)]
        refine Ev.pos (by omega) (Ev.pos (by omega) (Ev.bind (shower_claim_ev N t.f4[i] (by omega) (by omega) x (by omega)) ?_))
        refine (ih (i + 1) (x ++ nmC t.f4[i]) (by omega) (by rw [List.length_append]; omega)).eq ?_
        rw [nmCs_drop hlt, List.append_assoc]
    have loop : ∀ (j i : Nat) (x : List ByteArray), i + j = t.f3.length → x.length + wTs (t.f3.drop i) ≤ 400000 → Ev (fun k => shower_term.l0 k x t.f3 (i : Int)) (x ++ nmTs (t.f3.drop i)) := by
      intro j
      induction j with
      | zero =>
        intro i x hi hx
        refine Ev.step ?_
        simp only [shower_term.l0]
        rw [List.drop_eq_nil_of_le (by omega), nmTs, List.append_nil]
        exact Ev.neg (by omega) (Ev.const _)
      | succ j ih =>
        intro i x hi hx
        have hlt : i < t.f3.length := by omega
        have hw := wT_mem hlt
        have hn := nmT_len t.f3[i]
        rw [wTs_drop hlt] at hx
        refine Ev.step ?_
        simp only [shower_term.l0]
        rw [rdT hlt, wrapN (x := (i : Int) + 1) (n := i + 1) (by omega) (by omega)]
        refine Ev.pos (by omega) (Ev.pos (by omega) (Ev.bind (shower_term_ev N t.f3[i] (by omega) (by omega) x (by omega)) ?_))
        refine (ih (i + 1) (x ++ nmT t.f3[i]) (by omega) (by rw [List.length_append]; omega)).eq ?_
        rw [nmTs_drop hlt, List.append_assoc]
    refine Ev.step ?_
    simp only [shower_claim.f]
    refine Ev.bind (a := s ++ (if t.f0 = 3 then [t.f1] else [])) ?_ ?_
    · by_cases q : t.f0 = 3
      · exact (Ev.pos q (Ev.pos (by omega) (Ev.const _))).eq (by rw [if_pos q])
      · exact (Ev.neg q (Ev.const _)).eq (by rw [if_neg q, List.append_nil])
    · obtain ⟨y, hy⟩ : ∃ y : List ByteArray, y = (if t.f0 = 3 then [t.f1] else []) := ⟨_, rfl⟩
      have hyl : y.length ≤ 1 := by rw [hy]; split <;> simp
      rw [nmC_eq, ← hy]
      have h1 := loop t.f3.length 0 (s ++ y) (by omega) (by rw [List.drop_zero, List.length_append]; omega)
      rw [List.drop_zero] at h1
      have h2 := loop1 t.f4.length 0 ((s ++ y) ++ nmTs t.f3) (by omega) (by rw [List.drop_zero, List.length_append, List.length_append]; omega)
      rw [List.drop_zero] at h2
      refine Ev.bind h1 (h2.eq ?_)
      simp only [List.append_assoc]
end Go.Proofs.YtmlkllbaehegjaaDoor.PAll
end
section
namespace Go.Proofs.YtmlkllbaehegjaaDoor
open Go Go.RowKit
def letterI (c : Int) : Bool := (decide (65 ≤ c) && decide (c ≤ 90)) || (decide (97 ≤ c) && decide (c ≤ 122)) || c == 95
def innerI (c : Int) : Bool := letterI c || (decide (48 ≤ c) && decide (c ≤ 57)) || c == 39
def nameB (l : List UInt8) : Bool := !l.isEmpty && decide (l.length ≤ 32) && letterI (l.headD 0).toNat && l.all fun b => innerI b.toNat
theorem size_list (s : ByteArray) : s.data.toList.length = s.size := Array.length_toList ..
theorem ret_int {k : IntKind} {a b : Int} (h : a = b) : Ending.returned (.int k a) = .returned (.int k b) := by rw [h]
theorem ret_bool {a b : Bool} (h : a = b) : Ending.returned (.bool a) = .returned (.bool b) := by rw [h]
theorem letter_any (c : Int) (w : World) : Calls Tryd.prog 76 #[.int .u8 c] w fun e w' => e = .returned (.bool (letterI c)) ∧ w = w' := by
  have H : letterI c = ((decide (65 ≤ c) && decide (c ≤ 90)) || (decide (97 ≤ c) && decide (c ≤ 122)) || c == 95) := rfl
  generalize letterI c = r at H
  by_cases h1 : 65 ≤ c <;> by_cases h2 : c ≤ 90 <;> by_cases h3 : 97 ≤ c <;> by_cases h4 : c ≤ 122 <;> by_cases h5 : c = 95 <;> simp [h1, h2, h3, h4, h5] at H <;> subst H <;> first | omega | skip
  all_goals
    go_enter Tryd.func76, Tryd.ntmps76
    go_wp2
    go_ret
    exact ⟨rfl, rfl⟩
theorem digit_any (c : Int) (w : World) : Calls Tryd.prog 90 #[.int .u8 c] w fun e w' => e = .returned (.bool (decide (48 ≤ c) && decide (c ≤ 57))) ∧ w = w' := by
  go_enter Tryd.func90, Tryd.ntmps90
  by_cases h1 : 48 ≤ c <;> by_cases h2 : c ≤ 57 <;> go_wp2 <;> go_ret <;> exact ⟨by simp [*], rfl⟩
theorem inner_any (c : Int) (w : World) : Calls Tryd.prog 78 #[.int .u8 c] w fun e w' => e = .returned (.bool (innerI c)) ∧ w = w' := by
  unfold innerI
  go_enter Tryd.func78, Tryd.ntmps78
  go_wp2_with (first | (go_at_call 76; refine (letter_any _ _).mono ?_; rintro e w' ⟨rfl, rfl⟩) | (go_at_call 90; refine (digit_any _ _).mono ?_; rintro e w' ⟨rfl, rfl⟩))
  all_goals go_ret
  · exact ⟨by simp [*], rfl⟩
  · rename_i h1 h2
    exact ⟨ret_bool (by rw [Bool.not_eq_true] at h1; rw [h1]; rcases h2 with h | h <;> simp <;> omega), rfl⟩
  · rename_i h1 h2
    exact ⟨ret_bool (by rw [Bool.not_eq_true] at h1; rw [h1]; simp; omega), rfl⟩
theorem take_all_step (l : List UInt8) (k : Nat) (hk : k < l.length) (h : (l.take k).all (fun b => innerI b.toNat) = true) (hb : innerI (l[k].toNat) = true) : (l.take (k + 1)).all (fun b => innerI b.toNat) = true := by
  rw [List.take_succ_eq_append_getElem hk, List.all_append, h]
  simp [hb]
theorem takeWhile_at (l : List UInt8) (k : Nat) (hk : k ≤ l.length) (h : (l.take k).all (fun b => innerI b.toNat) = true) (he : k = l.length ∨ ∃ hk : k < l.length, innerI (l[k].toNat) = false) : (l.takeWhile fun b => innerI b.toNat).length = k := by
  have e : l = l.take k ++ l.drop k := (List.take_append_drop k l).symm
  rw [e, List.takeWhile_append_of_pos (by simpa using h)]
  have : (l.drop k).takeWhile (fun b => innerI b.toNat) = [] := by
    rcases he with he | ⟨hk, hb⟩
    · simp [he]
    · rw [List.drop_eq_getElem_cons hk, List.takeWhile_cons_of_neg (by rw [hb]; exact Bool.false_ne_true)]
  rw [this]; simp; omega
theorem run_any (s : ByteArray) (hs : s.size ≤ 1000) (w : World) : Calls Tryd.prog 77 #[.string s, .int .i64 0, .func (.func 78) #[] #[]] w fun e w' => e = .returned (.int .i64 (s.data.toList.takeWhile fun b => innerI b.toNat).length) ∧ w = w' := by
  go_enter Tryd.func77, Tryd.ntmps77
  go_wp2
  go_loop [7] (fun n => ∃ k : Nat, k ≤ s.size ∧ n = .int .i64 k ∧ Hid ((s.data.toList.take k).all (fun b => innerI b.toNat) = true)) (fun n => s.size - (intOf n).toNat)
  case atStart => exact ⟨0, Nat.zero_le _, rfl, Lib.hid rfl⟩
  case round =>
    obtain ⟨k, hk, rfl, hall⟩ := hrel
    by_cases hlt : k < s.size
    · have hl : k < s.data.toList.length := by simpa using hlt
      go_wp2_with (go_at_call 78; refine (inner_any _ _).mono ?_; rintro e w' ⟨rfl, rfl⟩)
      · rename_i h1
        exact ⟨⟨k + 1, by omega, by go_num, Lib.hid (take_all_step _ _ hl hall.out h1)⟩, by simp [intOf]; omega⟩
      · rename_i h1
        go_ret
        exact ⟨ret_int (by rw [takeWhile_at _ k (by omega) hall.out (.inr ⟨hl, h1⟩)]), rfl⟩
    · go_wp2
      go_ret
      have hk' : k = s.data.toList.length := by have := size_list s; omega
      exact ⟨ret_int (by rw [takeWhile_at _ k (by omega) hall.out (.inl hk')]), rfl⟩
theorem takeWhile_all (l : List UInt8) : ((((l.takeWhile fun b => innerI b.toNat).length : Int)) == (l.length : Int)) = l.all (fun b => innerI b.toNat) := by
  induction l with
  | nil => rfl
  | cons b l ih =>
    cases h : innerI b.toNat with
    | true => rw [List.takeWhile_cons_of_pos (by exact h), List.all_cons, h, Bool.true_and, ← ih, Bool.eq_iff_iff]; simp only [List.length_cons, beq_iff_eq]; omega
    | false =>
      rw [List.takeWhile_cons_of_neg (by rw [h]; exact Bool.false_ne_true), List.all_cons, h, Bool.false_and, beq_eq_false_iff_ne]
      simp only [List.length_nil, List.length_cons]; omega
def token_Name.f (a0 : ByteArray) : Option Bool := some (nameB a0.data.toList)
theorem nameB_nil {s : ByteArray} (h : s.toList = []) : nameB s.data.toList = false := by
  have : s.data.toList = [] := by rw [← ByteArray.toList_eq]; exact h
  rw [this]; rfl
theorem nameB_long {s : ByteArray} (h : 32 < s.size) : nameB s.data.toList = false := by
  have hlen : s.data.toList.length = s.size := size_list _
  have : decide (s.data.toList.length ≤ 32) = false := by simp only [decide_eq_false_iff_not]; omega
  unfold nameB; rw [this]; simp
theorem headD_zero {s : ByteArray} (h : 0 < s.size) : s.data.toList.headD 0 = s[0] := by
  have hlen : s.data.toList.length = s.size := size_list _
  have : s.data.toList ≠ [] := fun e => by rw [e] at hlen; simp at hlen; omega
  cases hl : s.data.toList with
  | nil => exact absurd hl this
  | cons b l =>
    have : s[0] = s.data.toList[0]'(by omega) := rfl
    rw [this]; simp [hl]
theorem nameB_head {s : ByteArray} (h : 0 < s.size) (hb : letterI (s[0].toNat) = false) : nameB s.data.toList = false := by
  unfold nameB; rw [headD_zero h, hb]; simp
theorem nameB_all {s : ByteArray} (h : 0 < s.size) (h1 : s.size ≤ 32) (hb : letterI (s[0].toNat) = true) : nameB s.data.toList = (((s.data.toList.takeWhile fun b => innerI b.toNat).length : Int) == (s.size : Int)) := by
  have hlen : s.data.toList.length = s.size := size_list _
  have h2 : decide (s.data.toList.length ≤ 32) = true := by simp only [decide_eq_true_eq]; omega
  have h3 : s.data.toList.isEmpty = false := by
    cases hl : s.data.toList with
    | nil => rw [hl] at hlen; simp at hlen; omega
    | cons b l => rfl
  have := takeWhile_all s.data.toList
  rw [hlen] at this
  unfold nameB; rw [headD_zero h, hb, h2, h3, this]; simp
theorem token_Name.calls (a0 : ByteArray) (r : Bool) (w : World) (h : token_Name.f a0 = some r) : Calls Tryd.prog 65 #[.string a0] w fun e w' => e = .returned (.bool r) ∧ Below w.heap.size w w' := by
  have H := Lib.hid (Option.some.inj h)
  clear h
  by_cases h0 : a0.size = 0
  · have he : a0.toList = [] := by
      have hlen : a0.data.toList.length = a0.size := size_list _
      rw [ByteArray.toList_eq]
      exact List.eq_nil_of_length_eq_zero (by omega)
    go_enter Tryd.func65, Tryd.ntmps65
    go_wp2
    go_ret
    exact ⟨ret_bool (by rw [← H.out, nameB_nil he]), Below.refl _ _⟩
  · have hne : ¬ a0.toList = [] := fun e => h0 (by
      have : a0.data.toList.length = a0.size := size_list _
      rw [ByteArray.toList_eq] at e
      rw [e] at this; simp at this; omega)
    by_cases h1 : a0.size ≤ 32
    · have hp : 0 < a0.size := by omega
      clear h0
      go_enter Tryd.func65, Tryd.ntmps65
      go_wp2_with (first | (go_at_call 76; refine (letter_any _ _).mono ?_; rintro e w' ⟨rfl, rfl⟩) | (go_at_call 77; refine (run_any _ (by omega) _).mono ?_; rintro e w' ⟨rfl, rfl⟩))
      all_goals go_ret
      · rename_i _ hb
        exact ⟨ret_bool (by
          rw [← H.out, nameB_all hp (by omega) hb]
          have : a0.toList.isEmpty = false := by cases hl : a0.toList with
            | nil => exact absurd hl hne
            | cons b l => rfl
          rw [this]; simp), Below.refl _ _⟩
      · rename_i _ hb
        exact ⟨ret_bool (by rw [← H.out, nameB_head hp (by simpa using hb)]), Below.refl _ _⟩
    · have hl := nameB_long (s := a0) (by omega)
      have Hl := Lib.hid hl
      clear hl
      go_enter Tryd.func65, Tryd.ntmps65
      go_wp2
      go_ret
      exact ⟨ret_bool (by rw [← H.out, Hl.out]), Below.refl _ _⟩
end Go.Proofs.YtmlkllbaehegjaaDoor
end
section
namespace Go.Proofs.YtmlkllbaehegjaaDoor
open Go Go.RowKit Go.Maps Go.WideMaps
def wordsL : List ByteArray := [⟨#[116, 114, 117, 101]⟩, ⟨#[102, 97, 108, 115, 101]⟩, ⟨#[115, 111, 114, 116]⟩, ⟨#[102, 117, 110]⟩, ⟨#[112, 114, 101, 100]⟩, ⟨#[97, 120, 105, 111, 109]⟩, ⟨#[116, 104, 101, 111, 114, 101, 109]⟩, ⟨#[112, 114, 111, 111, 102]⟩, ⟨#[113, 101, 100]⟩, ⟨#[97, 115]⟩, ⟨#[98, 97, 99, 107]⟩, ⟨#[105, 110, 116, 114, 111]⟩, ⟨#[115, 112, 108, 105, 116]⟩, ⟨#[108, 101, 102, 116]⟩, ⟨#[114, 105, 103, 104, 116]⟩, ⟨#[101, 120, 97, 99, 116]⟩, ⟨#[97, 115, 115, 117, 109, 101]⟩, ⟨#[97, 112, 112, 108, 121]⟩, ⟨#[119, 105, 116, 110, 101, 115, 115]⟩, ⟨#[99, 97, 115, 101, 115]⟩, ⟨#[104, 97, 118, 101]⟩, ⟨#[99, 111, 110, 116, 114, 97]⟩, ⟨#[114, 101, 102, 108]⟩, ⟨#[115, 119, 97, 112]⟩, ⟨#[112, 114, 111, 112]⟩, ⟨#[97, 114, 105, 116, 104]⟩, ⟨#[109, 105, 120, 101, 100]⟩, ⟨#[97, 117, 116, 111]⟩, ⟨#[99, 111, 110, 103, 114]⟩, ⟨#[116, 114, 121]⟩, ⟨#[108, 111, 111, 112]⟩, ⟨#[101, 97, 99, 104]⟩, ⟨#[115, 107, 105, 112]⟩, ⟨#[102, 97, 105, 108]⟩]
def wordsB : List UInt8 := [116, 114, 117, 101, 32, 102, 97, 108, 115, 101, 32, 115, 111, 114, 116, 32, 102, 117, 110, 32, 112, 114, 101, 100, 32, 97, 120, 105, 111, 109, 32, 116, 104, 101, 111, 114, 101, 109, 32, 112, 114, 111, 111, 102, 32, 113, 101, 100, 32, 97, 115, 32, 98, 97, 99, 107, 32, 105, 110, 116, 114, 111, 32, 115, 112, 108, 105, 116, 32, 108, 101, 102, 116, 32, 114, 105, 103, 104, 116, 32, 101, 120, 97, 99, 116, 32, 97, 115, 115, 117, 109, 101, 32, 97, 112, 112, 108, 121, 32, 119, 105, 116, 110, 101, 115, 115, 32, 99, 97, 115, 101, 115, 32, 104, 97, 118, 101, 32, 99, 111, 110, 116, 114, 97, 32, 114, 101, 102, 108, 32, 115, 119, 97, 112, 32, 112, 114, 111, 112, 32, 97, 114, 105, 116, 104, 32, 109, 105, 120, 101, 100, 32, 97, 117, 116, 111, 32, 99, 111, 110, 103, 114, 32, 116, 114, 121, 32, 108, 111, 111, 112, 32, 101, 97, 99, 104, 32, 115, 107, 105, 112, 32, 102, 97, 105, 108]
theorem fields_words : Lib.fields wordsB = wordsL.map (fun s => s.data.toList) := by decide +kernel
theorem ascii_words : wordsB.all (fun b => decide (b.toNat < 128)) = true := by decide +kernel
theorem wordsL_len : wordsL.length = 34 := rfl
theorem wordsL_small : wordsL.all (fun s => decide (s.size ≤ 10)) = true := by decide +kernel
def FieldsPost (w : World) (e : Ending) (w' : World) : Prop := ∃ ws : List ByteArray, e = .returned (.slice (some ⟨w.heap.size, 0, none⟩) ws.length ws.length) ∧ w' = w.alloc (.cells (ws.map Value.string).toArray 9) ∧ ws = wordsL
theorem fields_any (s : ByteArray) (hs : s.data.toList = wordsB) (w : World) (hG : Laid w) : Calls Tryd.prog 91 #[.string s] w (FieldsPost w) := by
  have hsz : s.size = wordsB.length := by rw [← hs]; exact (Array.length_toList ..).symm
  refine (Tryd.strings_Fields s w (by rw [hsz]; decide +kernel) ?_ hG.space).mono ?_
  · intro j b hb
    rw [hs] at hb
    have := List.all_eq_true.mp ascii_words b (List.mem_of_getElem? hb)
    simpa using this
  · rintro e w' ⟨rfl, rfl⟩
    refine ⟨wordsL, ?_, ?_, rfl⟩
    · rw [hs, fields_words, List.length_map]
    · rw [hs, fields_words, List.map_map]
      rfl
def C (ws : List ByteArray) (k : Nat) : DataW Unit := (ws.take k).foldl (fun D s => D.put (.string s.data.toList) (.lit (.bool true))) (.map [])
theorem C_step (ws : List ByteArray) (k : Nat) (hk : k < ws.length) : C ws (k + 1) = (C ws k).put (.string ws[k].data.toList) (.lit (.bool true)) := by
  unfold C
  rw [List.take_succ_eq_append_getElem hk, List.foldl_append]
  rfl
def wordB (l : List UInt8) : Bool := wordsL.any fun s => s.data.toList == l
theorem fold_at (ws : List ByteArray) (l : List UInt8) : ∀ (D : DataW Unit) (b : Bool), IsMap D → D.atKey (.string l) (.lit (.bool false)) = .lit (.bool b) →
    (ws.foldl (fun D s => D.put (.string s.data.toList) (.lit (.bool true))) D).atKey (.string l) (.lit (.bool false)) = .lit (.bool (b || ws.any fun s => s.data.toList == l)) := by
  induction ws with
  | nil => intro D b _ h; simpa using h
  | cons s r ih =>
    intro D b hD h
    by_cases hs : s.data.toList = l
    · have := ih (D.put (.string s.data.toList) (.lit (.bool true))) true (hD.put _ _) (by rw [hs]; exact atKey_put_same hD (by simp [WideAt.IsKeyLit]) _ _)
      simp only [List.foldl_cons, List.any_cons]
      rw [this, beq_iff_eq.mpr hs]; simp
    · have := ih (D.put (.string s.data.toList) (.lit (.bool true))) b (hD.put _ _) (by rw [atKey_put_other (by intro e; injection e with e; exact hs e.symm)]; exact h)
      simp only [List.foldl_cons, List.any_cons]
      rw [this, beq_eq_false_iff_ne.mpr hs, Bool.false_or]
theorem C_at (l : List UInt8) : (C wordsL wordsL.length).atKey (.string l) (.lit (.bool false)) = .lit (.bool (wordB l)) := by
  unfold C wordB
  rw [List.take_length, fold_at wordsL l (.map []) false isMap_empty rfl]
  simp
theorem law9 : Keyed Tryd.prog 9 := string_keyed Tryd.underlying9
theorem zero4 (w : World) : (zeroValue 4).run Tryd.prog w = .ok (.bool false) w := by kernel_rfl
def KnownPost (w : World) (e : Ending) (w' : World) : Prop := ∃ b n, e = .returned (.map (some b)) ∧ w'.ownsMap Tryd.prog 9 (plainElem Tryd.prog 4) b n (C wordsL wordsL.length) ∧ Below w.heap.size w w'
set_option maxRecDepth 100000 in
theorem known_any (w : World) (hG : Laid w) : Calls Tryd.prog 79 #[] w (KnownPost w) := by
  have HG := Lib.hid hG
  clear hG
  have hmm := @run_makeMap Tryd.prog
  go_enter Tryd.func79, Tryd.ntmps79
  go_wp2_with (go_at_call 91; refine (fields_any _ (by decide +kernel) _ (Laid.below HG.out ((Below.refl _ _).alloc (Nat.le_refl _) _))).mono ?_; rintro e w' ⟨ws, rfl, rfl, hws⟩; have Hws := Lib.hid hws; clear hws)
  have hlen : ws.length = 34 := by rw [Hws.out]; rfl
  have hlen2 : ws.length ≤ 34 := by omega
  have hsmall : ∀ k (h : k < ws.length), ws[k].size ≤ 10 := by
    intro k h
    have := List.all_eq_true.mp wordsL_small ws[k] (by have := Hws.out; subst this; exact List.getElem_mem h)
    simpa using this
  have Hsmall := Lib.hid hsmall
  clear hlen hsmall
  go_loopw [7] (fun i wr => ∃ k : Nat, k ≤ ws.length ∧ i = .int .i64 k ∧ wr.ownsMap Tryd.prog 9 (plainElem Tryd.prog 4) w.heap.size k (C ws k) ∧ Below w.heap.size w wr ∧ wr.heap[w.heap.size + 1]? = some (.cells (ws.map Value.string).toArray 9 (0, 0)))
    (fun i _ => ws.length - (intOf i).toNat)
  case atStart =>
    refine ⟨0, Nat.zero_le _, rfl, (World.ownsMap_made w Tryd.prog 9 _).alloc _, ((Below.refl _ _).alloc (Nat.le_refl _) _).alloc (by simp) _, ?_⟩
    have h1 : (w.alloc (.map #[] 0)).heap.size = w.heap.size + 1 := by simp
    rw [← h1]
    exact (MapKept.heap_alloc _ _).1
  case round =>
    obtain ⟨k, hk, rfl, hown, hb, hcells⟩ := hrel
    by_cases hlt : k < ws.length
    · obtain ⟨s, hs⟩ : ∃ s, s = ws[k] := ⟨_, rfl⟩
      have hcell : wr.cell? ⟨w.heap.size + 1, k, none⟩ = some (.string s) := by
        rw [hs, cell_of_row wr _ k _ _ _ hcells]
        simp [hlt]
      have hkey : keyOf Tryd.prog 9 (.string s) = some (.string s.data.toList) := keyOf_string_mk Tryd.underlying9 (by rw [hs]; have := Hsmall.out k hlt; unfold maxLen; omega)
      have Hs := Lib.hid hs
      clear hs
      go_wp2_with (at_mapUpdate; refine wpList_mapUpdate_own _ rfl _ _ _ 106 rfl 9 4 law9 Tryd.underlying106 _ w.heap.size k _ rfl hown (by unfold maxLen; omega) _ _ _ rfl rfl hkey _ [] (by rfl) ?_)
      intro w1 hown1 hgrow1
      have R1 := (C_step ws k hlt).symm
      rw [← Hs.out] at R1
      rw [R1] at hown1
      have R2 := hb.grown hgrow1 hb.size (fun j hj => by cases hj; exact Nat.le_refl _)
      have R3 : w1.heap[w.heap.size + 1]? = some (.cells (ws.map Value.string).toArray 9 (0, 0)) := (hgrow1.block _ (Array.getElem?_eq_some_iff.1 hcells).1 (by simp)).trans hcells
      have H1 := Lib.hid hown1
      have H2 := Lib.hid R2
      have H3 := Lib.hid R3
      clear R1 hown1 hgrow1 hown R2 R3 hcells hb hcell hkey
      go_wp2
      go_roundw
      case rel => exact ⟨k + 1, by omega, by go_num, H1.out, H2.out, H3.out⟩
      case measure => simp [intOf]; omega
    · have hkl : k = ws.length := by omega
      subst hkl
      go_wp2
      go_ret
      have e := Hws.out
      subst e
      exact ⟨w.heap.size, _, rfl, hown, hb⟩
theorem elem_bool {P : Program} {e : TypeId} (he : P.underlying e = some .bool) {v : Value} {r : Bool} {ps : List MemPlace} (h : plainElem (H := Unit) P e v = some (.lit (.bool r), ps)) : v = .bool r := by
  unfold plainElem at h
  rw [he] at h
  cases v <;> simp at h
  obtain ⟨rfl, _⟩ := h
  rfl
def token_Word.f (a0 : ByteArray) : Option Bool := if a0.size ≤ 1000000000 then some (wordB a0.data.toList) else none
set_option maxRecDepth 100000 in
theorem token_Word.calls (a0 : ByteArray) (r : Bool) (w : World) (hG : Laid w) (h : token_Word.f a0 = some r) : Calls Tryd.prog 66 #[.string a0] w fun e w' => e = .returned (.bool r) ∧ Below w.heap.size w w' := by
  unfold token_Word.f at h
  by_cases hs : a0.size ≤ 1000000000
  · rw [if_pos hs] at h
    have H := Lib.hid (Option.some.inj h)
    clear h
    go_enter Tryd.func66, Tryd.ntmps66
    go_wp2_with (go_at_call 79; refine (known_any _ hG).mono ?_; rintro e w' ⟨b, n, rfl, hown, hb⟩; obtain ⟨v, ps, hrun, hv⟩ := hown.lookup law9 Tryd.underlying106 (zero4 _) (by rfl) (keyOf_string_mk Tryd.underlying9 (s := a0) (by unfold maxLen; omega)); rw [C_at, H.out] at hv; obtain rfl := elem_bool Tryd.underlying4 hv; clear hown hv)
    go_ret
    exact ⟨rfl, hb⟩
  · rw [if_neg hs] at h
    cases h
end Go.Proofs.YtmlkllbaehegjaaDoor
end
section
namespace Go.Proofs.YtmlkllbaehegjaaDoor.PAll
open Go.RowKit Go.Proofs.YtmlkllbaehegjaaDoorW.PrintWords Go.Proofs.YtmlkllbaehegjaaDoorW.PrintLast Go.Proofs.YtmlkllbaehegjaaDoorW.PrintMore
open Go.Proofs.YtmlkllbaehegjaaDoor
def calledName (a1 : ByteArray) : ByteArray := if nameB a1.data.toList && !wordB a1.data.toList then a1 else ⟨#[120]⟩
def shower_called.f (k : Nat) (s0_0 : List ByteArray) (a1 : ByteArray) (l2 : List ByteArray) : Option ByteArray :=
  if a1.size ≤ 1000000000 ∧ s0_0.length + l2.length < 8796093022208 then
    (show_Fresh.f k (calledName a1) (s0_0 ++ l2)).bind fun t => if (t.size : Int) ≤ 32 then some t else (show_Fresh.f k ⟨#[120]⟩ (s0_0 ++ l2))
  else none
set_option maxHeartbeats 1000000 in
set_option maxRecDepth 100000 in
theorem called_yes (k : Nat) (g : Nat) (s : List ByteArray) (a1 : ByteArray) (A0 A2 : Option Addr) (c0 c2 : Nat) (l2 : List ByteArray) (t r : ByteArray) (w : World) (hG : Laid w)
    (hcell : w.cell? ⟨g, 0, none⟩ = some (.slice A0 s.length c0)) (hr0 : Kd.C Kd.string w A0 s.length s) (hr2 : Kd.C Kd.string w A2 l2.length l2) (hc2 : l2.length ≤ c2) (hs : a1.size ≤ 1000000000) (hlen : s.length + l2.length < 8796093022208)
    (hn : nameB a1.data.toList = true) (hw : wordB a1.data.toList = false) (h : show_Fresh.f k a1 (s ++ l2) = some t) (h2 : (if (t.size : Int) ≤ 32 then some t else (show_Fresh.f k ⟨#[120]⟩ (s ++ l2))) = some r) :
    Calls Tryd.prog 51 #[.pointer (some ⟨g, 0, none⟩), .string a1, .slice A2 l2.length c2] w fun e w' => e = .returned (.string r) ∧ Below w.heap.size w w' := by
  obtain ⟨y, hy⟩ : ∃ y : List ByteArray, y = s ++ l2 := ⟨_, rfl⟩
  rw [← hy] at h h2
  have HY := Lib.hid hy
  clear hy
  have HG := Lib.hid hG
  have HR0 := Lib.hid hr0
  have HR2 := Lib.hid hr2
  have HC2 := Lib.hid hc2
  have H := Lib.hid h
  have H2 := Lib.hid h2
  have HL := Lib.hid hlen
  have HN := Lib.hid hn
  have HW := Lib.hid hw
  clear hG hr0 hr2 hc2 h h2 hlen hn hw
  go_enter Tryd.func51, Tryd.ntmps51
  go_wp2_with fail
  refine (token_Name.calls _ true _ (by unfold token_Name.f; rw [HN.out])).mono ?_
  rintro e w1 ⟨rfl, hb1⟩
  go_wp2_with fail
  refine (token_Word.calls _ false _ (HG.out.below hb1) (by unfold token_Word.f; rw [HW.out, if_pos hs])).mono ?_
  rintro e w2 ⟨rfl, hb2⟩
  have hb := below_step hb1 hb2
  have hc2 := pw_cell_below hb hcell
  have HB := Lib.hid hb
  clear hb hb1 hb2 hcell
  go_wp2_with (first
    | ((with_reducible refine gate_dst (N := 16) rfl ?_); refine Kd.R_lit Kd.string (w0 := w) w.heap.size 9 ?hg (N := 16) ?hd (xs := ([] : List ByteArray)) (inner := []) (ok := fun _ => True) (okp := fun _ => True) ?hr ?hp (fun _ hk => hk) trivial HB.out HB.out.size (by simp) ?_; (case hd => rfl); (case hg => rfl); (case hr => first | (go_simp; done) | (go_simp; rfl)); (case hp => exact Reps.none _ _); intro v3 w3 ho3 hb3 hg3 hnew3; have hc3 := (hg3.block g (World.block_lt_of_cell? w2 _ hc2) (by simp)); have hc3' : w3.cell? ⟨g, 0, none⟩ = some (.slice A0 s.length c0) := (by unfold World.cell? at hc2 ⊢; rw [hc3]; exact hc2); have HO3 := Lib.hid ho3; have HB3 := Lib.hid hb3; clear hc3 hg3 hnew3 ho3 hb3 hc2)
    | ((with_reducible refine gate_builtin (b := .append) (xs := #[.tmp 16, .tmp 20]) rfl ?_); at_builtin; refine Kd.R_append_rows Kd.string (w0 := w) w.heap.size rfl (.tmp 16) (.tmp 20) 22 9 (.string ⟨#[]⟩) 16 rfl Tryd.underlying22 info9 rfl (by decide) (by omega) v3 ([] : List ByteArray) s _ _ _ (fun _ => True) (fun _ => False) rfl rfl ?aO ?aR (fun _ _ h => h) (fun _ h => h.elim) ?aF ?aB ?aS ?aL ?_; (case aR => exact Kd.C_below HR0.out HB3.out); (case aB => exact HB3.out); (case aF => exact (fun _ _ => trivial)); (case aO => exact HO3.out); (case aS => exact HB3.out.size); (case aL => have := HL.out; simp; omega); intro v4 w4 ho4 hb4 hg4 hat4; have HO4 := Lib.hid ho4; have HB4 := Lib.hid hb4; clear hg4 hat4 ho4 hb4 hc3')
    | ((with_reducible refine gate_builtin (b := .append) (xs := #[.tmp 21, .tmp 22]) rfl ?_); at_builtin; refine Kd.R_append_rows Kd.string (w0 := w) w.heap.size rfl (.tmp 21) (.tmp 22) 22 9 (.string ⟨#[]⟩) 16 rfl Tryd.underlying22 info9 rfl (by decide) (by omega) v4 ([] ++ s : List ByteArray) l2 _ _ _ (fun _ => True) (fun _ => False) rfl rfl ?bO ?bR (fun _ _ h => h) (fun _ h => h.elim) ?bF ?bB ?bS ?bL ?_; (case bR => exact Kd.C_below HR2.out HB4.out); (case bB => exact HB4.out); (case bF => exact (fun _ _ => trivial)); (case bO => exact HO4.out); (case bS => exact HB4.out.size); (case bL => have := HL.out; simp; omega); intro v5 w5 ho5 hb5 hg5 hat5; rw [List.nil_append, ← HY.out] at ho5; have HB5 := Lib.hid hb5; clear hg5 hat5 hb5; obtain ⟨A5, c5, e5⟩ := Kd.R_slice ho5; subst e5; have HO5 := Lib.hid ho5; clear ho5)
    )
  refine (show_Fresh.calls k _ _ _ y t _ (HG.out.below HB5.out) (Kd.R_reads' HO5.out).2.2 (Kd.R_reads' HO5.out).2.1 H.out).mono ?_
  rintro e w6 ⟨rfl, hb6⟩
  have HB6 := Lib.hid (below_step HB5.out hb6)
  have HR6 := Lib.hid (Kd.C_below (Kd.R_reads' HO5.out).2.2 hb6)
  have HC6 := Lib.hid (Kd.R_reads' HO5.out).2.1
  clear hb6
  by_cases ht : (t.size : Int) ≤ 32
  · have h3 := H2.out
    rw [if_pos ht] at h3
    obtain rfl := Option.some.inj h3
    clear h3
    go_wp2_with fail
    go_ret
    exact ⟨rfl, HB6.out⟩
  · have h3 := H2.out
    rw [if_neg ht] at h3
    have H3 := Lib.hid h3
    clear h3
    go_wp2_with fail
    refine (show_Fresh.calls k _ _ _ y r _ (HG.out.below HB6.out) HR6.out HC6.out H3.out).mono ?_
    rintro e w7 ⟨rfl, hb7⟩
    have HB7 := Lib.hid (below_step HB6.out hb7)
    clear hb7
    go_wp2_with fail
    go_ret
    exact ⟨rfl, HB7.out⟩
set_option maxHeartbeats 1000000 in
set_option maxRecDepth 100000 in
theorem called_no1 (k : Nat) (g : Nat) (s : List ByteArray) (a1 : ByteArray) (A0 A2 : Option Addr) (c0 c2 : Nat) (l2 : List ByteArray) (t r : ByteArray) (w : World) (hG : Laid w)
    (hcell : w.cell? ⟨g, 0, none⟩ = some (.slice A0 s.length c0)) (hr0 : Kd.C Kd.string w A0 s.length s) (hr2 : Kd.C Kd.string w A2 l2.length l2) (hc2 : l2.length ≤ c2) (_hs : a1.size ≤ 1000000000) (hlen : s.length + l2.length < 8796093022208)
    (hn : nameB a1.data.toList = false) (h : show_Fresh.f k ⟨#[120]⟩ (s ++ l2) = some t) (h2 : (if (t.size : Int) ≤ 32 then some t else (show_Fresh.f k ⟨#[120]⟩ (s ++ l2))) = some r) :
    Calls Tryd.prog 51 #[.pointer (some ⟨g, 0, none⟩), .string a1, .slice A2 l2.length c2] w fun e w' => e = .returned (.string r) ∧ Below w.heap.size w w' := by
  obtain ⟨y, hy⟩ : ∃ y : List ByteArray, y = s ++ l2 := ⟨_, rfl⟩
  rw [← hy] at h h2
  have HY := Lib.hid hy
  clear hy
  have HG := Lib.hid hG
  have HR0 := Lib.hid hr0
  have HR2 := Lib.hid hr2
  have HC2 := Lib.hid hc2
  have H := Lib.hid h
  have H2 := Lib.hid h2
  have HL := Lib.hid hlen
  have HN := Lib.hid hn
  clear hG hr0 hr2 hc2 h h2 hlen hn
  go_enter Tryd.func51, Tryd.ntmps51
  go_wp2_with fail
  refine (token_Name.calls _ false _ (by unfold token_Name.f; rw [HN.out])).mono ?_
  rintro e w2 ⟨rfl, hb⟩
  have hc2 := pw_cell_below hb hcell
  have HB := Lib.hid hb
  clear hb hcell
  go_wp2_with (first
    | ((with_reducible refine gate_dst (N := 16) rfl ?_); refine Kd.R_lit Kd.string (w0 := w) w.heap.size 9 ?hg (N := 16) ?hd (xs := ([] : List ByteArray)) (inner := []) (ok := fun _ => True) (okp := fun _ => True) ?hr ?hp (fun _ hk => hk) trivial HB.out HB.out.size (by simp) ?_; (case hd => rfl); (case hg => rfl); (case hr => first | (go_simp; done) | (go_simp; rfl)); (case hp => exact Reps.none _ _); intro v3 w3 ho3 hb3 hg3 hnew3; have hc3 := (hg3.block g (World.block_lt_of_cell? w2 _ hc2) (by simp)); have hc3' : w3.cell? ⟨g, 0, none⟩ = some (.slice A0 s.length c0) := (by unfold World.cell? at hc2 ⊢; rw [hc3]; exact hc2); have HO3 := Lib.hid ho3; have HB3 := Lib.hid hb3; clear hc3 hg3 hnew3 ho3 hb3 hc2)
    | ((with_reducible refine gate_builtin (b := .append) (xs := #[.tmp 16, .tmp 20]) rfl ?_); at_builtin; refine Kd.R_append_rows Kd.string (w0 := w) w.heap.size rfl (.tmp 16) (.tmp 20) 22 9 (.string ⟨#[]⟩) 16 rfl Tryd.underlying22 info9 rfl (by decide) (by omega) v3 ([] : List ByteArray) s _ _ _ (fun _ => True) (fun _ => False) rfl rfl ?aO ?aR (fun _ _ h => h) (fun _ h => h.elim) ?aF ?aB ?aS ?aL ?_; (case aR => exact Kd.C_below HR0.out HB3.out); (case aB => exact HB3.out); (case aF => exact (fun _ _ => trivial)); (case aO => exact HO3.out); (case aS => exact HB3.out.size); (case aL => have := HL.out; simp; omega); intro v4 w4 ho4 hb4 hg4 hat4; have HO4 := Lib.hid ho4; have HB4 := Lib.hid hb4; clear hg4 hat4 ho4 hb4 hc3')
    | ((with_reducible refine gate_builtin (b := .append) (xs := #[.tmp 21, .tmp 22]) rfl ?_); at_builtin; refine Kd.R_append_rows Kd.string (w0 := w) w.heap.size rfl (.tmp 21) (.tmp 22) 22 9 (.string ⟨#[]⟩) 16 rfl Tryd.underlying22 info9 rfl (by decide) (by omega) v4 ([] ++ s : List ByteArray) l2 _ _ _ (fun _ => True) (fun _ => False) rfl rfl ?bO ?bR (fun _ _ h => h) (fun _ h => h.elim) ?bF ?bB ?bS ?bL ?_; (case bR => exact Kd.C_below HR2.out HB4.out); (case bB => exact HB4.out); (case bF => exact (fun _ _ => trivial)); (case bO => exact HO4.out); (case bS => exact HB4.out.size); (case bL => have := HL.out; simp; omega); intro v5 w5 ho5 hb5 hg5 hat5; rw [List.nil_append, ← HY.out] at ho5; have HB5 := Lib.hid hb5; clear hg5 hat5 hb5; obtain ⟨A5, c5, e5⟩ := Kd.R_slice ho5; subst e5; have HO5 := Lib.hid ho5; clear ho5)
    )
  refine (show_Fresh.calls k _ _ _ y t _ (HG.out.below HB5.out) (Kd.R_reads' HO5.out).2.2 (Kd.R_reads' HO5.out).2.1 H.out).mono ?_
  rintro e w6 ⟨rfl, hb6⟩
  have HB6 := Lib.hid (below_step HB5.out hb6)
  have HR6 := Lib.hid (Kd.C_below (Kd.R_reads' HO5.out).2.2 hb6)
  have HC6 := Lib.hid (Kd.R_reads' HO5.out).2.1
  clear hb6
  by_cases ht : (t.size : Int) ≤ 32
  · have h3 := H2.out
    rw [if_pos ht] at h3
    obtain rfl := Option.some.inj h3
    clear h3
    go_wp2_with fail
    go_ret
    exact ⟨rfl, HB6.out⟩
  · have h3 := H2.out
    rw [if_neg ht] at h3
    have H3 := Lib.hid h3
    clear h3
    go_wp2_with fail
    refine (show_Fresh.calls k _ _ _ y r _ (HG.out.below HB6.out) HR6.out HC6.out H3.out).mono ?_
    rintro e w7 ⟨rfl, hb7⟩
    have HB7 := Lib.hid (below_step HB6.out hb7)
    clear hb7
    go_wp2_with fail
    go_ret
    exact ⟨rfl, HB7.out⟩
set_option maxHeartbeats 1000000 in
set_option maxRecDepth 100000 in
theorem called_no2 (k : Nat) (g : Nat) (s : List ByteArray) (a1 : ByteArray) (A0 A2 : Option Addr) (c0 c2 : Nat) (l2 : List ByteArray) (t r : ByteArray) (w : World) (hG : Laid w)
    (hcell : w.cell? ⟨g, 0, none⟩ = some (.slice A0 s.length c0)) (hr0 : Kd.C Kd.string w A0 s.length s) (hr2 : Kd.C Kd.string w A2 l2.length l2) (hc2 : l2.length ≤ c2) (hs : a1.size ≤ 1000000000) (hlen : s.length + l2.length < 8796093022208)
    (hn : nameB a1.data.toList = true) (hw : wordB a1.data.toList = true) (h : show_Fresh.f k ⟨#[120]⟩ (s ++ l2) = some t) (h2 : (if (t.size : Int) ≤ 32 then some t else (show_Fresh.f k ⟨#[120]⟩ (s ++ l2))) = some r) :
    Calls Tryd.prog 51 #[.pointer (some ⟨g, 0, none⟩), .string a1, .slice A2 l2.length c2] w fun e w' => e = .returned (.string r) ∧ Below w.heap.size w w' := by
  obtain ⟨y, hy⟩ : ∃ y : List ByteArray, y = s ++ l2 := ⟨_, rfl⟩
  rw [← hy] at h h2
  have HY := Lib.hid hy
  clear hy
  have HG := Lib.hid hG
  have HR0 := Lib.hid hr0
  have HR2 := Lib.hid hr2
  have HC2 := Lib.hid hc2
  have H := Lib.hid h
  have H2 := Lib.hid h2
  have HL := Lib.hid hlen
  have HN := Lib.hid hn
  have HW := Lib.hid hw
  clear hG hr0 hr2 hc2 h h2 hlen hn hw
  go_enter Tryd.func51, Tryd.ntmps51
  go_wp2_with fail
  refine (token_Name.calls _ true _ (by unfold token_Name.f; rw [HN.out])).mono ?_
  rintro e w1 ⟨rfl, hb1⟩
  go_wp2_with fail
  refine (token_Word.calls _ true _ (HG.out.below hb1) (by unfold token_Word.f; rw [HW.out, if_pos hs])).mono ?_
  rintro e w2 ⟨rfl, hb2⟩
  have hb := below_step hb1 hb2
  have hc2 := pw_cell_below hb hcell
  have HB := Lib.hid hb
  clear hb hb1 hb2 hcell
  go_wp2_with (first
    | ((with_reducible refine gate_dst (N := 16) rfl ?_); refine Kd.R_lit Kd.string (w0 := w) w.heap.size 9 ?hg (N := 16) ?hd (xs := ([] : List ByteArray)) (inner := []) (ok := fun _ => True) (okp := fun _ => True) ?hr ?hp (fun _ hk => hk) trivial HB.out HB.out.size (by simp) ?_; (case hd => rfl); (case hg => rfl); (case hr => first | (go_simp; done) | (go_simp; rfl)); (case hp => exact Reps.none _ _); intro v3 w3 ho3 hb3 hg3 hnew3; have hc3 := (hg3.block g (World.block_lt_of_cell? w2 _ hc2) (by simp)); have hc3' : w3.cell? ⟨g, 0, none⟩ = some (.slice A0 s.length c0) := (by unfold World.cell? at hc2 ⊢; rw [hc3]; exact hc2); have HO3 := Lib.hid ho3; have HB3 := Lib.hid hb3; clear hc3 hg3 hnew3 ho3 hb3 hc2)
    | ((with_reducible refine gate_builtin (b := .append) (xs := #[.tmp 16, .tmp 20]) rfl ?_); at_builtin; refine Kd.R_append_rows Kd.string (w0 := w) w.heap.size rfl (.tmp 16) (.tmp 20) 22 9 (.string ⟨#[]⟩) 16 rfl Tryd.underlying22 info9 rfl (by decide) (by omega) v3 ([] : List ByteArray) s _ _ _ (fun _ => True) (fun _ => False) rfl rfl ?aO ?aR (fun _ _ h => h) (fun _ h => h.elim) ?aF ?aB ?aS ?aL ?_; (case aR => exact Kd.C_below HR0.out HB3.out); (case aB => exact HB3.out); (case aF => exact (fun _ _ => trivial)); (case aO => exact HO3.out); (case aS => exact HB3.out.size); (case aL => have := HL.out; simp; omega); intro v4 w4 ho4 hb4 hg4 hat4; have HO4 := Lib.hid ho4; have HB4 := Lib.hid hb4; clear hg4 hat4 ho4 hb4 hc3')
    | ((with_reducible refine gate_builtin (b := .append) (xs := #[.tmp 21, .tmp 22]) rfl ?_); at_builtin; refine Kd.R_append_rows Kd.string (w0 := w) w.heap.size rfl (.tmp 21) (.tmp 22) 22 9 (.string ⟨#[]⟩) 16 rfl Tryd.underlying22 info9 rfl (by decide) (by omega) v4 ([] ++ s : List ByteArray) l2 _ _ _ (fun _ => True) (fun _ => False) rfl rfl ?bO ?bR (fun _ _ h => h) (fun _ h => h.elim) ?bF ?bB ?bS ?bL ?_; (case bR => exact Kd.C_below HR2.out HB4.out); (case bB => exact HB4.out); (case bF => exact (fun _ _ => trivial)); (case bO => exact HO4.out); (case bS => exact HB4.out.size); (case bL => have := HL.out; simp; omega); intro v5 w5 ho5 hb5 hg5 hat5; rw [List.nil_append, ← HY.out] at ho5; have HB5 := Lib.hid hb5; clear hg5 hat5 hb5; obtain ⟨A5, c5, e5⟩ := Kd.R_slice ho5; subst e5; have HO5 := Lib.hid ho5; clear ho5)
    )
  refine (show_Fresh.calls k _ _ _ y t _ (HG.out.below HB5.out) (Kd.R_reads' HO5.out).2.2 (Kd.R_reads' HO5.out).2.1 H.out).mono ?_
  rintro e w6 ⟨rfl, hb6⟩
  have HB6 := Lib.hid (below_step HB5.out hb6)
  have HR6 := Lib.hid (Kd.C_below (Kd.R_reads' HO5.out).2.2 hb6)
  have HC6 := Lib.hid (Kd.R_reads' HO5.out).2.1
  clear hb6
  by_cases ht : (t.size : Int) ≤ 32
  · have h3 := H2.out
    rw [if_pos ht] at h3
    obtain rfl := Option.some.inj h3
    clear h3
    go_wp2_with fail
    go_ret
    exact ⟨rfl, HB6.out⟩
  · have h3 := H2.out
    rw [if_neg ht] at h3
    have H3 := Lib.hid h3
    clear h3
    go_wp2_with fail
    refine (show_Fresh.calls k _ _ _ y r _ (HG.out.below HB6.out) HR6.out HC6.out H3.out).mono ?_
    rintro e w7 ⟨rfl, hb7⟩
    have HB7 := Lib.hid (below_step HB6.out hb7)
    clear hb7
    go_wp2_with fail
    go_ret
    exact ⟨rfl, HB7.out⟩
theorem shower_called.calls (k : Nat) (g : Nat) (s0_0 : List ByteArray) (a1 : ByteArray) (A2 : Option Addr) (c2 : Nat) (l2 : List ByteArray) (r : ByteArray) (w0 w : World) (hG : Laid w0) (hI : IsS62 w0 w g s0_0) (hB : Below w0.heap.size w0 w)
    (hr2 : Kd.C Kd.string w A2 l2.length l2) (hc2 : l2.length ≤ c2) (_hf2 : ∀ ad, A2 = some ad → 0 < l2.length → ad.block ≠ g) (h : shower_called.f k s0_0 a1 l2 = some r) :
    Calls Tryd.prog 51 #[.pointer (some ⟨g, 0, none⟩), .string a1, .slice A2 l2.length c2] w fun e w' => e = .returned (.string r) ∧ IsS62 w0 w' g s0_0 ∧ Below w0.heap.size w0 w' ∧ KeepBut w w' g none := by
  have main : Calls Tryd.prog 51 #[.pointer (some ⟨g, 0, none⟩), .string a1, .slice A2 l2.length c2] w fun e w' => e = .returned (.string r) ∧ Below w.heap.size w w' := by
    obtain ⟨A0, c0, hblk, _, hr0⟩ := hI
    have hcell : w.cell? ⟨g, 0, none⟩ = some (.slice A0 s0_0.length c0) := (blk_cell hblk 0).trans rfl
    have hG' := hG.below hB
    have hr0' := Kd.C_below hr0 hB
    unfold shower_called.f at h
    by_cases hcond : a1.size ≤ 1000000000 ∧ s0_0.length + l2.length < 8796093022208
    · rw [if_pos hcond] at h
      obtain ⟨t, h1, h2⟩ := Option.bind_eq_some_iff.mp h
      unfold calledName at h1
      cases hn : nameB a1.data.toList with
      | false =>
        rw [hn] at h1
        exact called_no1 k g s0_0 a1 A0 A2 c0 c2 l2 t r w hG' hcell hr0' hr2 hc2 hcond.1 hcond.2 hn (by simpa using h1) h2
      | true =>
        cases hw : wordB a1.data.toList with
        | false =>
          rw [hn, hw] at h1
          exact called_yes k g s0_0 a1 A0 A2 c0 c2 l2 t r w hG' hcell hr0' hr2 hc2 hcond.1 hcond.2 hn hw (by simpa using h1) h2
        | true =>
          rw [hn, hw] at h1
          exact called_no2 k g s0_0 a1 A0 A2 c0 c2 l2 t r w hG' hcell hr0' hr2 hc2 hcond.1 hcond.2 hn hw (by simpa using h1) h2
    · rw [if_neg hcond] at h
      cases h
  refine main.mono ?_
  rintro e w' ⟨rfl, hb⟩
  exact ⟨rfl, hI.below hb, below_then hB hB.size hb, hb.size, fun i hi _ _ => hb.block i hi⟩
end Go.Proofs.YtmlkllbaehegjaaDoor.PAll
end
