-- Words of the kit's print, walks printed by a program of this session (wip/prt) in shorter words, and texts of this session, merged (pack.py).
import Derived.Test.YtmlkllbaehegjaaDoorShowSeqs16
import Derived.Test.YtmlkllbaehegjaaDoorShowSeqs2
import Derived.Test.YtmlkllbaehegjaaDoorShowSeqs6
import Derived.Test.YtmlkllbaehegjaaDoorShowSeqs8
import Derived.Test.YtmlkllbaehegjaaDoorShowSeqs15
section
namespace Go.Proofs.YtmlkllbaehegjaaDoor.PAll
open Go.RowKit Go.Proofs.YtmlkllbaehegjaaDoorW.PrintWords Go.Proofs.YtmlkllbaehegjaaDoorW.PrintLast Go.Proofs.YtmlkllbaehegjaaDoorW.PrintMore
attribute [local go_sem] max2_int min2_int max_two min_two max_three min_three max_four min_four   -- for this text's walks alone
set_option linter.unusedVariables false
set_option linter.unusedSimpArgs false
/-! ### sequiturlaw14_ShowSeqs: function 5 -/
mutual
def sequiturlaw14_ShowSeqs.j0 : Nat → Bool → List (S42) → List (S45) → Int → ByteArray → ByteArray → List (S53) → List (S30) → Option (Bool)
  | 0, _, _, _, _, _, _, _, _ => none
  | k + 1, x22, x611000, x611001, x611002, x611003, x611004, x611005, x611006 => if x22 = true then ((law14_alive.f).bind fun t612 => (some t612)) else (sequiturlaw14_ShowSeqs.l0 k x611000 (x611000.length : Int) 0 x611000 x611001 x611002 x611003 x611004 x611005 x611006)
def sequiturlaw14_ShowSeqs.l0 : Nat → List (S42) → Int → Int → List (S42) → List (S45) → Int → ByteArray → ByteArray → List (S53) → List (S30) → Option (Bool)
  | 0, _, _, _, _, _, _, _, _, _, _ => none
  | k + 1, x25, x26, x27, x611000, x611001, x611002, x611003, x611004, x611005, x611006 => if x27 < x26 then (if 0 ≤ x27 then (if x27 < (x25.length : Int) then (if (((rd_T42 x25 x27).f0).size : Int) > 100 then (sequiturlaw14_ShowSeqs.j2 k x25 x26 x27 true x611000 x611001 x611002 x611003 x611004 x611005 x611006 ((rd_T42 x25 x27).f0) ((rd_T42 x25 x27).f1)) else (if (((rd_T42 x25 x27).f1).size : Int) > 100 then (sequiturlaw14_ShowSeqs.j2 k x25 x26 x27 true x611000 x611001 x611002 x611003 x611004 x611005 x611006 ((rd_T42 x25 x27).f0) ((rd_T42 x25 x27).f1)) else ((show_Var.f ((rd_T42 x25 x27).f0) ((rd_T42 x25 x27).f1)).bind fun t615 => ((sequiturref14_Var.f ((rd_T42 x25 x27).f0) ((rd_T42 x25 x27).f1)).bind fun t616 => (sequiturlaw14_ShowSeqs.j2 k x25 x26 x27 (t615.toList != t616.toList) x611000 x611001 x611002 x611003 x611004 x611005 x611006 ((rd_T42 x25 x27).f0) ((rd_T42 x25 x27).f1)))))) else (none)) else (none)) else (sequiturlaw14_ShowSeqs.l1 k x611001 (x611001.length : Int) 0 x611000 x611001 x611002 x611003 x611004 x611005 x611006)
def sequiturlaw14_ShowSeqs.j2 : Nat → List (S42) → Int → Int → Bool → List (S42) → List (S45) → Int → ByteArray → ByteArray → List (S53) → List (S30) → ByteArray → ByteArray → Option (Bool)
  | 0, _, _, _, _, _, _, _, _, _, _, _, _, _ => none
  | k + 1, x25, x26, x27, x47, x611000, x611001, x611002, x611003, x611004, x611005, x611006, x615000, x615001 => if x47 = true then (if (x615000.size : Int) > 100 then (some true) else (some (decide ((x615001.size : Int) > 100)))) else (sequiturlaw14_ShowSeqs.l0 k x25 x26 (wrap64 (x27 + 1)) x611000 x611001 x611002 x611003 x611004 x611005 x611006)
def sequiturlaw14_ShowSeqs.l1 : Nat → List (S45) → Int → Int → List (S42) → List (S45) → Int → ByteArray → ByteArray → List (S53) → List (S30) → Option (Bool)
  | 0, _, _, _, _, _, _, _, _, _, _ => none
  | k + 1, x60, x61, x62, x611000, x611001, x611002, x611003, x611004, x611005, x611006 => if x62 < x61 then (if 0 ≤ x62 then (if x62 < (x60.length : Int) then (if (((rd_T45 x60 x62).f0).size : Int) > 100 then ((law14_alive.f).bind fun t620 => (some t620)) else ((sequiturlaw14_Plain.f k ((rd_T45 x60 x62).f1.f0) ((rd_T45 x60 x62).f1.f1) ((rd_T45 x60 x62).f1.f2) ((rd_T45 x60 x62).f1.f3) ((rd_T45 x60 x62).f1.f4) 200).bind fun t619 => (if t619 = true then (sequiturlaw14_ShowSeqs.l1 k x60 x61 (wrap64 (x62 + 1)) x611000 x611001 x611002 x611003 x611004 x611005 x611006) else ((law14_alive.f).bind fun t621 => (some t621))))) else (none)) else (none)) else ((show_Seq.f k x611000 x611001 x611002 x611003 x611004 x611005 x611006).bind fun t622 => ((sequiturref14_Seq.f k x611000 x611001 x611002 x611003 x611004 x611005 x611006).bind fun t623 => (if t622.toList = t623.toList then ((law14_alive.f).bind fun t624 => (some t624)) else (some false))))
end
def sequiturlaw14_ShowSeqs.f (k : Nat) (l0_0 : List (S42)) (l0_1 : List (S45)) (a0_2 : Int) (a0_3 : ByteArray) (a0_4 : ByteArray) (l0_5 : List (S53)) (l0_6 : List (S30)) : Option (Bool) := if (l0_0.length : Int) > 20 then (sequiturlaw14_ShowSeqs.j0 k true l0_0 l0_1 a0_2 a0_3 a0_4 l0_5 l0_6) else (if (l0_1.length : Int) > 20 then (sequiturlaw14_ShowSeqs.j0 k true l0_0 l0_1 a0_2 a0_3 a0_4 l0_5 l0_6) else ((sequiturlaw14_Plain.f k a0_2 a0_3 a0_4 l0_5 l0_6 200).bind fun t611 => (sequiturlaw14_ShowSeqs.j0 k (!t611) l0_0 l0_1 a0_2 a0_3 a0_4 l0_5 l0_6)))
def sequiturlaw14_ShowSeqs.T6 : Bool × List (List Nat × List Nat) := (true, [([], []), ([0], [0]), ([1], [1]), ([2], [2]), ([3], [3]), ([4], [4]), ([5, 4], [4, 5]), ([6, 4], [4, 6]), ([7, 4], [4, 7]), ([4, 8], [4, 8]), ([9, 4], [9]), ([10], [10]), ([11, 10, 10], [10, 11]), ([10], [10]), ([13, 12, 10], [10, 13]), ([12, 14, 10], [10, 12, 14]), ([10, 15], [10, 15])])
def sequiturlaw14_ShowSeqs.B6 : List Nat := [0, 1, 3, 7, 15, 31, 63, 127, 255, 511, 1023, 2047, 4095, 2047, 16383, 32767, 65535]
theorem sequiturlaw14_ShowSeqs.tab6 : rtab .any (opsOf Tryd.f5 6) = sequiturlaw14_ShowSeqs.T6 := by kernel_rfl
theorem sequiturlaw14_ShowSeqs.bits6 : waitsOk sequiturlaw14_ShowSeqs.T6.2 sequiturlaw14_ShowSeqs.B6 = true := by kernel_rfl
def sequiturlaw14_ShowSeqs.T15 : Bool × List (List Nat × List Nat) := (true, [([], []), ([0], [0]), ([], []), ([2, 1], [2]), ([1, 3], [1, 3]), ([4, 3], [4]), ([5, 5], [5]), ([5, 6], [5, 6]), ([7, 6, 0, 1, 2, 3, 4, 5, 6, 7], [7])])
def sequiturlaw14_ShowSeqs.B15 : List Nat := [0, 1, 0, 7, 15, 31, 63, 127, 255]
theorem sequiturlaw14_ShowSeqs.tab15 : rtab .any (opsOf Tryd.f5 15) = sequiturlaw14_ShowSeqs.T15 := by kernel_rfl
theorem sequiturlaw14_ShowSeqs.bits15 : waitsOk sequiturlaw14_ShowSeqs.T15.2 sequiturlaw14_ShowSeqs.B15 = true := by kernel_rfl
set_option maxHeartbeats 8000000 in
set_option maxRecDepth 100000 in
theorem sequiturlaw14_ShowSeqs.calls (k : Nat) (A0_0 : Option Addr) (c0_0 : Nat) (l0_0 : List (S42)) (A0_1 : Option Addr) (c0_1 : Nat) (l0_1 : List (S45)) (a0_2 : Int) (a0_3 : ByteArray) (a0_4 : ByteArray) (A0_5 : Option Addr) (c0_5 : Nat) (l0_5 : List (S53)) (A0_6 : Option Addr) (c0_6 : Nat) (l0_6 : List (S30)) (r : Bool) (w : World) (hG : Laid w) (hr0_0 : Kd.C k42 w A0_0 l0_0.length l0_0) (hc0_0 : l0_0.length ≤ c0_0) (hr0_1 : Kd.C k45 w A0_1 l0_1.length l0_1) (hc0_1 : l0_1.length ≤ c0_1) (hr0_5 : Kd.C k53 w A0_5 l0_5.length l0_5) (hc0_5 : l0_5.length ≤ c0_5) (hr0_6 : Kd.C k30 w A0_6 l0_6.length l0_6) (hc0_6 : l0_6.length ≤ c0_6) (h : sequiturlaw14_ShowSeqs.f k l0_0 l0_1 a0_2 a0_3 a0_4 l0_5 l0_6 = some r) :
    Calls Tryd.prog 5 #[.agg #[.slice A0_0 l0_0.length c0_0, .slice A0_1 l0_1.length c0_1, .int .i64 a0_2, .string a0_3, .string a0_4, .slice A0_5 l0_5.length c0_5, .slice A0_6 l0_6.length c0_6]] w fun e w' => e = .returned (.bool r) ∧ Below w.heap.size w w' := by
  have hu40 := Tryd.underlying40; have hu30 := Tryd.underlying30; have hu42 := Tryd.underlying42; have hu45 := Tryd.underlying45; have HR0_0 := am hr0_0; have HC0_0 := am hc0_0; clear hr0_0 hc0_0; have HR0_1 := am hr0_1; have HC0_1 := am hc0_1; clear hr0_1 hc0_1; have HR0_5 := am hr0_5; have HC0_5 := am hc0_5; clear hr0_5 hc0_5; have HR0_6 := am hr0_6; have HC0_6 := am hc0_6; clear hr0_6 hc0_6; have HG := am hG; clear hG; have HB := am (Below.refl w.heap.size w); have H := h; unfold sequiturlaw14_ShowSeqs.f at H; clear h; have HC2 := am H; clear H
  go_enter Tryd.func5, Tryd.ntmps5
  go_upto_region 1 with (first | ((with_reducible refine gate_dst (N := 1) rfl ?_); (try (refine gate_guard (by rfl) ?_; dsimp only)); refine bE 1 #[.slice A0_0 l0_0.length c0_0, .slice A0_1 l0_1.length c0_1, .int .i64 a0_2, .string a0_3, .string a0_4, .slice A0_5 l0_5.length c0_5, .slice A0_6 l0_6.length c0_6] 40 ?_; intro gb610 w3 BK610 hg hb; have GW610 := bZ hg; have GE610 := bZ hg; replace HB := bH hb; clear hb hg))
  (try simp only [Act.put, List.setIfInBounds_toArray, List.set_cons_zero, List.set_cons_succ])
  go_cut [22] (fun v22 wc => ∃ (kq : Nat) (x22_1 : Bool), v22 = .bool x22_1 ∧ Aside0 (sequiturlaw14_ShowSeqs.j0 kq x22_1 l0_0 l0_1 a0_2 a0_3 a0_4 l0_5 l0_6 = some r) ∧ Aside0 (kq ≤ k) ∧ Aside0 (wc.heap[gb610]? = some (.cells #[(.slice A0_0 l0_0.length c0_0), (.slice A0_1 l0_1.length c0_1), .int .i64 a0_2, .string a0_3, .string a0_4, (.slice A0_5 l0_5.length c0_5), (.slice A0_6 l0_6.length c0_6)] 40 (0, 0))) ∧ Aside0 (Below w.heap.size w wc))
  case first =>
   have H := HC2.out; clear HC2
   by_cases c4 : (l0_0.length : Int) > 20
   ·rw [if_pos c4] at H
    have c4b0 : decide (20 < (l0_0.length : Int)) = true := decide_eq_true c4; have c4b1 : decide (20 < l0_0.length) = true := decide_eq_true (by omega); clear c4; (first | rw [c4b0] | (simp only [i64_w, i32_w]; rw [c4b0]) | skip); have H' := am H; clear H; obtain ⟨z5_0, z5_1, z5_2, z5_3, z5_4, z5_5, z5_6, y5_0, y5_1, y5_2, y5_3, y5_4, y5_5, y5_6⟩ := y7 BK610; go_wp2; go_meet
    case rel => exact ⟨_, (true), eS, H', ⟨eO⟩, ⟨bD BK610⟩, ⟨bB⟩⟩
   ·rw [if_neg c4] at H
    have c4b0 : decide (20 < (l0_0.length : Int)) = false := decide_eq_false c4; have c4b1 : decide (20 < l0_0.length) = false := decide_eq_false (by omega); clear c4; (first | rw [c4b0] | (simp only [i64_w, i32_w]; rw [c4b0]) | skip)
    by_cases c6 : (l0_1.length : Int) > 20
    ·rw [if_pos c6] at H
     have c6b0 : decide (20 < (l0_1.length : Int)) = true := decide_eq_true c6; have c6b1 : decide (20 < l0_1.length) = true := decide_eq_true (by omega); clear c6; have H' := am H; clear H; obtain ⟨z7_0, z7_1, z7_2, z7_3, z7_4, z7_5, z7_6, y7_0, y7_1, y7_2, y7_3, y7_4, y7_5, y7_6⟩ := y7 BK610; go_wp2; go_meet
     case rel => exact ⟨_, (true), eS, H', ⟨eO⟩, ⟨bD BK610⟩, ⟨bB⟩⟩
    ·rw [if_neg c6] at H
     have c6b0 : decide (20 < (l0_1.length : Int)) = false := decide_eq_false c6; have c6b1 : decide (20 < l0_1.length) = false := decide_eq_false (by omega); clear c6; obtain ⟨t611, A8, H⟩ := bO H; have H' := am H; clear H; obtain ⟨z9_0, z9_1, z9_2, z9_3, z9_4, z9_5, z9_6, y9_0, y9_1, y9_2, y9_3, y9_4, y9_5, y9_6⟩ := y7 BK610
     go_wp2_with (first | (go_at_call 11; (with_reducible refine (sequiturlaw14_Plain.calls k a0_2 a0_3 a0_4 _ _ l0_5 _ _ l0_6 200 t611 _ ?side1 HC0_5.out ?side3 HC0_6.out A8.out).mono ?_); (case side1 => exact cB HR0_5); (case side3 => exact cB HR0_6); rintro e w10 ⟨rfl, hb⟩; replace BK610 := bK BK610 hb; replace HB := bH hb; clear hb))
     go_meet
     case rel => exact ⟨_, (!t611), eS, H', ⟨eO⟩, ⟨bD BK610⟩, ⟨bB⟩⟩
  case rest =>
   clear HC2; (try clear p2); (try clear c4); (try clear c4b0); (try clear c4b1); (try clear c5); (try clear c6); (try clear c6b0); (try clear c6b1); (try clear z5_0 z5_1 z5_2 z5_3 z5_4 z5_5 z5_6); (try clear z7_0 z7_1 z7_2 z7_3 z7_4 z7_5 z7_6); (try clear z9_0 z9_1 z9_2 z9_3 z9_4 z9_5 z9_6); (try clear y5_0 y5_1 y5_2 y5_3 y5_4 y5_5 y5_6); (try clear y7_0 y7_1 y7_2 y7_3 y7_4 y7_5 y7_6); (try clear y9_0 y9_1 y9_2 y9_3 y9_4 y9_5 y9_6); obtain ⟨kq, x22_1, rfl, HA, HJ1, BK610, HB⟩ := hcut
   cases kq with
   | zero => exact absurd HA.out (by simp [sequiturlaw14_ShowSeqs.j0])
   | succ kj1 =>
    have H := HA.out; clear HA; simp only [sequiturlaw14_ShowSeqs.j0] at H
    by_cases c11 : x22_1 = true
    ·subst c11
     rw [if_pos rfl] at H; obtain ⟨t612, A12, H⟩ := bO H; obtain rfl := Option.some.inj H
     go_wp2_with (first | ((with_reducible refine gate_callee (f := 7) rfl ?_); refine gL 23 Tryd.func7 #[] ?_; (with_reducible refine (law14_alive.calls  t612 _ ?side1 A12.out).mono ?_); (case side1 => exact Laid.below HG.out bB); rintro e w13 ⟨rfl, hb⟩; refine ⟨_, rfl, ?_⟩; replace BK610 := bK BK610 hb; replace HB := bH hb; clear hb))
     go_ret; exact ⟨eW, bB⟩
    ·replace c11 := Bool.eq_false_iff.mpr c11
     subst c11; rw [if_neg (show ¬ (false = true) by decide)] at H; have H' := am H; clear H; obtain ⟨z14_0, z14_1, z14_2, z14_3, z14_4, z14_5, z14_6, y14_0, y14_1, y14_2, y14_3, y14_4, y14_5, y14_6⟩ := y7 BK610; go_wp2
     go_loopg [27] kj1 (fun kq v27 w' => ∃ (x27_2 : Int), v27 = .int .i64 x27_2 ∧ Aside0 (sequiturlaw14_ShowSeqs.l0 kq l0_0 (l0_0.length : Int) x27_2 l0_0 l0_1 a0_2 a0_3 a0_4 l0_5 l0_6 = some r) ∧ Aside0 (kq ≤ kj1) ∧ Aside0 (w'.heap[gb610]? = some (.cells #[(.slice A0_0 l0_0.length c0_0), (.slice A0_1 l0_1.length c0_1), .int .i64 a0_2, .string a0_3, .string a0_4, (.slice A0_5 l0_5.length c0_5), (.slice A0_6 l0_6.length c0_6)] 40 (0, 0))) ∧ Aside0 (Below w.heap.size w w'))
     case atStart => exact ⟨(0), eS, H', ⟨Nat.le_refl _⟩, ⟨bD BK610⟩, ⟨bB⟩⟩
     case round =>
      clear H'; (try clear c1); (try clear p2); (try clear c4); (try clear c4b0); (try clear c4b1); (try clear c5); (try clear c6); (try clear c6b0); (try clear c6b1); (try clear c7); (try clear c11); (try clear z14_0 z14_1 z14_2 z14_3 z14_4 z14_5 z14_6); (try clear z5_0 z5_1 z5_2 z5_3 z5_4 z5_5 z5_6); (try clear z7_0 z7_1 z7_2 z7_3 z7_4 z7_5 z7_6); (try clear z9_0 z9_1 z9_2 z9_3 z9_4 z9_5 z9_6); (try clear y14_0 y14_1 y14_2 y14_3 y14_4 y14_5 y14_6); (try clear y5_0 y5_1 y5_2 y5_3 y5_4 y5_5 y5_6); (try clear y7_0 y7_1 y7_2 y7_3 y7_4 y7_5 y7_6); (try clear y9_0 y9_1 y9_2 y9_3 y9_4 y9_5 y9_6); (try clear p2); obtain ⟨x27_2, rfl, HA, HK2, BK610, HB⟩ := hrel
      cases gk with
      | zero => exact absurd HA.out (by simp [sequiturlaw14_ShowSeqs.l0])
      | succ k2 =>
       have H := HA.out; clear HA; simp only [sequiturlaw14_ShowSeqs.l0] at H
       by_cases c15 : x27_2 < (l0_0.length : Int)
       ·rw [if_pos c15] at H
        have c15b0 : decide (x27_2 < (l0_0.length : Int)) = true := decide_eq_true c15; clear c15
        by_cases c16 : 0 ≤ x27_2
        ·rw [if_pos c16] at H
         have c16b0 : decide (0 ≤ x27_2) = true := decide_eq_true c16; clear c16
         by_cases c17 : x27_2 < (l0_0.length : Int)
         ·rw [if_pos c17] at H
          have c17b0 : decide (x27_2 < (l0_0.length : Int)) = true := decide_eq_true c17; clear c17; have HC18 := am H; clear H; have p613 : 0 ≤ (x27_2 : Int) := of_decide_eq_true eA; have q613 : x27_2 < (l0_0.length : Int) := of_decide_eq_true eA; obtain ⟨ad613, e613, hx613_0, hx613_1⟩ := at_T42 HR0_0.out x27_2 p613 q613
          cases e613
          replace hx613_0 := cX HB hx613_0; replace hx613_1 := cX HB hx613_1; replace p613 := eq_true p613; replace q613 := eq_true q613
          go_upto_region 6 with (first | ((with_reducible refine gate_dst (N := 4) rfl ?_); (try (refine gate_guard (by rfl) ?_; dsimp only)); refine bE 4 #[.string (⟨#[]⟩ : ByteArray), .string (⟨#[]⟩ : ByteArray)] 42 ?_; intro gb614 w19 BK614 hg hb; have GW614 := bZ hg; have GE614 := bZ hg; replace HB := bH hb; have NB610_614 := bN BK610 hg; have NB614_610 := bM BK610 hg; replace BK610 := bK BK610 hb; clear hb hg; have hnb20 := NB614_610.out; have hnc20 := NB610_614.out; obtain ⟨z21_0, z21_1, y21_0, y21_1⟩ := y2 BK614))
          (try simp only [Act.put, List.setIfInBounds_toArray, List.set_cons_zero, List.set_cons_succ])
          go_cut [47] (fun v47 wc => ∃ (kq : Nat) (x47_17 : Bool), v47 = .bool x47_17 ∧ Aside0 (sequiturlaw14_ShowSeqs.j2 kq l0_0 (l0_0.length : Int) x27_2 x47_17 l0_0 l0_1 a0_2 a0_3 a0_4 l0_5 l0_6 ((rd_T42 l0_0 x27_2).f0) ((rd_T42 l0_0 x27_2).f1) = some r) ∧ Aside0 (kq ≤ k2) ∧ Aside0 (wc.heap[gb610]? = some (.cells #[(.slice (some ad613) l0_0.length c0_0), (.slice A0_1 l0_1.length c0_1), .int .i64 a0_2, .string a0_3, .string a0_4, (.slice A0_5 l0_5.length c0_5), (.slice A0_6 l0_6.length c0_6)] 40 (0, 0))) ∧ Aside0 (wc.heap[gb614]? = some (.cells #[.string ((rd_T42 l0_0 x27_2).f0), .string ((rd_T42 l0_0 x27_2).f1)] 42 (0, 0))) ∧ Aside0 (Below w.heap.size w wc))
          case first =>
           have H := HC18.out; clear HC18
           by_cases c22 : (((rd_T42 l0_0 x27_2).f0).size : Int) > 100
           ·rw [if_pos c22] at H
            have c22b0 : decide (100 < (((rd_T42 l0_0 x27_2).f0).size : Int)) = true := decide_eq_true c22; have c22b1 : decide (100 < ((rd_T42 l0_0 x27_2).f0).size) = true := decide_eq_true (by omega); clear c22; (first | rw [c22b0] | (simp only [i64_w, i32_w]; rw [c22b0]) | skip); have H' := am H; clear H
            try go_wp2
            have n0_ := bX2 (.string ((rd_T42 l0_0 x27_2).f0)) (.string ((rd_T42 l0_0 x27_2).f1)) BK610 NB610_614.out; have n1_ := bP2 (.string ((rd_T42 l0_0 x27_2).f0)) (.string ((rd_T42 l0_0 x27_2).f1)) BK614; have n2_ := hS2 (.string ((rd_T42 l0_0 x27_2).f0)) (.string ((rd_T42 l0_0 x27_2).f1)) GE614 HB; (try clear BK610); (try clear BK614); (try clear HB); generalize ((w19.setCell ⟨gb614, 0, none⟩ (.string ((rd_T42 l0_0 x27_2).f0))).setCell ⟨gb614, 1, none⟩ (.string ((rd_T42 l0_0 x27_2).f1))) = w23 at n0_ n1_ n2_ ⊢
            have BK610 := n0_; have BK614 := n1_; have HB := n2_; clear n0_ n1_ n2_; replace BK610 := am (blk_drew BK610.out); replace BK614 := am (blk_drew BK614.out); replace HB := am (below_drew1 HB.out); refine sS 17 (e2 BK614) fun hHeld => ?_
            refine with_tabW sequiturlaw14_ShowSeqs.tab6 sequiturlaw14_ShowSeqs.bits6 (fun HT_ HW_ => ?_); generalize w23.drew = w24 at BK610 BK614 HB hHeld ⊢
            refine pS 0 31 ?_; refine tS 1 32 ?_; refine pS 2 33 ?_; refine pS 3 34 ?_; refine pS 4 35 ?_; refine pure_ (i := 5) (N := some 36) (v := undef) (a' := ?_) #[true, true, true, true, true, true, false, false, false, false, false, false, false, false, false, false, false] rfl rfl (any_of HT_.out (by kernel_rfl)) (fun _ _ _ h => h) (Or.inr ⟨by rfl, rfl⟩) ?_ ?_
            rotate_left
            · simp only [Act.put, List.setIfInBounds_toArray, List.set_cons_zero, List.set_cons_succ, i64_w, i32_w]
              rfl
            refine pure_ (i := 6) (N := some 37) (v := undef) (a' := ?_) #[true, true, true, true, true, true, true, false, false, false, false, false, false, false, false, false, false] rfl rfl (any_of HT_.out (by kernel_rfl)) (fun _ _ _ h => h) (Or.inr ⟨by rfl, rfl⟩) ?_ ?_
            rotate_left
            · simp only [Act.put, List.setIfInBounds_toArray, List.set_cons_zero, List.set_cons_succ, i64_w, i32_w]
              rfl
            refine pure_ (i := 7) (N := some 38) (v := undef) (a' := ?_) #[true, true, true, true, true, true, true, true, false, false, false, false, false, false, false, false, false] rfl rfl (any_of HT_.out (by kernel_rfl)) (fun _ _ _ h => h) (Or.inr ⟨by rfl, rfl⟩) ?_ ?_
            rotate_left
            · simp only [Act.put, List.setIfInBounds_toArray, List.set_cons_zero, List.set_cons_succ, i64_w, i32_w]
              rfl
            refine pure_ (i := 8) (N := some 39) (v := undef) (a' := ?_) #[true, true, true, true, true, true, true, true, true, false, false, false, false, false, false, false, false] rfl rfl (any_of HT_.out (by kernel_rfl)) (fun _ _ _ h => h) (Or.inr ⟨by rfl, rfl⟩) ?_ ?_
            rotate_left
            · simp only [Act.put, List.setIfInBounds_toArray, List.set_cons_zero, List.set_cons_succ, i64_w, i32_w]
              rfl
            refine pS 9 40 ?_; refine pS 10 41 ?_; refine pure_ (i := 11) (N := some 42) (v := undef) (a' := ?_) #[true, true, true, true, true, true, true, true, true, true, true, true, false, false, false, false, false] rfl rfl (any_of HT_.out (by kernel_rfl)) (fun _ _ _ h => h) (Or.inr ⟨by rfl, rfl⟩) ?_ ?_
            rotate_left
            · simp only [Act.put, List.setIfInBounds_toArray, List.set_cons_zero, List.set_cons_succ, i64_w, i32_w]
              rfl
            refine pure_ (i := 12) (N := some 43) (v := undef) (a' := ?_) #[true, true, true, true, true, true, true, true, true, true, true, true, true, false, false, false, false] rfl rfl (any_of HT_.out (by kernel_rfl)) (fun _ _ _ h => h) (Or.inr ⟨by rfl, rfl⟩) ?_ ?_
            rotate_left
            · simp only [Act.put, List.setIfInBounds_toArray, List.set_cons_zero, List.set_cons_succ, i64_w, i32_w]
              rfl
            refine pure_ (i := 13) (N := some 44) (v := undef) (a' := ?_) #[true, true, true, true, true, true, true, true, true, true, true, true, true, true, false, false, false] rfl rfl (any_of HT_.out (by kernel_rfl)) (fun _ _ _ h => h) (Or.inr ⟨by rfl, rfl⟩) ?_ ?_
            rotate_left
            · simp only [Act.put, List.setIfInBounds_toArray, List.set_cons_zero, List.set_cons_succ, i64_w, i32_w]
              rfl
            refine pure_ (i := 14) (N := some 45) (v := undef) (a' := ?_) #[true, true, true, true, true, true, true, true, true, true, true, true, true, true, true, false, false] rfl rfl (any_of HT_.out (by kernel_rfl)) (fun _ _ _ h => h) (Or.inr ⟨by rfl, rfl⟩) ?_ ?_
            rotate_left
            · simp only [Act.put, List.setIfInBounds_toArray, List.set_cons_zero, List.set_cons_succ, i64_w, i32_w]
              rfl
            refine pure_ (i := 15) (N := some 46) (v := undef) (a' := ?_) #[true, true, true, true, true, true, true, true, true, true, true, true, true, true, true, true, false] rfl rfl (any_of HT_.out (by kernel_rfl)) (fun _ _ _ h => h) (Or.inr ⟨by rfl, rfl⟩) ?_ ?_
            rotate_left
            · simp only [Act.put, List.setIfInBounds_toArray, List.set_cons_zero, List.set_cons_succ, i64_w, i32_w]
              rfl
            refine pS 16 47 ?_; refine done_ (done_of HT_.out (by kernel_rfl)) ?_
            try go_wp2
            go_meet
            case rel => exact ⟨_, (true), eS, H', ⟨by have := HJ1.out; have := HK2.out; first | omega | exact Nat.le_refl _⟩, ⟨bD BK610⟩, ⟨bD BK614⟩, ⟨bB⟩⟩
           ·rw [if_neg c22] at H
            have c22b0 : decide (100 < (((rd_T42 l0_0 x27_2).f0).size : Int)) = false := decide_eq_false c22; have c22b1 : decide (100 < ((rd_T42 l0_0 x27_2).f0).size) = false := decide_eq_false (by omega); clear c22; (first | rw [c22b0] | (simp only [i64_w, i32_w]; rw [c22b0]) | skip)
            by_cases c25 : (((rd_T42 l0_0 x27_2).f1).size : Int) > 100
            ·rw [if_pos c25] at H
             have c25b0 : decide (100 < (((rd_T42 l0_0 x27_2).f1).size : Int)) = true := decide_eq_true c25; have c25b1 : decide (100 < ((rd_T42 l0_0 x27_2).f1).size) = true := decide_eq_true (by omega); clear c25; have H' := am H; clear H
             try go_wp2
             have n0_ := bX2 (.string ((rd_T42 l0_0 x27_2).f0)) (.string ((rd_T42 l0_0 x27_2).f1)) BK610 NB610_614.out; have n1_ := bP2 (.string ((rd_T42 l0_0 x27_2).f0)) (.string ((rd_T42 l0_0 x27_2).f1)) BK614; have n2_ := hS2 (.string ((rd_T42 l0_0 x27_2).f0)) (.string ((rd_T42 l0_0 x27_2).f1)) GE614 HB; (try clear BK610); (try clear BK614); (try clear HB); generalize ((w19.setCell ⟨gb614, 0, none⟩ (.string ((rd_T42 l0_0 x27_2).f0))).setCell ⟨gb614, 1, none⟩ (.string ((rd_T42 l0_0 x27_2).f1))) = w26 at n0_ n1_ n2_ ⊢
             have BK610 := n0_; have BK614 := n1_; have HB := n2_; clear n0_ n1_ n2_; replace BK610 := am (blk_drew BK610.out); replace BK614 := am (blk_drew BK614.out); replace HB := am (below_drew1 HB.out); refine sS 17 (e2 BK614) fun hHeld => ?_
             refine with_tabW sequiturlaw14_ShowSeqs.tab6 sequiturlaw14_ShowSeqs.bits6 (fun HT_ HW_ => ?_); generalize w26.drew = w27 at BK610 BK614 HB hHeld ⊢
             refine pS 0 31 ?_; refine tS 1 32 ?_; refine pS 2 33 ?_; refine pS 3 34 ?_; refine pS 4 35 ?_; refine pS 5 36 ?_; refine tS 6 37 ?_; refine pS 7 38 ?_; refine pS 8 39 ?_; refine pS 9 40 ?_; refine pS 10 41 ?_; refine pure_ (i := 11) (N := some 42) (v := undef) (a' := ?_) #[true, true, true, true, true, true, true, true, true, true, true, true, false, false, false, false, false] rfl rfl (any_of HT_.out (by kernel_rfl)) (fun _ _ _ h => h) (Or.inr ⟨by rfl, rfl⟩) ?_ ?_
             rotate_left
             · simp only [Act.put, List.setIfInBounds_toArray, List.set_cons_zero, List.set_cons_succ, i64_w, i32_w]
               rfl
             refine pure_ (i := 12) (N := some 43) (v := undef) (a' := ?_) #[true, true, true, true, true, true, true, true, true, true, true, true, true, false, false, false, false] rfl rfl (any_of HT_.out (by kernel_rfl)) (fun _ _ _ h => h) (Or.inr ⟨by rfl, rfl⟩) ?_ ?_
             rotate_left
             · simp only [Act.put, List.setIfInBounds_toArray, List.set_cons_zero, List.set_cons_succ, i64_w, i32_w]
               rfl
             refine pure_ (i := 13) (N := some 44) (v := undef) (a' := ?_) #[true, true, true, true, true, true, true, true, true, true, true, true, true, true, false, false, false] rfl rfl (any_of HT_.out (by kernel_rfl)) (fun _ _ _ h => h) (Or.inr ⟨by rfl, rfl⟩) ?_ ?_
             rotate_left
             · simp only [Act.put, List.setIfInBounds_toArray, List.set_cons_zero, List.set_cons_succ, i64_w, i32_w]
               rfl
             refine pure_ (i := 14) (N := some 45) (v := undef) (a' := ?_) #[true, true, true, true, true, true, true, true, true, true, true, true, true, true, true, false, false] rfl rfl (any_of HT_.out (by kernel_rfl)) (fun _ _ _ h => h) (Or.inr ⟨by rfl, rfl⟩) ?_ ?_
             rotate_left
             · simp only [Act.put, List.setIfInBounds_toArray, List.set_cons_zero, List.set_cons_succ, i64_w, i32_w]
               rfl
             refine pure_ (i := 15) (N := some 46) (v := undef) (a' := ?_) #[true, true, true, true, true, true, true, true, true, true, true, true, true, true, true, true, false] rfl rfl (any_of HT_.out (by kernel_rfl)) (fun _ _ _ h => h) (Or.inr ⟨by rfl, rfl⟩) ?_ ?_
             rotate_left
             · simp only [Act.put, List.setIfInBounds_toArray, List.set_cons_zero, List.set_cons_succ, i64_w, i32_w]
               rfl
             refine pS 16 47 ?_; refine done_ (done_of HT_.out (by kernel_rfl)) ?_
             try go_wp2
             go_meet
             case rel => exact ⟨_, (true), eS, H', ⟨by have := HJ1.out; have := HK2.out; first | omega | exact Nat.le_refl _⟩, ⟨bD BK610⟩, ⟨bD BK614⟩, ⟨bB⟩⟩
            ·rw [if_neg c25] at H
             have c25b0 : decide (100 < (((rd_T42 l0_0 x27_2).f1).size : Int)) = false := decide_eq_false c25; have c25b1 : decide (100 < ((rd_T42 l0_0 x27_2).f1).size) = false := decide_eq_false (by omega); clear c25; obtain ⟨t615, A28, H⟩ := bO H; obtain ⟨t616, A29, H⟩ := bO H; have H' := am H; clear H
             try go_wp2
             have n0_ := bX2 (.string ((rd_T42 l0_0 x27_2).f0)) (.string ((rd_T42 l0_0 x27_2).f1)) BK610 NB610_614.out; have n1_ := bP2 (.string ((rd_T42 l0_0 x27_2).f0)) (.string ((rd_T42 l0_0 x27_2).f1)) BK614; have n2_ := hS2 (.string ((rd_T42 l0_0 x27_2).f0)) (.string ((rd_T42 l0_0 x27_2).f1)) GE614 HB; (try clear BK610); (try clear BK614); (try clear HB); generalize ((w19.setCell ⟨gb614, 0, none⟩ (.string ((rd_T42 l0_0 x27_2).f0))).setCell ⟨gb614, 1, none⟩ (.string ((rd_T42 l0_0 x27_2).f1))) = w30 at n0_ n1_ n2_ ⊢
             have BK610 := n0_; have BK614 := n1_; have HB := n2_; clear n0_ n1_ n2_; replace BK610 := am (blk_drew BK610.out); replace BK614 := am (blk_drew BK614.out); replace HB := am (below_drew1 HB.out); refine sS 17 (e2 BK614) fun hHeld => ?_
             refine with_tabW sequiturlaw14_ShowSeqs.tab6 sequiturlaw14_ShowSeqs.bits6 (fun HT_ HW_ => ?_); generalize w30.drew = w31 at BK610 BK614 HB hHeld ⊢
             refine pS 0 31 ?_; refine tS 1 32 ?_; refine pS 2 33 ?_; refine pS 3 34 ?_; refine pS 4 35 ?_; refine pS 5 36 ?_; refine tS 6 37 ?_; refine pS 7 38 ?_; refine pS 8 39 ?_; refine pS 9 40 ?_; refine pS 10 41 ?_; refine tS 11 42 ?_; refine tS 13 44 ?_; refine oS 12 43 fun K hK => ?_
             refine goS Tryd.func15 #[.agg #[.string ((rd_T42 l0_0 x27_2).f0), .string ((rd_T42 l0_0 x27_2).f1)]] ?_; (with_reducible refine (show_Var.calls ((rd_T42 l0_0 x27_2).f0) ((rd_T42 l0_0 x27_2).f1) t615 _ A28.out).mono ?_); rintro e w32 ⟨rfl, hb⟩; refine ⟨_, rfl, ?_⟩; replace BK610 := bK BK610 hb; replace BK614 := bK BK614 hb; replace HB := bH hb; clear hb; refine hK.out _ _ (e2 BK614) fun hHeld => ?_
             clear hK K; refine nS 43 ?_; refine oS 14 45 fun K hK => ?_
             refine goS Tryd.func16 #[.agg #[.string ((rd_T42 l0_0 x27_2).f0), .string ((rd_T42 l0_0 x27_2).f1)]] ?_; (with_reducible refine (sequiturref14_Var.calls ((rd_T42 l0_0 x27_2).f0) ((rd_T42 l0_0 x27_2).f1) t616 _ A29.out).mono ?_); rintro e w33 ⟨rfl, hb⟩; refine ⟨_, rfl, ?_⟩; replace BK610 := bK BK610 hb; replace BK614 := bK BK614 hb; replace HB := bH hb; clear hb; refine hK.out _ _ (e2 BK614) fun hHeld => ?_
             clear hK K; refine nS 45 ?_; refine pS 15 46 ?_; refine pS 16 47 ?_; refine done_ (done_of HT_.out (by kernel_rfl)) ?_
             try go_wp2
             go_meet
             case rel => exact ⟨_, ((t615.toList != t616.toList)), eS, H', ⟨by have := HJ1.out; have := HK2.out; first | omega | exact Nat.le_refl _⟩, ⟨bD BK610⟩, ⟨bD BK614⟩, ⟨bB⟩⟩
          case rest =>
           clear HC18; (try clear c1); (try clear c2); (try clear p2); (try clear p6); (try clear q6); (try clear hx6); (try clear c15); (try clear c15b0); (try clear c16); (try clear c16b0); (try clear c17); (try clear c17b0); (try clear c20); (try clear c22); (try clear c22b0); (try clear c22b1); (try clear c25); (try clear c25b0); (try clear c25b1); (try clear z14_2 z14_3 z14_4 z14_5 z14_6); (try clear z21_0 z21_1); (try clear z5_0 z5_1 z5_2 z5_3 z5_4 z5_5 z5_6); (try clear z7_0 z7_1 z7_2 z7_3 z7_4 z7_5 z7_6); (try clear z9_0 z9_1 z9_2 z9_3 z9_4 z9_5 z9_6); (try clear y14_0 y14_1 y14_2 y14_3 y14_4 y14_5 y14_6); (try clear y21_0 y21_1); (try clear y5_0 y5_1 y5_2 y5_3 y5_4 y5_5 y5_6); (try clear y7_0 y7_1 y7_2 y7_3 y7_4 y7_5 y7_6); (try clear y9_0 y9_1 y9_2 y9_3 y9_4 y9_5 y9_6); (try clear hx613_0); (try clear hx613_1); (try clear p2); (try clear p613); (try clear q613); obtain ⟨kq, x47_17, rfl, HA, HJ17, BK610, BK614, HB⟩ := hcut
           cases kq with
           | zero => exact absurd HA.out (by simp [sequiturlaw14_ShowSeqs.j2])
           | succ kj17 =>
            have H := HA.out; clear HA; simp only [sequiturlaw14_ShowSeqs.j2] at H
            by_cases c34 : x47_17 = true
            ·subst c34
             rw [if_pos rfl] at H
             by_cases c35 : (((rd_T42 l0_0 x27_2).f0).size : Int) > 100
             ·rw [if_pos c35] at H
              have c35b0 : decide (100 < (((rd_T42 l0_0 x27_2).f0).size : Int)) = true := decide_eq_true c35; have c35b1 : decide (100 < ((rd_T42 l0_0 x27_2).f0).size) = true := decide_eq_true (by omega); clear c35; obtain rfl := Option.some.inj H; have hnb36 := NB614_610.out; have hnc36 := NB610_614.out; obtain ⟨z37_0, z37_1, y37_0, y37_1⟩ := y2 BK614; go_wp2; go_ret; exact ⟨eW, bB⟩
             ·rw [if_neg c35] at H
              have c35b0 : decide (100 < (((rd_T42 l0_0 x27_2).f0).size : Int)) = false := decide_eq_false c35; have c35b1 : decide (100 < ((rd_T42 l0_0 x27_2).f0).size) = false := decide_eq_false (by omega); clear c35; obtain rfl := Option.some.inj H; have hnb38 := NB614_610.out; have hnc38 := NB610_614.out; obtain ⟨z39_0, z39_1, y39_0, y39_1⟩ := y2 BK614; go_wp2; go_ret; exact ⟨eW, bB⟩
            ·replace c34 := Bool.eq_false_iff.mpr c34
             subst c34; rw [if_neg (show ¬ (false = true) by decide)] at H; have H' := am H; clear H; go_wp2
             go_roundg kj17
             case measure => have := HJ1.out; have := HK2.out; have := HJ17.out; omega
             case rel => exact ⟨(wrap64 (x27_2 + 1)), eS, H', ⟨by have := HJ1.out; have := HK2.out; have := HJ17.out; omega⟩, ⟨bD BK610⟩, ⟨bB⟩⟩
         ·rw [if_neg c17] at H
          exact absurd H (by simp)
        ·rw [if_neg c16] at H
         exact absurd H (by simp)
       ·rw [if_neg c15] at H
        have c15b0 : decide (x27_2 < (l0_0.length : Int)) = false := decide_eq_false c15; clear c15; have H' := am H; clear H; obtain ⟨z40_0, z40_1, z40_2, z40_3, z40_4, z40_5, z40_6, y40_0, y40_1, y40_2, y40_3, y40_4, y40_5, y40_6⟩ := y7 BK610; go_wp2
        go_loopg [62] k2 (fun kq v62 w' => ∃ (x62_3 : Int), v62 = .int .i64 x62_3 ∧ Aside0 (sequiturlaw14_ShowSeqs.l1 kq l0_1 (l0_1.length : Int) x62_3 l0_0 l0_1 a0_2 a0_3 a0_4 l0_5 l0_6 = some r) ∧ Aside0 (kq ≤ k2) ∧ Aside0 (w'.heap[gb610]? = some (.cells #[(.slice A0_0 l0_0.length c0_0), (.slice A0_1 l0_1.length c0_1), .int .i64 a0_2, .string a0_3, .string a0_4, (.slice A0_5 l0_5.length c0_5), (.slice A0_6 l0_6.length c0_6)] 40 (0, 0))) ∧ Aside0 (Below w.heap.size w w'))
        case atStart => exact ⟨(0), eS, H', ⟨Nat.le_refl _⟩, ⟨bD BK610⟩, ⟨bB⟩⟩
        case round =>
         clear H'; (try clear c1); (try clear c2); (try clear p2); (try clear c3); (try clear p6); (try clear q6); (try clear hx6); (try clear c15); (try clear c15b0); (try clear c16); (try clear c16b0); (try clear c17); (try clear c17b0); (try clear c20); (try clear c22); (try clear c22b0); (try clear c22b1); (try clear c25); (try clear c25b0); (try clear c25b1); (try clear c34); (try clear c35); (try clear c35b0); (try clear c35b1); (try clear c36); (try clear c38); (try clear z14_2 z14_3 z14_4 z14_5 z14_6); (try clear z21_0 z21_1); (try clear z37_0 z37_1); (try clear z39_0 z39_1); (try clear z40_0 z40_1 z40_2 z40_3 z40_4 z40_5 z40_6); (try clear z5_0 z5_1 z5_2 z5_3 z5_4 z5_5 z5_6); (try clear z7_0 z7_1 z7_2 z7_3 z7_4 z7_5 z7_6); (try clear z9_0 z9_1 z9_2 z9_3 z9_4 z9_5 z9_6); (try clear y14_0 y14_1 y14_2 y14_3 y14_4 y14_5 y14_6); (try clear y21_0 y21_1); (try clear y37_0 y37_1); (try clear y39_0 y39_1); try clear y40_0 y40_1 y40_2 y40_3 y40_4 y40_5 y40_6
         (try clear y5_0 y5_1 y5_2 y5_3 y5_4 y5_5 y5_6); (try clear y7_0 y7_1 y7_2 y7_3 y7_4 y7_5 y7_6); (try clear y9_0 y9_1 y9_2 y9_3 y9_4 y9_5 y9_6); (try clear hx613_0); (try clear hx613_1); (try clear p2); (try clear p6); (try clear p613); (try clear q6); (try clear q613); obtain ⟨x62_3, rfl, HA, HK3, BK610, HB⟩ := hrel
         cases gk with
         | zero => exact absurd HA.out (by simp [sequiturlaw14_ShowSeqs.l1])
         | succ k3 =>
          have H := HA.out; clear HA; simp only [sequiturlaw14_ShowSeqs.l1] at H
          by_cases c41 : x62_3 < (l0_1.length : Int)
          ·rw [if_pos c41] at H
           have c41b0 : decide (x62_3 < (l0_1.length : Int)) = true := decide_eq_true c41; clear c41
           by_cases c42 : 0 ≤ x62_3
           ·rw [if_pos c42] at H
            have c42b0 : decide (0 ≤ x62_3) = true := decide_eq_true c42; clear c42
            by_cases c43 : x62_3 < (l0_1.length : Int)
            ·rw [if_pos c43] at H
             have c43b0 : decide (x62_3 < (l0_1.length : Int)) = true := decide_eq_true c43; clear c43
             by_cases c44 : (((rd_T45 l0_1 x62_3).f0).size : Int) > 100
             ·rw [if_pos c44] at H
              have c44b0 : decide (100 < (((rd_T45 l0_1 x62_3).f0).size : Int)) = true := decide_eq_true c44; have c44b1 : decide (100 < ((rd_T45 l0_1 x62_3).f0).size) = true := decide_eq_true (by omega); clear c44; obtain ⟨t620, A45, H⟩ := bO H; obtain rfl := Option.some.inj H; have p617 : 0 ≤ (x62_3 : Int) := of_decide_eq_true eA; have q617 : x62_3 < (l0_1.length : Int) := of_decide_eq_true eA; obtain ⟨ad617, A617_4, c617_4, A617_5, c617_5, e617, hx617_0, hx617_1, hx617_2, hx617_3, hx617_4, hx617_5, hl617_4, hi617_4, hl617_5, hi617_5⟩ := at_T45 HR0_1.out x62_3 p617 q617
              cases e617
              replace hx617_0 := cX HB hx617_0; replace hx617_1 := cX HB hx617_1; replace hx617_2 := cX HB hx617_2; replace hx617_3 := cX HB hx617_3; replace hx617_4 := cX HB hx617_4; replace hx617_5 := cX HB hx617_5; have HR617_4 := am hi617_4; have HC617_4 := am hl617_4; clear hi617_4 hl617_4; have HR617_5 := am hi617_5; have HC617_5 := am hl617_5; clear hi617_5 hl617_5; replace p617 := eq_true p617; replace q617 := eq_true q617
              go_wp2_with (first | ((with_reducible refine gate_dst (N := 6) rfl ?_); (try (refine gate_guard (by rfl) ?_; dsimp only)); refine bE 6 #[.string (⟨#[]⟩ : ByteArray), .int .i64 0, .string (⟨#[]⟩ : ByteArray), .string (⟨#[]⟩ : ByteArray), .slice none 0 0, .slice none 0 0] 45 ?_; intro gb618 w46 BK618 hg hb; have GW618 := bZ hg; have GE618 := bZ hg; replace HB := bH hb; have NB610_618 := bN BK610 hg; have NB618_610 := bM BK610 hg; replace BK610 := bK BK610 hb; clear hb hg; have hnb47 := NB618_610.out; have hnc47 := NB610_618.out; obtain ⟨z48_0, z48_1, z48_2, z48_3, z48_4, z48_5, y48_0, y48_1, y48_2, y48_3, y48_4, y48_5⟩ := y6 BK618) | ((with_reducible refine gate_callee (f := 7) rfl ?_); refine gL 76 Tryd.func7 #[] ?_; (with_reducible refine (law14_alive.calls  t620 _ ?side1 A45.out).mono ?_); (case side1 => exact Laid.below HG.out bB); rintro e w49 ⟨rfl, hb⟩; refine ⟨_, rfl, ?_⟩; replace BK610 := bK (bX6 _ _ _ _ _ _ BK610 NB610_618.out) hb; replace BK618 := bK (bP6 (.string ((rd_T45 l0_1 x62_3).f0)) (.int .i64 ((rd_T45 l0_1 x62_3).f1.f0)) (.string ((rd_T45 l0_1 x62_3).f1.f1)) (.string ((rd_T45 l0_1 x62_3).f1.f2)) (.slice A617_4 ((rd_T45 l0_1 x62_3).f1.f3).length c617_4) (.slice A617_5 ((rd_T45 l0_1 x62_3).f1.f4).length c617_5) BK618) hb; replace HB := bH hb; clear hb))
              go_ret; exact ⟨eW, bB⟩
             ·rw [if_neg c44] at H
              have c44b0 : decide (100 < (((rd_T45 l0_1 x62_3).f0).size : Int)) = false := decide_eq_false c44; have c44b1 : decide (100 < ((rd_T45 l0_1 x62_3).f0).size) = false := decide_eq_false (by omega); clear c44; obtain ⟨t619, A50, H⟩ := bO H
              by_cases c51 : t619 = true
              ·subst c51
               rw [if_pos rfl] at H; have H' := am H; clear H; have p617 : 0 ≤ (x62_3 : Int) := of_decide_eq_true eA; have q617 : x62_3 < (l0_1.length : Int) := of_decide_eq_true eA; obtain ⟨ad617, A617_4, c617_4, A617_5, c617_5, e617, hx617_0, hx617_1, hx617_2, hx617_3, hx617_4, hx617_5, hl617_4, hi617_4, hl617_5, hi617_5⟩ := at_T45 HR0_1.out x62_3 p617 q617
               cases e617
               replace hx617_0 := cX HB hx617_0; replace hx617_1 := cX HB hx617_1; replace hx617_2 := cX HB hx617_2; replace hx617_3 := cX HB hx617_3; replace hx617_4 := cX HB hx617_4; replace hx617_5 := cX HB hx617_5; have HR617_4 := am hi617_4; have HC617_4 := am hl617_4; clear hi617_4 hl617_4; have HR617_5 := am hi617_5; have HC617_5 := am hl617_5; clear hi617_5 hl617_5; replace p617 := eq_true p617; replace q617 := eq_true q617
               go_wp2_with (first | ((with_reducible refine gate_dst (N := 6) rfl ?_); (try (refine gate_guard (by rfl) ?_; dsimp only)); refine bE 6 #[.string (⟨#[]⟩ : ByteArray), .int .i64 0, .string (⟨#[]⟩ : ByteArray), .string (⟨#[]⟩ : ByteArray), .slice none 0 0, .slice none 0 0] 45 ?_; intro gb618 w52 BK618 hg hb; have GW618 := bZ hg; have GE618 := bZ hg; replace HB := bH hb; have NB610_618 := bN BK610 hg; have NB618_610 := bM BK610 hg; replace BK610 := bK BK610 hb; clear hb hg; have hnb53 := NB618_610.out; have hnc53 := NB610_618.out; obtain ⟨z54_0, z54_1, z54_2, z54_3, z54_4, z54_5, y54_0, y54_1, y54_2, y54_3, y54_4, y54_5⟩ := y6 BK618) | (go_at_call 11; (with_reducible refine (sequiturlaw14_Plain.calls k3 ((rd_T45 l0_1 x62_3).f1.f0) ((rd_T45 l0_1 x62_3).f1.f1) ((rd_T45 l0_1 x62_3).f1.f2) _ _ ((rd_T45 l0_1 x62_3).f1.f3) _ _ ((rd_T45 l0_1 x62_3).f1.f4) 200 true _ ?side1 HC617_4.out ?side3 HC617_5.out A50.out).mono ?_); (case side1 => exact Kd.C_below HR617_4.out bB); (case side3 => exact Kd.C_below HR617_5.out bB); rintro e w55 ⟨rfl, hb⟩; replace BK610 := bK (bX6 _ _ _ _ _ _ BK610 NB610_618.out) hb; replace BK618 := bK (bP6 (.string ((rd_T45 l0_1 x62_3).f0)) (.int .i64 ((rd_T45 l0_1 x62_3).f1.f0)) (.string ((rd_T45 l0_1 x62_3).f1.f1)) (.string ((rd_T45 l0_1 x62_3).f1.f2)) (.slice A617_4 ((rd_T45 l0_1 x62_3).f1.f3).length c617_4) (.slice A617_5 ((rd_T45 l0_1 x62_3).f1.f4).length c617_5) BK618) hb; replace HB := bH hb; clear hb))
               go_roundg k3
               case measure => have := HJ1.out; have := HK2.out; have := HK3.out; omega
               case rel => exact ⟨(wrap64 (x62_3 + 1)), eS, H', ⟨by have := HJ1.out; have := HK2.out; have := HK3.out; omega⟩, ⟨bD BK610⟩, ⟨bB⟩⟩
              ·replace c51 := Bool.eq_false_iff.mpr c51
               subst c51; rw [if_neg (show ¬ (false = true) by decide)] at H; obtain ⟨t621, A56, H⟩ := bO H; obtain rfl := Option.some.inj H; have p617 : 0 ≤ (x62_3 : Int) := of_decide_eq_true eA; have q617 : x62_3 < (l0_1.length : Int) := of_decide_eq_true eA; obtain ⟨ad617, A617_4, c617_4, A617_5, c617_5, e617, hx617_0, hx617_1, hx617_2, hx617_3, hx617_4, hx617_5, hl617_4, hi617_4, hl617_5, hi617_5⟩ := at_T45 HR0_1.out x62_3 p617 q617
               cases e617
               replace hx617_0 := cX HB hx617_0; replace hx617_1 := cX HB hx617_1; replace hx617_2 := cX HB hx617_2; replace hx617_3 := cX HB hx617_3; replace hx617_4 := cX HB hx617_4; replace hx617_5 := cX HB hx617_5; have HR617_4 := am hi617_4; have HC617_4 := am hl617_4; clear hi617_4 hl617_4; have HR617_5 := am hi617_5; have HC617_5 := am hl617_5; clear hi617_5 hl617_5; replace p617 := eq_true p617; replace q617 := eq_true q617
               go_wp2_with (first | ((with_reducible refine gate_dst (N := 6) rfl ?_); (try (refine gate_guard (by rfl) ?_; dsimp only)); refine bE 6 #[.string (⟨#[]⟩ : ByteArray), .int .i64 0, .string (⟨#[]⟩ : ByteArray), .string (⟨#[]⟩ : ByteArray), .slice none 0 0, .slice none 0 0] 45 ?_; intro gb618 w57 BK618 hg hb; have GW618 := bZ hg; have GE618 := bZ hg; replace HB := bH hb; have NB610_618 := bN BK610 hg; have NB618_610 := bM BK610 hg; replace BK610 := bK BK610 hb; clear hb hg; have hnb58 := NB618_610.out; have hnc58 := NB610_618.out; obtain ⟨z59_0, z59_1, z59_2, z59_3, z59_4, z59_5, y59_0, y59_1, y59_2, y59_3, y59_4, y59_5⟩ := y6 BK618) | (go_at_call 11; (with_reducible refine (sequiturlaw14_Plain.calls k3 ((rd_T45 l0_1 x62_3).f1.f0) ((rd_T45 l0_1 x62_3).f1.f1) ((rd_T45 l0_1 x62_3).f1.f2) _ _ ((rd_T45 l0_1 x62_3).f1.f3) _ _ ((rd_T45 l0_1 x62_3).f1.f4) 200 false _ ?side1 HC617_4.out ?side3 HC617_5.out A50.out).mono ?_); (case side1 => exact Kd.C_below HR617_4.out bB); (case side3 => exact Kd.C_below HR617_5.out bB); rintro e w60 ⟨rfl, hb⟩; replace BK610 := bK (bX6 _ _ _ _ _ _ BK610 NB610_618.out) hb; replace BK618 := bK (bP6 (.string ((rd_T45 l0_1 x62_3).f0)) (.int .i64 ((rd_T45 l0_1 x62_3).f1.f0)) (.string ((rd_T45 l0_1 x62_3).f1.f1)) (.string ((rd_T45 l0_1 x62_3).f1.f2)) (.slice A617_4 ((rd_T45 l0_1 x62_3).f1.f3).length c617_4) (.slice A617_5 ((rd_T45 l0_1 x62_3).f1.f4).length c617_5) BK618) hb; replace HB := bH hb; clear hb) | ((with_reducible refine gate_callee (f := 7) rfl ?_); refine gL 76 Tryd.func7 #[] ?_; (with_reducible refine (law14_alive.calls  t621 _ ?side1 A56.out).mono ?_); (case side1 => exact Laid.below HG.out bB); rintro e w61 ⟨rfl, hb⟩; refine ⟨_, rfl, ?_⟩; replace BK610 := bK BK610 hb; replace BK618 := bK BK618 hb; replace HB := bH hb; clear hb))
               go_ret; exact ⟨eW, bB⟩
            ·rw [if_neg c43] at H
             exact absurd H (by simp)
           ·rw [if_neg c42] at H
            exact absurd H (by simp)
          ·rw [if_neg c41] at H
           have c41b0 : decide (x62_3 < (l0_1.length : Int)) = false := decide_eq_false c41; clear c41; obtain ⟨t622, A62, H⟩ := bO H; obtain ⟨t623, A63, H⟩ := bO H
           by_cases c64 : t622.toList = t623.toList
           ·rw [if_pos c64] at H
            have c64b0 := beq_iff_eq.mpr c64; have c64b1 := bne_eq_false_iff_eq.mpr c64; clear c64; obtain ⟨t624, A65, H⟩ := bO H; obtain rfl := Option.some.inj H
            try go_wp2
            replace BK610 := am (blk_drew BK610.out); replace HB := am (below_drew1 HB.out); refine sS 9 (e7 BK610) fun hHeld => ?_
            refine with_tabW sequiturlaw14_ShowSeqs.tab15 sequiturlaw14_ShowSeqs.bits15 (fun HT_ HW_ => ?_); generalize wr.drew = w66 at BK610 HB hHeld ⊢
            refine tS 0 78 ?_; refine tS 2 80 ?_; refine oS 1 79 fun K hK => ?_
            refine goS Tryd.func17 #[.agg #[.slice A0_0 l0_0.length c0_0, .slice A0_1 l0_1.length c0_1, .int .i64 a0_2, .string a0_3, .string a0_4, .slice A0_5 l0_5.length c0_5, .slice A0_6 l0_6.length c0_6]] ?_; (with_reducible refine (show_Seq.calls k3 _ _ l0_0 _ _ l0_1 a0_2 a0_3 a0_4 _ _ l0_5 _ _ l0_6 t622 _ ?side1 ?side2 HC0_0.out ?side4 HC0_1.out ?side6 HC0_5.out ?side8 HC0_6.out A62.out).mono ?_); (case side1 => exact Laid.below HG.out bB); (case side2 => exact cB HR0_0); (case side4 => exact cB HR0_1); (case side6 => exact cB HR0_5); (case side8 => exact cB HR0_6); rintro e w67 ⟨rfl, hb⟩; refine ⟨_, rfl, ?_⟩; replace BK610 := bK BK610 hb; replace HB := bH hb; clear hb; refine hK.out _ _ (e7 BK610) fun hHeld => ?_
            clear hK K; refine nS 79 ?_; refine oS 3 81 fun K hK => ?_
            refine goS Tryd.func18 #[.agg #[.slice A0_0 l0_0.length c0_0, .slice A0_1 l0_1.length c0_1, .int .i64 a0_2, .string a0_3, .string a0_4, .slice A0_5 l0_5.length c0_5, .slice A0_6 l0_6.length c0_6]] ?_; (with_reducible refine (sequiturref14_Seq.calls k3 _ _ l0_0 _ _ l0_1 a0_2 a0_3 a0_4 _ _ l0_5 _ _ l0_6 t623 _ ?side1 HC0_0.out ?side3 HC0_1.out ?side5 HC0_5.out ?side7 HC0_6.out A63.out).mono ?_); (case side1 => exact cB HR0_0); (case side3 => exact cB HR0_1); (case side5 => exact cB HR0_5); (case side7 => exact cB HR0_6); rintro e w68 ⟨rfl, hb⟩; refine ⟨_, rfl, ?_⟩; replace BK610 := bK BK610 hb; replace HB := bH hb; clear hb; refine hK.out _ _ (e7 BK610) fun hHeld => ?_
            clear hK K; refine nS 81 ?_; refine pS 4 82 ?_; refine pS 5 83 ?_; refine oS 6 84 fun K hK => ?_
            refine goS Tryd.func7 #[] ?_; (with_reducible refine (law14_alive.calls  t624 _ ?side1 A65.out).mono ?_); (case side1 => exact Laid.below HG.out bB); rintro e w69 ⟨rfl, hb⟩; refine ⟨_, rfl, ?_⟩; replace BK610 := bK BK610 hb; replace HB := bH hb; clear hb; refine hK.out _ _ (e7 BK610) fun hHeld => ?_
            clear hK K; refine nS 84 ?_; refine pS 7 85 ?_; refine pS 8 2 ?_; refine done_ (done_of HT_.out (by kernel_rfl)) ?_
            try go_wp2
            go_ret; exact ⟨eW, bB⟩
           ·rw [if_neg c64] at H
            have c64b0 := beq_eq_false_iff_ne.mpr c64; have c64b1 := bne_iff_ne.mpr c64; obtain rfl := Option.some.inj H
            try go_wp2
            replace BK610 := am (blk_drew BK610.out); replace HB := am (below_drew1 HB.out); refine sS 9 (e7 BK610) fun hHeld => ?_
            refine with_tabW sequiturlaw14_ShowSeqs.tab15 sequiturlaw14_ShowSeqs.bits15 (fun HT_ HW_ => ?_); generalize wr.drew = w70 at BK610 HB hHeld ⊢
            refine tS 0 78 ?_; refine tS 2 80 ?_; refine oS 1 79 fun K hK => ?_
            refine goS Tryd.func17 #[.agg #[.slice A0_0 l0_0.length c0_0, .slice A0_1 l0_1.length c0_1, .int .i64 a0_2, .string a0_3, .string a0_4, .slice A0_5 l0_5.length c0_5, .slice A0_6 l0_6.length c0_6]] ?_; (with_reducible refine (show_Seq.calls k3 _ _ l0_0 _ _ l0_1 a0_2 a0_3 a0_4 _ _ l0_5 _ _ l0_6 t622 _ ?side1 ?side2 HC0_0.out ?side4 HC0_1.out ?side6 HC0_5.out ?side8 HC0_6.out A62.out).mono ?_); (case side1 => exact Laid.below HG.out bB); (case side2 => exact cB HR0_0); (case side4 => exact cB HR0_1); (case side6 => exact cB HR0_5); (case side8 => exact cB HR0_6); rintro e w71 ⟨rfl, hb⟩; refine ⟨_, rfl, ?_⟩; replace BK610 := bK BK610 hb; replace HB := bH hb; clear hb; refine hK.out _ _ (e7 BK610) fun hHeld => ?_
            clear hK K; refine nS 79 ?_; refine oS 3 81 fun K hK => ?_
            refine goS Tryd.func18 #[.agg #[.slice A0_0 l0_0.length c0_0, .slice A0_1 l0_1.length c0_1, .int .i64 a0_2, .string a0_3, .string a0_4, .slice A0_5 l0_5.length c0_5, .slice A0_6 l0_6.length c0_6]] ?_; (with_reducible refine (sequiturref14_Seq.calls k3 _ _ l0_0 _ _ l0_1 a0_2 a0_3 a0_4 _ _ l0_5 _ _ l0_6 t623 _ ?side1 HC0_0.out ?side3 HC0_1.out ?side5 HC0_5.out ?side7 HC0_6.out A63.out).mono ?_); (case side1 => exact cB HR0_0); (case side3 => exact cB HR0_1); (case side5 => exact cB HR0_5); (case side7 => exact cB HR0_6); rintro e w72 ⟨rfl, hb⟩; refine ⟨_, rfl, ?_⟩; replace BK610 := bK BK610 hb; replace HB := bH hb; clear hb; refine hK.out _ _ (e7 BK610) fun hHeld => ?_
            clear hK K; refine nS 81 ?_; refine pS 4 82 ?_; refine pS 5 83 ?_; refine pure_ (i := 6) (N := some 84) (v := undef) (a' := ?_) #[true, true, true, true, true, true, true, false, false] rfl rfl (any_of HT_.out (by kernel_rfl)) (fun _ _ _ h => h) (Or.inr ⟨by rfl, rfl⟩) ?_ ?_
            rotate_left
            · simp only [Act.put, List.setIfInBounds_toArray, List.set_cons_zero, List.set_cons_succ, i64_w, i32_w]
              rfl
            refine pS 7 85 ?_; refine pS 8 2 ?_; refine done_ (done_of HT_.out (by kernel_rfl)) ?_
            try go_wp2
            go_ret; exact ⟨eW, bB⟩
end Go.Proofs.YtmlkllbaehegjaaDoor.PAll
end
section
namespace Go.Proofs.YtmlkllbaehegjaaDoor.PAll
open Go.RowKit
open Go.Proofs.YtmlkllbaehegjaaDoor
open Go.Proofs.YtmlkllbaehegjaaDoorW.PrintWords (rdOf)
theorem claim_text (t : S30) (h : wC t ≤ 1000) (hr : RC t) (hn : NC t) (ho : OC t) :
    ∃ s, Ev (fun k => show_Claim.f k t.f0 t.f1 t.f2 t.f3 t.f4) s ∧ Ev (fun k => sequiturref14_Claim.f k t.f0 t.f1 t.f2 t.f3 t.f4) s ∧ s.size ≤ 300 * wC t := by
  have hl := nmC_len t
  obtain ⟨s, s1, s2, s3⟩ := claim_both 1000 t h (by omega) hr hn ho (nmC t) [] (by simp) (by omega) (by simp) 1 true (by omega) (by omega)
  refine ⟨s, ?_, ?_, by omega⟩
  · have := shower_claim_ev 1000 t h (by omega) [] (by simp; omega)
    rw [List.nil_append] at this
    exact Ev.bind this s1
  · exact Ev.bind (names_ev 1000 t h (by omega)) (Ev.bind s2 (Ev.const _))
theorem rd42 {l : List S42} {i : Nat} (hi : i < l.length) : rd_T42 l (i : Int) = l[i] := by simp [rd_T42, hi]
theorem rd45 {l : List S45} {i : Nat} (hi : i < l.length) : rd_T45 l (i : Int) = l[i] := by simp [rd_T45, hi]
theorem var_eq (a b : ByteArray) (ha : a.size ≤ 100) (hb : b.size ≤ 100) : ∃ s, show_Var.f a b = some s ∧ sequiturref14_Var.f a b = some s ∧ s.size ≤ 202 := by
  have z : (⟨#[58, 32]⟩ : ByteArray).size = 2 := rfl
  refine ⟨(a ++ (⟨#[58, 32]⟩ : ByteArray)) ++ b, ?_, ?_, by simp only [ByteArray.size_append]; omega⟩
  · unfold show_Var.f
    rw [if_pos (by omega), if_pos (by simp only [ByteArray.size_append]; omega)]
  · unfold sequiturref14_Var.f
    rw [if_pos (by omega), if_pos (by simp only [ByteArray.size_append]; omega)]
def GoodV (x : S42) : Prop := x.f0.size ≤ 100 ∧ x.f1.size ≤ 100
def GoodH (x : S45) : Prop := x.f0.size ≤ 100 ∧ wC x.f1 ≤ 200 ∧ RC x.f1 ∧ NC x.f1
theorem seq_text (l0 : List S42) (l1 : List S45) (g : S30) (n0 : l0.length ≤ 20) (n1 : l1.length ≤ 20) (h0 : ∀ i (hi : i < l0.length), GoodV l0[i]) (h1 : ∀ i (hi : i < l1.length), GoodH l1[i] ∧ OC l1[i].f1) (hw : wC g ≤ 200) (hr : RC g) (hn : NC g) (ho : OC g) :
    ∃ s, Ev (fun k => show_Seq.f k l0 l1 g.f0 g.f1 g.f2 g.f3 g.f4) s ∧ Ev (fun k => sequiturref14_Seq.f k l0 l1 g.f0 g.f1 g.f2 g.f3 g.f4) s := by
  obtain ⟨tg, g1, g2, g3⟩ := claim_text g (by omega) hr hn ho
  have z1 : (⟨#[10]⟩ : ByteArray).size = 1 := rfl
  have z2 : (⟨#[58, 32]⟩ : ByteArray).size = 2 := rfl
  have z3 : (⟨#[124, 45, 32]⟩ : ByteArray).size = 3 := rfl
  -- the hypotheses and the goal
  have loop1 : ∀ (j i : Nat) (s : ByteArray), i + j = l1.length → s.size ≤ 10000 + 70000 * i → ∃ u r, Ev (fun k => show_Seq.l1 k s l1 (i : Int)) u ∧ Ev (fun k => (show_Claim.f k g.f0 g.f1 g.f2 g.f3 g.f4).bind fun t => if 3 + t.size + 1 ≤ 9223372036854775807 then (if u.size + (3 + t.size + 1) ≤ 140737488355328 then some (u ++ (((⟨#[124, 45, 32]⟩ : ByteArray) ++ t) ++ (⟨#[10]⟩ : ByteArray))) else none) else none) r ∧ Ev (fun k => sequiturref14_Seq.l1 k s (i : Int) l0 l1 g.f0 g.f1 g.f2 g.f3 g.f4) r := by
    intro j
    induction j with
    | zero =>
      intro i s hi hs
      refine ⟨s, s ++ (((⟨#[124, 45, 32]⟩ : ByteArray) ++ tg) ++ (⟨#[10]⟩ : ByteArray)), ?_, ?_, ?_⟩
      · refine Ev.step ?_
        simp only [show_Seq.l1]
        exact Ev.neg (by omega) (Ev.const _)
      · exact Ev.bind g1 (Ev.pos (by omega) (Ev.pos (by omega) (Ev.const _)))
      · refine Ev.step ?_
        simp only [sequiturref14_Seq.l1]
        refine (Ev.neg (by omega) (Ev.pos (by omega) (Ev.bind g2 (Ev.pos (by simp only [ByteArray.size_append]; omega) (Ev.pos (by simp only [ByteArray.size_append]; omega) (Ev.const _)))))).eq ?_
        simp only [ByteArray.append_assoc]
    | succ j ih =>
      intro i s hi hs
      have hlt : i < l1.length := by omega
      obtain ⟨⟨b0, b1, b2, b3⟩, b4⟩ := h1 i hlt
      obtain ⟨t, t1, t2, t3⟩ := claim_text l1[i].f1 (by omega) b2 b3 b4
      obtain ⟨u, r, u1, u2, u3⟩ := ih (i + 1) (s ++ (((l1[i].f0 ++ (⟨#[58, 32]⟩ : ByteArray)) ++ t) ++ (⟨#[10]⟩ : ByteArray))) (by omega) (by simp only [ByteArray.size_append]; omega)
      refine ⟨u, r, ?_, u2, ?_⟩
      · refine Ev.step ?_
        simp only [show_Seq.l1]
        rw [rd45 hlt, wrapN (x := (i : Int) + 1) (n := i + 1) (by omega) (by omega)]
        exact Ev.pos (by omega) (Ev.pos (by omega) (Ev.bind t1 (Ev.pos (by omega) (Ev.pos (by omega) u1))))
      · refine Ev.step ?_
        simp only [sequiturref14_Seq.l1]
        rw [rd45 hlt, wrapN (x := (i : Int) + 1) (n := i + 1) (by omega) (by omega)]
        refine Ev.pos (by omega) (Ev.pos (by omega) (Ev.pos (by omega) (Ev.pos (by simp only [ByteArray.size_append]; omega) (Ev.bind t2 (Ev.pos (by simp only [ByteArray.size_append]; omega) (Ev.pos (by simp only [ByteArray.size_append]; omega) ?_))))))
        simp only [ByteArray.append_assoc] at u3 ⊢
        exact u3
  have loop0 : ∀ (j i : Nat) (s : ByteArray), i + j = l0.length → s.size ≤ 300 * i → ∃ u, Ev (fun k => show_Seq.l0 k s l0 (i : Int)) u ∧ u.size ≤ 10000 ∧ ∀ r, Ev (fun k => sequiturref14_Seq.l1 k u 0 l0 l1 g.f0 g.f1 g.f2 g.f3 g.f4) r → Ev (fun k => sequiturref14_Seq.l0 k s (i : Int) l0 l1 g.f0 g.f1 g.f2 g.f3 g.f4) r := by
    intro j
    induction j with
    | zero =>
      intro i s hi hs
      refine ⟨s, ?_, by omega, ?_⟩
      · refine Ev.step ?_
        simp only [show_Seq.l0]
        exact Ev.neg (by omega) (Ev.const _)
      · intro r h
        refine Ev.step ?_
        simp only [sequiturref14_Seq.l0]
        exact Ev.neg (by omega) h
    | succ j ih =>
      intro i s hi hs
      have hlt : i < l0.length := by omega
      obtain ⟨b0, b1⟩ := h0 i hlt
      obtain ⟨t, t1, t2, t3⟩ := var_eq l0[i].f0 l0[i].f1 b0 b1
      obtain ⟨u, u1, u2, u3⟩ := ih (i + 1) (s ++ (t ++ (⟨#[10]⟩ : ByteArray))) (by omega) (by simp only [ByteArray.size_append]; omega)
      refine ⟨u, ?_, u2, fun r h => ?_⟩
      · refine Ev.step ?_
        simp only [show_Seq.l0]
        rw [rd42 hlt, wrapN (x := (i : Int) + 1) (n := i + 1) (by omega) (by omega)]
        exact Ev.pos (by omega) (Ev.pos (by omega) (Ev.bind (Ev.of_eq t1) (Ev.pos (by omega) (Ev.pos (by omega) u1))))
      · refine Ev.step ?_
        simp only [sequiturref14_Seq.l0]
        rw [rd42 hlt, wrapN (x := (i : Int) + 1) (n := i + 1) (by omega) (by omega)]
        refine Ev.pos (by omega) (Ev.pos (by omega) (Ev.bind (Ev.of_eq t2) (Ev.pos (by omega) (Ev.pos (by simp only [ByteArray.size_append]; omega) ?_))))
        have := u3 r h
        simp only [ByteArray.append_assoc] at this ⊢
        exact this
  obtain ⟨u, u1, u2, u3⟩ := loop0 l0.length 0 ⟨#[]⟩ (by omega) (by decide)
  obtain ⟨v, r, v1, v2, v3⟩ := loop1 l1.length 0 u (by omega) (by omega)
  exact ⟨r, Ev.bind u1 (Ev.bind v1 v2), u3 r v3⟩
theorem seqs_law (l0 : List S42) (l1 : List S45) (g : S30) (h1 : ∀ i (hi : i < l1.length), OC l1[i].f1) (ho : OC g) :
    Ev (fun k => sequiturlaw14_ShowSeqs.f k l0 l1 g.f0 g.f1 g.f2 g.f3 g.f4) true := by
  have alive : law14_alive.f = some true := rfl
  have yes : Ev (fun k => sequiturlaw14_ShowSeqs.j0 k true l0 l1 g.f0 g.f1 g.f2 g.f3 g.f4) true := by
    refine Ev.step ?_
    simp only [sequiturlaw14_ShowSeqs.j0]
    exact Ev.pos trivial (Ev.bind (Ev.of_eq alive) (Ev.const _))
  have fin : ∀ b : Bool, Ev (fun _ : Nat => (law14_alive.f).bind fun t => some t) true := fun _ => Ev.bind (Ev.of_eq alive) (Ev.const _)
  refine (?_ : Ev (fun k => sequiturlaw14_ShowSeqs.f k l0 l1 g.f0 g.f1 g.f2 g.f3 g.f4) true)
  unfold sequiturlaw14_ShowSeqs.f
  by_cases n0 : (l0.length : Int) > 20
  · exact Ev.pos n0 yes
  refine Ev.neg n0 ?_
  by_cases n1 : (l1.length : Int) > 20
  · exact Ev.pos n1 yes
  refine Ev.neg n1 ?_
  obtain ⟨v, v1, v2⟩ := plain_tot g 200 (by omega)
  refine Ev.bind v1 ?_
  cases v with
  | false => exact yes
  | true =>
    obtain ⟨gw, gr, gn⟩ := v2 rfl
    have loop1 : ∀ (j i : Nat), i + j = l1.length → (∀ m (hm : m < l0.length), GoodV l0[m]) → (∀ m (hm : m < l1.length), m < i → GoodH l1[m]) → Ev (fun k => sequiturlaw14_ShowSeqs.l1 k l1 (l1.length : Int) (i : Int) l0 l1 g.f0 g.f1 g.f2 g.f3 g.f4) true := by
      intro j
      induction j with
      | zero =>
        intro i hi hv hh
        obtain ⟨s, s1, s2⟩ := seq_text l0 l1 g (by omega) (by omega) hv (fun m hm => ⟨hh m hm (by omega), h1 m hm⟩) gw gr gn ho
        refine Ev.step ?_
        simp only [sequiturlaw14_ShowSeqs.l1]
        exact Ev.neg (by omega) (Ev.bind s1 (Ev.bind s2 (Ev.pos rfl (Ev.bind (Ev.of_eq alive) (Ev.const _)))))
      | succ j ih =>
        intro i hi hv hh
        have hlt : i < l1.length := by omega
        refine Ev.step ?_
        simp only [sequiturlaw14_ShowSeqs.l1]
        rw [rd45 hlt, wrapN (x := (i : Int) + 1) (n := i + 1) (by omega) (by omega)]
        refine Ev.pos (by omega) (Ev.pos (by omega) (Ev.pos (by omega) ?_))
        by_cases q : (l1[i].f0.size : Int) > 100
        · exact Ev.pos q (Ev.bind (Ev.of_eq alive) (Ev.const _))
        refine Ev.neg q ?_
        obtain ⟨b, b1, b2⟩ := plain_tot l1[i].f1 200 (by omega)
        refine Ev.bind b1 ?_
        cases b with
        | false => exact Ev.neg (by simp) (Ev.bind (Ev.of_eq alive) (Ev.const _))
        | true =>
          refine Ev.pos rfl (ih (i + 1) (by omega) hv (fun m hm hlt2 => ?_))
          by_cases e : m = i
          · subst e
            exact ⟨by omega, b2 rfl⟩
          · exact hh m hm (by omega)
    have loop0 : ∀ (j i : Nat), i + j = l0.length → (∀ m (hm : m < l0.length), m < i → GoodV l0[m]) → Ev (fun k => sequiturlaw14_ShowSeqs.l0 k l0 (l0.length : Int) (i : Int) l0 l1 g.f0 g.f1 g.f2 g.f3 g.f4) true := by
      intro j
      induction j with
      | zero =>
        intro i hi hv
        refine Ev.step ?_
        simp only [sequiturlaw14_ShowSeqs.l0]
        exact Ev.neg (by omega) (loop1 l1.length 0 (by omega) (fun m hm => hv m hm (by omega)) (fun m _ h => by omega))
      | succ j ih =>
        intro i hi hv
        have hlt : i < l0.length := by omega
        refine Ev.step ?_
        simp only [sequiturlaw14_ShowSeqs.l0]
        rw [rd42 hlt]
        refine Ev.pos (by omega) (Ev.pos (by omega) (Ev.pos (by omega) ?_))
        by_cases q0 : (l0[i].f0.size : Int) > 100
        · refine Ev.pos q0 (Ev.step ?_)
          simp only [sequiturlaw14_ShowSeqs.j2]
          exact Ev.pos trivial (Ev.pos q0 (Ev.const _))
        refine Ev.neg q0 ?_
        by_cases q1 : (l0[i].f1.size : Int) > 100
        · refine Ev.pos q1 (Ev.step ?_)
          simp only [sequiturlaw14_ShowSeqs.j2]
          exact Ev.pos trivial (Ev.neg q0 ((Ev.const _).eq (decide_eq_true q1)))
        refine Ev.neg q1 ?_
        obtain ⟨t, t1, t2, _⟩ := var_eq l0[i].f0 l0[i].f1 (by omega) (by omega)
        refine Ev.bind (Ev.of_eq t1) (Ev.bind (Ev.of_eq t2) ?_)
        rw [show (t.toList != t.toList) = false by simp]
        refine Ev.step ?_
        simp only [sequiturlaw14_ShowSeqs.j2]
        rw [wrapN (x := (i : Int) + 1) (n := i + 1) (by omega) (by omega)]
        refine Ev.neg (by simp) (ih (i + 1) (by omega) (fun m hm hlt2 => ?_))
        by_cases e : m = i
        · subst e
          exact ⟨by omega, by omega⟩
        · exact hv m hm (by omega)
    show Ev (fun k => sequiturlaw14_ShowSeqs.j0 k false l0 l1 g.f0 g.f1 g.f2 g.f3 g.f4) true
    refine Ev.step ?_
    simp only [sequiturlaw14_ShowSeqs.j0]
    exact Ev.neg (by simp) (loop0 l0.length 0 (by omega) (fun m _ h => by omega))
end Go.Proofs.YtmlkllbaehegjaaDoor.PAll
end
