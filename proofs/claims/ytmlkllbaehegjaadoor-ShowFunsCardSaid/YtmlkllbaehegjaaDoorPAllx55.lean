-- Printed by a program of this session (wip/prt).
import Derived.Test.YtmlkllbaehegjaaDoorPAllx0
import Derived.Test.YtmlkllbaehegjaaDoorText
namespace Go.Proofs.YtmlkllbaehegjaaDoor.PAll
open Go.RowKit Go.Proofs.YtmlkllbaehegjaaDoorW.PrintWords Go.Proofs.YtmlkllbaehegjaaDoorW.PrintLast Go.Proofs.YtmlkllbaehegjaaDoorW.PrintMore
attribute [local go_sem] max2_int min2_int max_two min_two max_three min_three max_four min_four   -- for this text's walks alone
set_option linter.unusedVariables false
set_option linter.unusedSimpArgs false

/-! ### show_Fun: function 19 -/
def show_Fun.j0 : Nat → ByteArray → Bool → ByteArray → List ByteArray → ByteArray → Option (ByteArray)
  | 0, _, _, _, _, _ => none
  | k + 1, x3, x7, x609000, x609001, x609002 => if x7 = true then (if 5 + x609000.size ≤ 9223372036854775807 then (some ((⟨#[112, 114, 101, 100, 32]⟩ : ByteArray) ++ x609000)) else (none)) else (if x609002.toList = ([66, 111, 111, 108] : List UInt8) then (if 5 + x609000.size ≤ 9223372036854775807 then (if ((⟨#[112, 114, 101, 100, 32]⟩ : ByteArray) ++ x609000).size + 2 ≤ 9223372036854775807 then (if (((⟨#[112, 114, 101, 100, 32]⟩ : ByteArray) ++ x609000) ++ (⟨#[58, 32]⟩ : ByteArray)).size + x3.size ≤ 9223372036854775807 then (some ((((⟨#[112, 114, 101, 100, 32]⟩ : ByteArray) ++ x609000) ++ (⟨#[58, 32]⟩ : ByteArray)) ++ x3)) else (none)) else (none)) else (none)) else (if (x609001.length : Int) = 0 then (if 4 + x609000.size ≤ 9223372036854775807 then (if ((⟨#[102, 117, 110, 32]⟩ : ByteArray) ++ x609000).size + 2 ≤ 9223372036854775807 then (if (((⟨#[102, 117, 110, 32]⟩ : ByteArray) ++ x609000) ++ (⟨#[58, 32]⟩ : ByteArray)).size + x609002.size ≤ 9223372036854775807 then (some ((((⟨#[102, 117, 110, 32]⟩ : ByteArray) ++ x609000) ++ (⟨#[58, 32]⟩ : ByteArray)) ++ x609002)) else (none)) else (none)) else (none)) else (if 4 + x609000.size ≤ 9223372036854775807 then (if ((⟨#[102, 117, 110, 32]⟩ : ByteArray) ++ x609000).size + 2 ≤ 9223372036854775807 then (if (((⟨#[102, 117, 110, 32]⟩ : ByteArray) ++ x609000) ++ (⟨#[58, 32]⟩ : ByteArray)).size + x3.size ≤ 9223372036854775807 then (if ((((⟨#[102, 117, 110, 32]⟩ : ByteArray) ++ x609000) ++ (⟨#[58, 32]⟩ : ByteArray)) ++ x3).size + 4 ≤ 9223372036854775807 then (if (((((⟨#[102, 117, 110, 32]⟩ : ByteArray) ++ x609000) ++ (⟨#[58, 32]⟩ : ByteArray)) ++ x3) ++ (⟨#[32, 45, 62, 32]⟩ : ByteArray)).size + x609002.size ≤ 9223372036854775807 then (some ((((((⟨#[102, 117, 110, 32]⟩ : ByteArray) ++ x609000) ++ (⟨#[58, 32]⟩ : ByteArray)) ++ x3) ++ (⟨#[32, 45, 62, 32]⟩ : ByteArray)) ++ x609002)) else (none)) else (none)) else (none)) else (none)) else (none))))
def show_Fun.f (k : Nat) (a0_0 : ByteArray) (l0_1 : List ByteArray) (a0_2 : ByteArray) : Option (ByteArray) := (strings_Join.f l0_1 (⟨#[44, 32]⟩ : ByteArray)).bind fun t609 => (if a0_2.toList = ([66, 111, 111, 108] : List UInt8) then (if t609.toList = ([] : List UInt8) then (show_Fun.j0 k t609 ((l0_1.length : Int) == 0) a0_0 l0_1 a0_2) else (show_Fun.j0 k t609 false a0_0 l0_1 a0_2)) else (show_Fun.j0 k t609 false a0_0 l0_1 a0_2))
theorem show_Fun.mono_l : ∀ k, (∀ y0 y1 y2 y3 y4, LeO (show_Fun.j0 k y0 y1 y2 y3 y4) (show_Fun.j0 (k + 1) y0 y1 y2 y3 y4))
  | 0 => fun _ _ _ _ _ r h => by simp [show_Fun.j0] at h
  | k + 1 => by
    have ih0 := show_Fun.mono_l k
    · intro y0 y1 y2 y3 y4
      unfold show_Fun.j0
      repeat' first
      | (with_reducible exact ih0 _ _ _ _ _)
      | (with_reducible exact LeO.refl _)
      | (with_reducible exact LeO.none _)
      | (with_reducible refine LeO.ite ?_ ?_)
      | (with_reducible refine LeO.bind ?_ (fun _ => ?_))
      | exact ih0 _ _ _ _ _
      | exact LeO.none _
      | refine LeO.ite ?_ ?_
      | refine LeO.bind ?_ (fun _ => ?_)
theorem show_Fun.mono : ∀ a0 a1 a2 k, LeO (show_Fun.f k a0 a1 a2) (show_Fun.f (k + 1) a0 a1 a2) := by
  intro a0 a1 a2 k
  have ih0 := show_Fun.mono_l k
  unfold show_Fun.f
  repeat' first
      | (with_reducible exact ih0 _ _ _ _ _)
      | (with_reducible exact LeO.refl _)
      | (with_reducible exact LeO.none _)
      | (with_reducible refine LeO.ite ?_ ?_)
      | (with_reducible refine LeO.bind ?_ (fun _ => ?_))
      | exact ih0 _ _ _ _ _
      | exact LeO.none _
      | refine LeO.ite ?_ ?_
      | refine LeO.bind ?_ (fun _ => ?_)
set_option maxHeartbeats 8000000 in
set_option maxRecDepth 100000 in
theorem show_Fun.calls (k : Nat) (a0_0 : ByteArray) (A0_1 : Option Addr) (c0_1 : Nat) (l0_1 : List ByteArray) (a0_2 : ByteArray) (r : ByteArray) (w : World) (hr0_1 : Kd.C Kd.string w A0_1 l0_1.length l0_1) (hc0_1 : l0_1.length ≤ c0_1) (h : show_Fun.f k a0_0 l0_1 a0_2 = some r) :
    Calls Tryd.prog 19 #[.agg #[.string a0_0, .slice A0_1 l0_1.length c0_1, .string a0_2]] w fun e w' => e = .returned (.string r) ∧ Below w.heap.size w w' := by
  have hu49 := Tryd.underlying49
  have HR0_1 := Aside0.mk hr0_1
  have HC0_1 := Aside0.mk hc0_1
  clear hr0_1 hc0_1
  have HB := Aside0.mk (Below.refl w.heap.size w)
  have H : ((strings_Join.f l0_1 (⟨#[44, 32]⟩ : ByteArray)).bind fun t609 => (if a0_2.toList = ([66, 111, 111, 108] : List UInt8) then (if t609.toList = ([] : List UInt8) then (show_Fun.j0 k t609 ((l0_1.length : Int) == 0) a0_0 l0_1 a0_2) else (show_Fun.j0 k t609 false a0_0 l0_1 a0_2)) else (show_Fun.j0 k t609 false a0_0 l0_1 a0_2))) = some r := h
  clear h
  replace H := Option.bind_eq_some_iff.mp H
  obtain ⟨t609, A20, H⟩ := H
  replace H : (if a0_2.toList = ([66, 111, 111, 108] : List UInt8) then (if t609.toList = ([] : List UInt8) then (show_Fun.j0 k t609 ((l0_1.length : Int) == 0) a0_0 l0_1 a0_2) else (show_Fun.j0 k t609 false a0_0 l0_1 a0_2)) else (show_Fun.j0 k t609 false a0_0 l0_1 a0_2)) = some r := H
  have A2 := Aside0.mk A20
  clear A20
  have HC3 := Aside0.mk H
  clear H
  go_enter Tryd.func19, Tryd.ntmps19
  go_upto_region 2 with (first | ((with_reducible refine gate_dst (N := 1) rfl ?_); (try (refine gate_guard (by rfl) ?_; dsimp only)); refine box_event ?hg (N := 1) ?hd (cs := #[.string a0_0, .slice A0_1 l0_1.length c0_1, .string a0_2]) (t := 49) ?hr ?_; (case hd => rfl); (case hg => rfl); (case hr => first | (go_simp; done) | (go_simp; rfl)); intro gb608 hg w4 hbox hb; have n0_ := Aside0.mk (below_step (by repeat (first | (with_reducible first | exact HB.out | apply below_alloc | apply pw_below_drewN | apply below_drew1) | exact HB.out)) hb); have n1_ := Aside0.mk (hbox); have n2_ := Aside0.mk ((by rw [hg]; exact (below_size (by repeat (first | (with_reducible first | exact HB.out | apply below_alloc | apply pw_below_drewN | apply below_drew1) | exact HB.out))) : w.heap.size ≤ gb608)); have n3_ := Aside0.mk ((by rw [hg]; exact (below_size (by repeat (first | (with_reducible first | exact HB.out | apply below_alloc | apply pw_below_drewN | apply below_drew1) | exact HB.out))) : w.heap.size ≤ gb608)); clear HB; have HB := n0_; have BK608 := n1_; have GW608 := n2_; have GE608 := n3_; clear n0_ n1_ n2_ n3_; clear hb hbox hg; have hcz5_0 : w4.cell? ⟨gb608, 0, none⟩ = some (.string a0_0) := (blk_cell BK608.out 0).trans rfl; have hcz5_1 : w4.cell? ⟨gb608, 1, none⟩ = some (.slice A0_1 l0_1.length c0_1) := (blk_cell BK608.out 1).trans rfl; have hcz5_2 : w4.cell? ⟨gb608, 2, none⟩ = some (.string a0_2) := (blk_cell BK608.out 2).trans rfl; have hfz5_0 := blk_frozen BK608.out 0; have hfz5_1 := blk_frozen BK608.out 1; have hfz5_2 := blk_frozen BK608.out 2) | ((with_reducible refine gate_callee (f := 37) rfl ?_); refine goesL_ (some 6) rfl rfl Tryd.func37 (by kernel_rfl) rfl #[.slice A0_1 l0_1.length c0_1, .string (⟨#[44, 32]⟩ : ByteArray)] rfl (by (try simp only [List.map_toArray, List.map_cons, List.map_nil]); first | done | rfl | (simp only [List.length_drop, List.length_take]; rfl)) ?_; (with_reducible refine (strings_Join.calls _ _ l0_1 (⟨#[44, 32]⟩ : ByteArray) t609 _ ?side1 ?side2 A2.out).mono ?_); (case side1 => repeat (first | exact (Kd.C_below HR0_1.out HB.out) | (with_reducible refine Kd.C_alloc ?_ _) | (with_reducible refine Kd.C_drewN ?_ _) | (with_reducible refine Kd.C_drew ?_))); (case side2 => exact HC0_1.out); rintro e w6 ⟨rfl, hb⟩; refine ⟨_, rfl, ?_⟩; have n0_ := Aside0.mk (blk_below (g := gb608) (o := .cells #[.string a0_0, .slice A0_1 l0_1.length c0_1, .string a0_2] 49 (0, 0)) (by (with_reducible repeat (first | refine blk_drewN ?_ _ | refine blk_drew ?_ | refine blk_alloc ?_ _)); exact BK608.out) hb); have n1_ := Aside0.mk (below_step (by repeat (first | (with_reducible first | exact HB.out | apply below_alloc | apply pw_below_drewN | apply below_drew1 | refine below_set ?_ GE608.out) | exact HB.out)) hb); clear BK608; clear HB; have BK608 := n0_; have HB := n1_; clear n0_ n1_; (try clear hb); (try clear hb2); (try clear hk); (try clear hi)))
  (try simp only [Act.put, List.setIfInBounds_toArray, List.set_cons_zero, List.set_cons_succ])
  go_cut [7] (fun v7 wc => ∃ (kq : Nat) (x7_2 : Bool), v7 = .bool x7_2 ∧ Aside0 (show_Fun.j0 kq t609 x7_2 a0_0 l0_1 a0_2 = some r) ∧ Aside0 (kq ≤ k) ∧ Aside0 (wc.heap[gb608]? = some (.cells #[.string a0_0, (.slice A0_1 l0_1.length c0_1), .string a0_2] 49 (0, 0))) ∧ Aside0 (Below w.heap.size w wc))
  case first =>
   have H := HC3.out
   clear HC3
   by_cases c7 : a0_2.toList = ([66, 111, 111, 108] : List UInt8)
   ·rw [if_pos c7] at H
    have c7b0 : (a0_2.toList == ([66, 111, 111, 108] : List UInt8)) = true := beq_iff_eq.mpr c7
    have c7b1 : (a0_2.toList != ([66, 111, 111, 108] : List UInt8)) = false := bne_eq_false_iff_eq.mpr c7
    clear c7
    (first | rw [c7b0] | (simp only [i64_w, i32_w]; rw [c7b0]) | skip)
    by_cases c8 : t609.toList = ([] : List UInt8)
    ·rw [if_pos c8] at H
     have c8b0 : (t609.toList == ([] : List UInt8)) = true := beq_iff_eq.mpr c8
     have c8b1 : (t609.toList != ([] : List UInt8)) = false := bne_eq_false_iff_eq.mpr c8
     clear c8
     have H' := Aside0.mk H
     clear H
     have hcz9_0 : w6.cell? ⟨gb608, 0, none⟩ = some (.string a0_0) := (blk_cell BK608.out 0).trans rfl
     have hcz9_1 : w6.cell? ⟨gb608, 1, none⟩ = some (.slice A0_1 l0_1.length c0_1) := (blk_cell BK608.out 1).trans rfl
     have hcz9_2 : w6.cell? ⟨gb608, 2, none⟩ = some (.string a0_2) := (blk_cell BK608.out 2).trans rfl
     have hfz9_0 := blk_frozen BK608.out 0
     have hfz9_1 := blk_frozen BK608.out 1
     have hfz9_2 := blk_frozen BK608.out 2
     go_wp2
     go_meet
     case rel => exact ⟨_, (((l0_1.length : Int) == 0)), (by first | rfl | (simp; done) | (simp [*]; done) | (simp [*, nel]; done)), H', ⟨by first | omega | exact Nat.le_refl _⟩, ⟨by (with_reducible repeat (first | refine blk_drewN ?_ _ | refine blk_drew ?_ | refine blk_alloc ?_ _)); exact BK608.out⟩, ⟨by repeat (first | (with_reducible first | exact HB.out | apply below_alloc | apply pw_below_drewN | apply below_drew1 | refine below_set ?_ GE608.out) | exact HB.out)⟩⟩
    ·rw [if_neg c8] at H
     have c8b0 : (t609.toList == ([] : List UInt8)) = false := beq_eq_false_iff_ne.mpr c8
     have c8b1 : (t609.toList != ([] : List UInt8)) = true := bne_iff_ne.mpr c8
     have H' := Aside0.mk H
     clear H
     have hcz10_0 : w6.cell? ⟨gb608, 0, none⟩ = some (.string a0_0) := (blk_cell BK608.out 0).trans rfl
     have hcz10_1 : w6.cell? ⟨gb608, 1, none⟩ = some (.slice A0_1 l0_1.length c0_1) := (blk_cell BK608.out 1).trans rfl
     have hcz10_2 : w6.cell? ⟨gb608, 2, none⟩ = some (.string a0_2) := (blk_cell BK608.out 2).trans rfl
     have hfz10_0 := blk_frozen BK608.out 0
     have hfz10_1 := blk_frozen BK608.out 1
     have hfz10_2 := blk_frozen BK608.out 2
     go_wp2
     go_meet
     case rel => exact ⟨_, (false), (by first | rfl | (simp; done) | (simp [*]; done) | (simp [*, nel]; done)), H', ⟨by first | omega | exact Nat.le_refl _⟩, ⟨by (with_reducible repeat (first | refine blk_drewN ?_ _ | refine blk_drew ?_ | refine blk_alloc ?_ _)); exact BK608.out⟩, ⟨by repeat (first | (with_reducible first | exact HB.out | apply below_alloc | apply pw_below_drewN | apply below_drew1 | refine below_set ?_ GE608.out) | exact HB.out)⟩⟩
   ·rw [if_neg c7] at H
    have c7b0 : (a0_2.toList == ([66, 111, 111, 108] : List UInt8)) = false := beq_eq_false_iff_ne.mpr c7
    have c7b1 : (a0_2.toList != ([66, 111, 111, 108] : List UInt8)) = true := bne_iff_ne.mpr c7
    (first | rw [c7b0] | (simp only [i64_w, i32_w]; rw [c7b0]) | skip)
    have H' := Aside0.mk H
    clear H
    have hcz11_0 : w6.cell? ⟨gb608, 0, none⟩ = some (.string a0_0) := (blk_cell BK608.out 0).trans rfl
    have hcz11_1 : w6.cell? ⟨gb608, 1, none⟩ = some (.slice A0_1 l0_1.length c0_1) := (blk_cell BK608.out 1).trans rfl
    have hcz11_2 : w6.cell? ⟨gb608, 2, none⟩ = some (.string a0_2) := (blk_cell BK608.out 2).trans rfl
    have hfz11_0 := blk_frozen BK608.out 0
    have hfz11_1 := blk_frozen BK608.out 1
    have hfz11_2 := blk_frozen BK608.out 2
    go_wp2
    go_meet
    case rel => exact ⟨_, (false), (by first | rfl | (simp; done) | (simp [*]; done) | (simp [*, nel]; done)), H', ⟨by first | omega | exact Nat.le_refl _⟩, ⟨by (with_reducible repeat (first | refine blk_drewN ?_ _ | refine blk_drew ?_ | refine blk_alloc ?_ _)); exact BK608.out⟩, ⟨by repeat (first | (with_reducible first | exact HB.out | apply below_alloc | apply pw_below_drewN | apply below_drew1 | refine below_set ?_ GE608.out) | exact HB.out)⟩⟩
  case rest =>
   clear HC3
   try clear c1
   try clear p2
   try clear c3
   try clear c7
   try clear c7b0
   try clear c7b1
   try clear c8
   try clear c8b0
   try clear c8b1
   try clear hcz10_0
   try clear hcz10_1
   try clear hcz10_2
   try clear hcz11_0
   try clear hcz11_1
   try clear hcz11_2
   try clear hcz5_0
   try clear hcz5_1
   try clear hcz5_2
   try clear hcz9_0
   try clear hcz9_1
   try clear hcz9_2
   try clear hfz10_0
   try clear hfz10_1
   try clear hfz10_2
   try clear hfz11_0
   try clear hfz11_1
   try clear hfz11_2
   try clear hfz5_0
   try clear hfz5_1
   try clear hfz5_2
   try clear hfz9_0
   try clear hfz9_1
   try clear hfz9_2
   obtain ⟨kq, x7_2, rfl, HA, HJ2, BK608, HB⟩ := hcut
   cases kq with
   | zero => exact absurd HA.out (by simp [show_Fun.j0])
   | succ kj2 =>
    have H := HA.out
    clear HA
    simp only [show_Fun.j0] at H
    by_cases c12 : x7_2 = true
    ·subst c12
     have H1 : (if 5 + a0_0.size ≤ 9223372036854775807 then (some ((⟨#[112, 114, 101, 100, 32]⟩ : ByteArray) ++ a0_0)) else (none)) = some r := by rw [if_pos rfl] at H; exact H
     clear H
     have H := H1
     clear H1
     by_cases c13 : 5 + a0_0.size ≤ 9223372036854775807
     ·rw [if_pos c13] at H
      have c13b0 := eq_true c13
      have c13b1 : decide (5 + a0_0.size ≤ 9223372036854775807) = true := decide_eq_true c13
      try have c13b2 : (9223372036854775807 < 5 + a0_0.size) = False := eq_false (Nat.not_lt.2 c13)
      obtain rfl := Option.some.inj H
      have hcz14_0 : wc.cell? ⟨gb608, 0, none⟩ = some (.string a0_0) := (blk_cell BK608.out 0).trans rfl
      have hcz14_1 : wc.cell? ⟨gb608, 1, none⟩ = some (.slice A0_1 l0_1.length c0_1) := (blk_cell BK608.out 1).trans rfl
      have hcz14_2 : wc.cell? ⟨gb608, 2, none⟩ = some (.string a0_2) := (blk_cell BK608.out 2).trans rfl
      have hfz14_0 := blk_frozen BK608.out 0
      have hfz14_1 := blk_frozen BK608.out 1
      have hfz14_2 := blk_frozen BK608.out 2
      go_wp2
      go_ret
      exact ⟨by first | rfl | (simp [errW_none, errW_some] <;> rfl) | (simp [*, errW_none, errW_some] <;> rfl), by repeat (first | (with_reducible first | exact HB.out | apply below_alloc | apply pw_below_drewN | apply below_drew1 | refine below_set ?_ GE608.out) | exact HB.out)⟩
     ·rw [if_neg c13] at H
      exact absurd H (by simp)
    ·replace c12 := Bool.eq_false_iff.mpr c12
     subst c12
     have H1 : (if a0_2.toList = ([66, 111, 111, 108] : List UInt8) then (if 5 + a0_0.size ≤ 9223372036854775807 then (if ((⟨#[112, 114, 101, 100, 32]⟩ : ByteArray) ++ a0_0).size + 2 ≤ 9223372036854775807 then (if (((⟨#[112, 114, 101, 100, 32]⟩ : ByteArray) ++ a0_0) ++ (⟨#[58, 32]⟩ : ByteArray)).size + t609.size ≤ 9223372036854775807 then (some ((((⟨#[112, 114, 101, 100, 32]⟩ : ByteArray) ++ a0_0) ++ (⟨#[58, 32]⟩ : ByteArray)) ++ t609)) else (none)) else (none)) else (none)) else (if (l0_1.length : Int) = 0 then (if 4 + a0_0.size ≤ 9223372036854775807 then (if ((⟨#[102, 117, 110, 32]⟩ : ByteArray) ++ a0_0).size + 2 ≤ 9223372036854775807 then (if (((⟨#[102, 117, 110, 32]⟩ : ByteArray) ++ a0_0) ++ (⟨#[58, 32]⟩ : ByteArray)).size + a0_2.size ≤ 9223372036854775807 then (some ((((⟨#[102, 117, 110, 32]⟩ : ByteArray) ++ a0_0) ++ (⟨#[58, 32]⟩ : ByteArray)) ++ a0_2)) else (none)) else (none)) else (none)) else (if 4 + a0_0.size ≤ 9223372036854775807 then (if ((⟨#[102, 117, 110, 32]⟩ : ByteArray) ++ a0_0).size + 2 ≤ 9223372036854775807 then (if (((⟨#[102, 117, 110, 32]⟩ : ByteArray) ++ a0_0) ++ (⟨#[58, 32]⟩ : ByteArray)).size + t609.size ≤ 9223372036854775807 then (if ((((⟨#[102, 117, 110, 32]⟩ : ByteArray) ++ a0_0) ++ (⟨#[58, 32]⟩ : ByteArray)) ++ t609).size + 4 ≤ 9223372036854775807 then (if (((((⟨#[102, 117, 110, 32]⟩ : ByteArray) ++ a0_0) ++ (⟨#[58, 32]⟩ : ByteArray)) ++ t609) ++ (⟨#[32, 45, 62, 32]⟩ : ByteArray)).size + a0_2.size ≤ 9223372036854775807 then (some ((((((⟨#[102, 117, 110, 32]⟩ : ByteArray) ++ a0_0) ++ (⟨#[58, 32]⟩ : ByteArray)) ++ t609) ++ (⟨#[32, 45, 62, 32]⟩ : ByteArray)) ++ a0_2)) else (none)) else (none)) else (none)) else (none)) else (none)))) = some r := by rw [if_neg (show ¬ (false = true) by decide)] at H; exact H
     clear H
     have H := H1
     clear H1
     by_cases c15 : a0_2.toList = ([66, 111, 111, 108] : List UInt8)
     ·rw [if_pos c15] at H
      have c15b0 : (a0_2.toList == ([66, 111, 111, 108] : List UInt8)) = true := beq_iff_eq.mpr c15
      have c15b1 : (a0_2.toList != ([66, 111, 111, 108] : List UInt8)) = false := bne_eq_false_iff_eq.mpr c15
      clear c15
      by_cases c16 : 5 + a0_0.size ≤ 9223372036854775807
      ·rw [if_pos c16] at H
       have c16b0 := eq_true c16
       have c16b1 : decide (5 + a0_0.size ≤ 9223372036854775807) = true := decide_eq_true c16
       try have c16b2 : (9223372036854775807 < 5 + a0_0.size) = False := eq_false (Nat.not_lt.2 c16)
       by_cases c17 : ((⟨#[112, 114, 101, 100, 32]⟩ : ByteArray) ++ a0_0).size + 2 ≤ 9223372036854775807
       ·rw [if_pos c17] at H
        have c17b0 := eq_true c17
        have c17b1 : decide (((⟨#[112, 114, 101, 100, 32]⟩ : ByteArray) ++ a0_0).size + 2 ≤ 9223372036854775807) = true := decide_eq_true c17
        have c17n : 5 + a0_0.size + 2 ≤ 9223372036854775807 := by have h_ := c17; simp only [ByteArray.size_append] at h_; have z0_ : (⟨#[112, 114, 101, 100, 32]⟩ : ByteArray).size = 5 := rfl; first | exact h_ | omega
        have c17b3 := eq_true c17n
        have c17b4 : (9223372036854775807 < 5 + a0_0.size + 2) = False := eq_false (Nat.not_lt.2 c17n)
        try have c17b2 : (9223372036854775807 < ((⟨#[112, 114, 101, 100, 32]⟩ : ByteArray) ++ a0_0).size + 2) = False := eq_false (Nat.not_lt.2 c17)
        by_cases c18 : (((⟨#[112, 114, 101, 100, 32]⟩ : ByteArray) ++ a0_0) ++ (⟨#[58, 32]⟩ : ByteArray)).size + t609.size ≤ 9223372036854775807
        ·rw [if_pos c18] at H
         have c18b0 := eq_true c18
         have c18b1 : decide ((((⟨#[112, 114, 101, 100, 32]⟩ : ByteArray) ++ a0_0) ++ (⟨#[58, 32]⟩ : ByteArray)).size + t609.size ≤ 9223372036854775807) = true := decide_eq_true c18
         have c18n : 5 + a0_0.size + 2 + t609.size ≤ 9223372036854775807 := by have h_ := c18; simp only [ByteArray.size_append] at h_; have z0_ : (⟨#[112, 114, 101, 100, 32]⟩ : ByteArray).size = 5 := rfl; have z1_ : (⟨#[58, 32]⟩ : ByteArray).size = 2 := rfl; first | exact h_ | omega
         have c18b3 := eq_true c18n
         have c18b4 : (9223372036854775807 < 5 + a0_0.size + 2 + t609.size) = False := eq_false (Nat.not_lt.2 c18n)
         try have c18b2 : (9223372036854775807 < (((⟨#[112, 114, 101, 100, 32]⟩ : ByteArray) ++ a0_0) ++ (⟨#[58, 32]⟩ : ByteArray)).size + t609.size) = False := eq_false (Nat.not_lt.2 c18)
         obtain rfl := Option.some.inj H
         have hcz19_0 : wc.cell? ⟨gb608, 0, none⟩ = some (.string a0_0) := (blk_cell BK608.out 0).trans rfl
         have hcz19_1 : wc.cell? ⟨gb608, 1, none⟩ = some (.slice A0_1 l0_1.length c0_1) := (blk_cell BK608.out 1).trans rfl
         have hcz19_2 : wc.cell? ⟨gb608, 2, none⟩ = some (.string a0_2) := (blk_cell BK608.out 2).trans rfl
         have hfz19_0 := blk_frozen BK608.out 0
         have hfz19_1 := blk_frozen BK608.out 1
         have hfz19_2 := blk_frozen BK608.out 2
         go_wp2
         go_ret
         exact ⟨by first | rfl | (simp [errW_none, errW_some] <;> rfl) | (simp [*, errW_none, errW_some] <;> rfl), by repeat (first | (with_reducible first | exact HB.out | apply below_alloc | apply pw_below_drewN | apply below_drew1 | refine below_set ?_ GE608.out) | exact HB.out)⟩
        ·rw [if_neg c18] at H
         exact absurd H (by simp)
       ·rw [if_neg c17] at H
        exact absurd H (by simp)
      ·rw [if_neg c16] at H
       exact absurd H (by simp)
     ·rw [if_neg c15] at H
      have c15b0 : (a0_2.toList == ([66, 111, 111, 108] : List UInt8)) = false := beq_eq_false_iff_ne.mpr c15
      have c15b1 : (a0_2.toList != ([66, 111, 111, 108] : List UInt8)) = true := bne_iff_ne.mpr c15
      by_cases c20 : (l0_1.length : Int) = 0
      ·rw [if_pos c20] at H
       have c20b0 : ((l0_1.length : Int) == 0) = true := beq_iff_eq.mpr c20
       have c20b1 : ((l0_1.length : Int) != 0) = false := bne_eq_false_iff_eq.mpr c20
       clear c20
       by_cases c21 : 4 + a0_0.size ≤ 9223372036854775807
       ·rw [if_pos c21] at H
        have c21b0 := eq_true c21
        have c21b1 : decide (4 + a0_0.size ≤ 9223372036854775807) = true := decide_eq_true c21
        try have c21b2 : (9223372036854775807 < 4 + a0_0.size) = False := eq_false (Nat.not_lt.2 c21)
        by_cases c22 : ((⟨#[102, 117, 110, 32]⟩ : ByteArray) ++ a0_0).size + 2 ≤ 9223372036854775807
        ·rw [if_pos c22] at H
         have c22b0 := eq_true c22
         have c22b1 : decide (((⟨#[102, 117, 110, 32]⟩ : ByteArray) ++ a0_0).size + 2 ≤ 9223372036854775807) = true := decide_eq_true c22
         have c22n : 4 + a0_0.size + 2 ≤ 9223372036854775807 := by have h_ := c22; simp only [ByteArray.size_append] at h_; have z0_ : (⟨#[102, 117, 110, 32]⟩ : ByteArray).size = 4 := rfl; first | exact h_ | omega
         have c22b3 := eq_true c22n
         have c22b4 : (9223372036854775807 < 4 + a0_0.size + 2) = False := eq_false (Nat.not_lt.2 c22n)
         try have c22b2 : (9223372036854775807 < ((⟨#[102, 117, 110, 32]⟩ : ByteArray) ++ a0_0).size + 2) = False := eq_false (Nat.not_lt.2 c22)
         by_cases c23 : (((⟨#[102, 117, 110, 32]⟩ : ByteArray) ++ a0_0) ++ (⟨#[58, 32]⟩ : ByteArray)).size + a0_2.size ≤ 9223372036854775807
         ·rw [if_pos c23] at H
          have c23b0 := eq_true c23
          have c23b1 : decide ((((⟨#[102, 117, 110, 32]⟩ : ByteArray) ++ a0_0) ++ (⟨#[58, 32]⟩ : ByteArray)).size + a0_2.size ≤ 9223372036854775807) = true := decide_eq_true c23
          have c23n : 4 + a0_0.size + 2 + a0_2.size ≤ 9223372036854775807 := by have h_ := c23; simp only [ByteArray.size_append] at h_; have z0_ : (⟨#[102, 117, 110, 32]⟩ : ByteArray).size = 4 := rfl; have z1_ : (⟨#[58, 32]⟩ : ByteArray).size = 2 := rfl; first | exact h_ | omega
          have c23b3 := eq_true c23n
          have c23b4 : (9223372036854775807 < 4 + a0_0.size + 2 + a0_2.size) = False := eq_false (Nat.not_lt.2 c23n)
          try have c23b2 : (9223372036854775807 < (((⟨#[102, 117, 110, 32]⟩ : ByteArray) ++ a0_0) ++ (⟨#[58, 32]⟩ : ByteArray)).size + a0_2.size) = False := eq_false (Nat.not_lt.2 c23)
          obtain rfl := Option.some.inj H
          have hcz24_0 : wc.cell? ⟨gb608, 0, none⟩ = some (.string a0_0) := (blk_cell BK608.out 0).trans rfl
          have hcz24_1 : wc.cell? ⟨gb608, 1, none⟩ = some (.slice A0_1 l0_1.length c0_1) := (blk_cell BK608.out 1).trans rfl
          have hcz24_2 : wc.cell? ⟨gb608, 2, none⟩ = some (.string a0_2) := (blk_cell BK608.out 2).trans rfl
          have hfz24_0 := blk_frozen BK608.out 0
          have hfz24_1 := blk_frozen BK608.out 1
          have hfz24_2 := blk_frozen BK608.out 2
          go_wp2
          go_ret
          exact ⟨by first | rfl | (simp [errW_none, errW_some] <;> rfl) | (simp [*, errW_none, errW_some] <;> rfl), by repeat (first | (with_reducible first | exact HB.out | apply below_alloc | apply pw_below_drewN | apply below_drew1 | refine below_set ?_ GE608.out) | exact HB.out)⟩
         ·rw [if_neg c23] at H
          exact absurd H (by simp)
        ·rw [if_neg c22] at H
         exact absurd H (by simp)
       ·rw [if_neg c21] at H
        exact absurd H (by simp)
      ·rw [if_neg c20] at H
       have c20b0 : ((l0_1.length : Int) == 0) = false := beq_eq_false_iff_ne.mpr c20
       have c20b1 : ((l0_1.length : Int) != 0) = true := bne_iff_ne.mpr c20
       have c20b2 : ¬ (l0_1 = []) := fun h_ => c20 (by rw [h_]; rfl)
       by_cases c25 : 4 + a0_0.size ≤ 9223372036854775807
       ·rw [if_pos c25] at H
        have c25b0 := eq_true c25
        have c25b1 : decide (4 + a0_0.size ≤ 9223372036854775807) = true := decide_eq_true c25
        try have c25b2 : (9223372036854775807 < 4 + a0_0.size) = False := eq_false (Nat.not_lt.2 c25)
        by_cases c26 : ((⟨#[102, 117, 110, 32]⟩ : ByteArray) ++ a0_0).size + 2 ≤ 9223372036854775807
        ·rw [if_pos c26] at H
         have c26b0 := eq_true c26
         have c26b1 : decide (((⟨#[102, 117, 110, 32]⟩ : ByteArray) ++ a0_0).size + 2 ≤ 9223372036854775807) = true := decide_eq_true c26
         have c26n : 4 + a0_0.size + 2 ≤ 9223372036854775807 := by have h_ := c26; simp only [ByteArray.size_append] at h_; have z0_ : (⟨#[102, 117, 110, 32]⟩ : ByteArray).size = 4 := rfl; first | exact h_ | omega
         have c26b3 := eq_true c26n
         have c26b4 : (9223372036854775807 < 4 + a0_0.size + 2) = False := eq_false (Nat.not_lt.2 c26n)
         try have c26b2 : (9223372036854775807 < ((⟨#[102, 117, 110, 32]⟩ : ByteArray) ++ a0_0).size + 2) = False := eq_false (Nat.not_lt.2 c26)
         by_cases c27 : (((⟨#[102, 117, 110, 32]⟩ : ByteArray) ++ a0_0) ++ (⟨#[58, 32]⟩ : ByteArray)).size + t609.size ≤ 9223372036854775807
         ·rw [if_pos c27] at H
          have c27b0 := eq_true c27
          have c27b1 : decide ((((⟨#[102, 117, 110, 32]⟩ : ByteArray) ++ a0_0) ++ (⟨#[58, 32]⟩ : ByteArray)).size + t609.size ≤ 9223372036854775807) = true := decide_eq_true c27
          have c27n : 4 + a0_0.size + 2 + t609.size ≤ 9223372036854775807 := by have h_ := c27; simp only [ByteArray.size_append] at h_; have z0_ : (⟨#[102, 117, 110, 32]⟩ : ByteArray).size = 4 := rfl; have z1_ : (⟨#[58, 32]⟩ : ByteArray).size = 2 := rfl; first | exact h_ | omega
          have c27b3 := eq_true c27n
          have c27b4 : (9223372036854775807 < 4 + a0_0.size + 2 + t609.size) = False := eq_false (Nat.not_lt.2 c27n)
          try have c27b2 : (9223372036854775807 < (((⟨#[102, 117, 110, 32]⟩ : ByteArray) ++ a0_0) ++ (⟨#[58, 32]⟩ : ByteArray)).size + t609.size) = False := eq_false (Nat.not_lt.2 c27)
          by_cases c28 : ((((⟨#[102, 117, 110, 32]⟩ : ByteArray) ++ a0_0) ++ (⟨#[58, 32]⟩ : ByteArray)) ++ t609).size + 4 ≤ 9223372036854775807
          ·rw [if_pos c28] at H
           have c28b0 := eq_true c28
           have c28b1 : decide (((((⟨#[102, 117, 110, 32]⟩ : ByteArray) ++ a0_0) ++ (⟨#[58, 32]⟩ : ByteArray)) ++ t609).size + 4 ≤ 9223372036854775807) = true := decide_eq_true c28
           have c28n : 4 + a0_0.size + 2 + t609.size + 4 ≤ 9223372036854775807 := by have h_ := c28; simp only [ByteArray.size_append] at h_; have z0_ : (⟨#[102, 117, 110, 32]⟩ : ByteArray).size = 4 := rfl; have z1_ : (⟨#[58, 32]⟩ : ByteArray).size = 2 := rfl; first | exact h_ | omega
           have c28b3 := eq_true c28n
           have c28b4 : (9223372036854775807 < 4 + a0_0.size + 2 + t609.size + 4) = False := eq_false (Nat.not_lt.2 c28n)
           try have c28b2 : (9223372036854775807 < ((((⟨#[102, 117, 110, 32]⟩ : ByteArray) ++ a0_0) ++ (⟨#[58, 32]⟩ : ByteArray)) ++ t609).size + 4) = False := eq_false (Nat.not_lt.2 c28)
           by_cases c29 : (((((⟨#[102, 117, 110, 32]⟩ : ByteArray) ++ a0_0) ++ (⟨#[58, 32]⟩ : ByteArray)) ++ t609) ++ (⟨#[32, 45, 62, 32]⟩ : ByteArray)).size + a0_2.size ≤ 9223372036854775807
           ·rw [if_pos c29] at H
            have c29b0 := eq_true c29
            have c29b1 : decide ((((((⟨#[102, 117, 110, 32]⟩ : ByteArray) ++ a0_0) ++ (⟨#[58, 32]⟩ : ByteArray)) ++ t609) ++ (⟨#[32, 45, 62, 32]⟩ : ByteArray)).size + a0_2.size ≤ 9223372036854775807) = true := decide_eq_true c29
            have c29n : 4 + a0_0.size + 2 + t609.size + 4 + a0_2.size ≤ 9223372036854775807 := by have h_ := c29; simp only [ByteArray.size_append] at h_; have z0_ : (⟨#[102, 117, 110, 32]⟩ : ByteArray).size = 4 := rfl; have z1_ : (⟨#[32, 45, 62, 32]⟩ : ByteArray).size = 4 := rfl; have z2_ : (⟨#[58, 32]⟩ : ByteArray).size = 2 := rfl; first | exact h_ | omega
            have c29b3 := eq_true c29n
            have c29b4 : (9223372036854775807 < 4 + a0_0.size + 2 + t609.size + 4 + a0_2.size) = False := eq_false (Nat.not_lt.2 c29n)
            try have c29b2 : (9223372036854775807 < (((((⟨#[102, 117, 110, 32]⟩ : ByteArray) ++ a0_0) ++ (⟨#[58, 32]⟩ : ByteArray)) ++ t609) ++ (⟨#[32, 45, 62, 32]⟩ : ByteArray)).size + a0_2.size) = False := eq_false (Nat.not_lt.2 c29)
            obtain rfl := Option.some.inj H
            have hcz30_0 : wc.cell? ⟨gb608, 0, none⟩ = some (.string a0_0) := (blk_cell BK608.out 0).trans rfl
            have hcz30_1 : wc.cell? ⟨gb608, 1, none⟩ = some (.slice A0_1 l0_1.length c0_1) := (blk_cell BK608.out 1).trans rfl
            have hcz30_2 : wc.cell? ⟨gb608, 2, none⟩ = some (.string a0_2) := (blk_cell BK608.out 2).trans rfl
            have hfz30_0 := blk_frozen BK608.out 0
            have hfz30_1 := blk_frozen BK608.out 1
            have hfz30_2 := blk_frozen BK608.out 2
            go_wp2
            go_ret
            exact ⟨by first | rfl | (simp [errW_none, errW_some] <;> rfl) | (simp [*, errW_none, errW_some] <;> rfl), by repeat (first | (with_reducible first | exact HB.out | apply below_alloc | apply pw_below_drewN | apply below_drew1 | refine below_set ?_ GE608.out) | exact HB.out)⟩
           ·rw [if_neg c29] at H
            exact absurd H (by simp)
          ·rw [if_neg c28] at H
           exact absurd H (by simp)
         ·rw [if_neg c27] at H
          exact absurd H (by simp)
        ·rw [if_neg c26] at H
         exact absurd H (by simp)
       ·rw [if_neg c25] at H
        exact absurd H (by simp)

end Go.Proofs.YtmlkllbaehegjaaDoor.PAll
