-- Printed by a program of this session (wip/prt).
import Derived.Test.YtmlkllbaehegjaaDoorPAllx0
namespace Go.Proofs.YtmlkllbaehegjaaDoor.PAll
open Go.RowKit Go.Proofs.YtmlkllbaehegjaaDoorW.PrintWords Go.Proofs.YtmlkllbaehegjaaDoorW.PrintLast Go.Proofs.YtmlkllbaehegjaaDoorW.PrintMore
attribute [local go_sem] max2_int min2_int max_two min_two max_three min_three max_four min_four   -- for this text's walks alone
set_option linter.unusedVariables false
set_option linter.unusedSimpArgs false

/-! ### sequiturref14_Fun: function 20 -/
def sequiturref14_Fun.l0 : Nat → ByteArray → Int → ByteArray → List ByteArray → ByteArray → Option (ByteArray)
  | 0, _, _, _, _, _ => none
  | k + 1, x3, x4, x611000, x611001, x611002 => if x4 < (x611001.length : Int) then (if x4 > 0 then (if x3.size + 2 ≤ 9223372036854775807 then (if 0 ≤ x4 then (if (x3 ++ (⟨#[44, 32]⟩ : ByteArray)).size + (rdOf ByteArray.empty x611001 x4).size ≤ 9223372036854775807 then (sequiturref14_Fun.l0 k ((x3 ++ (⟨#[44, 32]⟩ : ByteArray)) ++ (rdOf ByteArray.empty x611001 x4)) (wrap64 (x4 + 1)) x611000 x611001 x611002) else (none)) else (none)) else (none)) else (if 0 ≤ x4 then (if x3.size + (rdOf ByteArray.empty x611001 x4).size ≤ 9223372036854775807 then (sequiturref14_Fun.l0 k (x3 ++ (rdOf ByteArray.empty x611001 x4)) (wrap64 (x4 + 1)) x611000 x611001 x611002) else (none)) else (none))) else (if x611002.toList = ([66, 111, 111, 108] : List UInt8) then (if (x611001.length : Int) = 0 then (if 5 + x611000.size ≤ 9223372036854775807 then (some ((⟨#[112, 114, 101, 100, 32]⟩ : ByteArray) ++ x611000)) else (none)) else (if 5 + x611000.size ≤ 9223372036854775807 then (if ((⟨#[112, 114, 101, 100, 32]⟩ : ByteArray) ++ x611000).size + 2 ≤ 9223372036854775807 then (if (((⟨#[112, 114, 101, 100, 32]⟩ : ByteArray) ++ x611000) ++ (⟨#[58, 32]⟩ : ByteArray)).size + x3.size ≤ 9223372036854775807 then (some ((((⟨#[112, 114, 101, 100, 32]⟩ : ByteArray) ++ x611000) ++ (⟨#[58, 32]⟩ : ByteArray)) ++ x3)) else (none)) else (none)) else (none))) else (if (x611001.length : Int) > 0 then (if x3.size + 4 ≤ 9223372036854775807 then (if 4 + x611000.size ≤ 9223372036854775807 then (if ((⟨#[102, 117, 110, 32]⟩ : ByteArray) ++ x611000).size + 2 ≤ 9223372036854775807 then (if (((⟨#[102, 117, 110, 32]⟩ : ByteArray) ++ x611000) ++ (⟨#[58, 32]⟩ : ByteArray)).size + (x3 ++ (⟨#[32, 45, 62, 32]⟩ : ByteArray)).size ≤ 9223372036854775807 then (if ((((⟨#[102, 117, 110, 32]⟩ : ByteArray) ++ x611000) ++ (⟨#[58, 32]⟩ : ByteArray)) ++ (x3 ++ (⟨#[32, 45, 62, 32]⟩ : ByteArray))).size + x611002.size ≤ 9223372036854775807 then (some (((((⟨#[102, 117, 110, 32]⟩ : ByteArray) ++ x611000) ++ (⟨#[58, 32]⟩ : ByteArray)) ++ (x3 ++ (⟨#[32, 45, 62, 32]⟩ : ByteArray))) ++ x611002)) else (none)) else (none)) else (none)) else (none)) else (none)) else (if 4 + x611000.size ≤ 9223372036854775807 then (if ((⟨#[102, 117, 110, 32]⟩ : ByteArray) ++ x611000).size + 2 ≤ 9223372036854775807 then (if (((⟨#[102, 117, 110, 32]⟩ : ByteArray) ++ x611000) ++ (⟨#[58, 32]⟩ : ByteArray)).size + x3.size ≤ 9223372036854775807 then (if ((((⟨#[102, 117, 110, 32]⟩ : ByteArray) ++ x611000) ++ (⟨#[58, 32]⟩ : ByteArray)) ++ x3).size + x611002.size ≤ 9223372036854775807 then (some (((((⟨#[102, 117, 110, 32]⟩ : ByteArray) ++ x611000) ++ (⟨#[58, 32]⟩ : ByteArray)) ++ x3) ++ x611002)) else (none)) else (none)) else (none)) else (none))))
def sequiturref14_Fun.f (k : Nat) (a0_0 : ByteArray) (l0_1 : List ByteArray) (a0_2 : ByteArray) : Option (ByteArray) := sequiturref14_Fun.l0 k (⟨#[]⟩ : ByteArray) 0 a0_0 l0_1 a0_2
theorem sequiturref14_Fun.mono_l : ∀ k, (∀ y0 y1 y2 y3 y4, LeO (sequiturref14_Fun.l0 k y0 y1 y2 y3 y4) (sequiturref14_Fun.l0 (k + 1) y0 y1 y2 y3 y4))
  | 0 => fun _ _ _ _ _ r h => by simp [sequiturref14_Fun.l0] at h
  | k + 1 => by
    have ih0 := sequiturref14_Fun.mono_l k
    · intro y0 y1 y2 y3 y4
      unfold sequiturref14_Fun.l0
      repeat' first
      | (with_reducible exact ih0 _ _ _ _ _)
      | (with_reducible exact LeO.refl _)
      | (with_reducible exact LeO.none _)
      | (with_reducible refine LeO.ite ?_ ?_)
      | (with_reducible refine LeO.bind ?_ (fun _ => ?_))
      | exact ih0 _ _ _ _ _
      | exact LeO.none _
      | refine LeO.ite ?_ ?_
      | refine LeO.bind ?_ (fun _ => ?_)
theorem sequiturref14_Fun.mono : ∀ a0 a1 a2 k, LeO (sequiturref14_Fun.f k a0 a1 a2) (sequiturref14_Fun.f (k + 1) a0 a1 a2) := by
  intro a0 a1 a2 k
  have ih0 := sequiturref14_Fun.mono_l k
  unfold sequiturref14_Fun.f
  repeat' first
      | (with_reducible exact ih0 _ _ _ _ _)
      | (with_reducible exact LeO.refl _)
      | (with_reducible exact LeO.none _)
      | (with_reducible refine LeO.ite ?_ ?_)
      | (with_reducible refine LeO.bind ?_ (fun _ => ?_))
      | exact ih0 _ _ _ _ _
      | exact LeO.none _
      | refine LeO.ite ?_ ?_
      | refine LeO.bind ?_ (fun _ => ?_)
set_option maxHeartbeats 8000000 in
set_option maxRecDepth 100000 in
theorem sequiturref14_Fun.calls (k : Nat) (a0_0 : ByteArray) (A0_1 : Option Addr) (c0_1 : Nat) (l0_1 : List ByteArray) (a0_2 : ByteArray) (r : ByteArray) (w : World) (hr0_1 : Kd.C Kd.string w A0_1 l0_1.length l0_1) (hc0_1 : l0_1.length ≤ c0_1) (h : sequiturref14_Fun.f k a0_0 l0_1 a0_2 = some r) :
    Calls Tryd.prog 20 #[.agg #[.string a0_0, .slice A0_1 l0_1.length c0_1, .string a0_2]] w fun e w' => e = .returned (.string r) ∧ Below w.heap.size w w' := by
  have hu49 := Tryd.underlying49
  have HR0_1 := Aside0.mk hr0_1
  have HC0_1 := Aside0.mk hc0_1
  clear hr0_1 hc0_1
  have HB := Aside0.mk (Below.refl w.heap.size w)
  have H : (sequiturref14_Fun.l0 k (⟨#[]⟩ : ByteArray) 0 a0_0 l0_1 a0_2) = some r := h
  clear h
  have H' := Aside0.mk H
  clear H
  go_enter Tryd.func20, Tryd.ntmps20
  go_wp2_with (first | ((with_reducible refine gate_dst (N := 1) rfl ?_); refine box_event ?hg (N := 1) ?hd (cs := #[.string a0_0, .slice A0_1 l0_1.length c0_1, .string a0_2]) (t := 49) ?hr ?_; (case hd => rfl); (case hg => rfl); (case hr => first | (go_simp; done) | (go_simp; rfl)); intro gb610 hg w2 hbox hb; have n0_ := Aside0.mk (below_step (by repeat (first | (with_reducible first | exact HB.out | apply below_alloc | apply pw_below_drewN | apply below_drew1) | exact HB.out)) hb); have n1_ := Aside0.mk (hbox); have n2_ := Aside0.mk ((by rw [hg]; exact (below_size (by repeat (first | (with_reducible first | exact HB.out | apply below_alloc | apply pw_below_drewN | apply below_drew1) | exact HB.out))) : w.heap.size ≤ gb610)); have n3_ := Aside0.mk ((by rw [hg]; exact (below_size (by repeat (first | (with_reducible first | exact HB.out | apply below_alloc | apply pw_below_drewN | apply below_drew1) | exact HB.out))) : w.heap.size ≤ gb610)); clear HB; have HB := n0_; have BK610 := n1_; have GW610 := n2_; have GE610 := n3_; clear n0_ n1_ n2_ n3_; clear hb hbox hg))
  go_loopg [3, 4] k (fun kq v3 v4 w' => ∃ (x3_1 : ByteArray) (x4_1 : Int), v3 = .string x3_1 ∧ v4 = .int .i64 x4_1 ∧ Aside0 (sequiturref14_Fun.l0 kq x3_1 x4_1 a0_0 l0_1 a0_2 = some r) ∧ Aside0 (kq ≤ k) ∧ Aside0 (w'.heap[gb610]? = some (.cells #[.string a0_0, (.slice A0_1 l0_1.length c0_1), .string a0_2] 49 (0, 0))) ∧ Aside0 (Below w.heap.size w w'))
  case atStart => exact ⟨((⟨#[]⟩ : ByteArray)), (0), (by first | rfl | (simp; done) | (simp [*]; done) | (simp [*, nel]; done)), (by first | rfl | (simp; done) | (simp [*]; done) | (simp [*, nel]; done)), H', ⟨Nat.le_refl _⟩, ⟨by (with_reducible repeat (first | refine blk_drewN ?_ _ | refine blk_drew ?_ | refine blk_alloc ?_ _)); exact BK610.out⟩, ⟨by repeat (first | (with_reducible first | exact HB.out | apply below_alloc | apply pw_below_drewN | apply below_drew1 | refine below_set ?_ GE610.out) | exact HB.out)⟩⟩
  case round =>
   clear H'
   try clear c2
   try clear p2
   obtain ⟨x3_1, x4_1, rfl, rfl, HA, HK1, BK610, HB⟩ := hrel
   cases gk with
   | zero => exact absurd HA.out (by simp [sequiturref14_Fun.l0])
   | succ k1 =>
    have H := HA.out
    clear HA
    simp only [sequiturref14_Fun.l0] at H
    by_cases c3 : x4_1 < (l0_1.length : Int)
    ·rw [if_pos c3] at H
     have c3b0 : decide (x4_1 < (l0_1.length : Int)) = true := decide_eq_true c3
     clear c3
     by_cases c4 : x4_1 > 0
     ·rw [if_pos c4] at H
      have c4b0 : decide (0 < x4_1) = true := decide_eq_true c4
      clear c4
      by_cases c5 : x3_1.size + 2 ≤ 9223372036854775807
      ·rw [if_pos c5] at H
       have c5b0 := eq_true c5
       have c5b1 : decide (x3_1.size + 2 ≤ 9223372036854775807) = true := decide_eq_true c5
       try have c5b2 : (9223372036854775807 < x3_1.size + 2) = False := eq_false (Nat.not_lt.2 c5)
       by_cases c6 : 0 ≤ x4_1
       ·rw [if_pos c6] at H
        have c6b0 : decide (0 ≤ x4_1) = true := decide_eq_true c6
        clear c6
        by_cases c7 : (x3_1 ++ (⟨#[44, 32]⟩ : ByteArray)).size + (rdOf ByteArray.empty l0_1 x4_1).size ≤ 9223372036854775807
        ·rw [if_pos c7] at H
         have c7b0 := eq_true c7
         have c7b1 : decide ((x3_1 ++ (⟨#[44, 32]⟩ : ByteArray)).size + (rdOf ByteArray.empty l0_1 x4_1).size ≤ 9223372036854775807) = true := decide_eq_true c7
         have c7n : x3_1.size + 2 + (rdOf ByteArray.empty l0_1 x4_1).size ≤ 9223372036854775807 := by have h_ := c7; simp only [ByteArray.size_append] at h_; have z0_ : (⟨#[44, 32]⟩ : ByteArray).size = 2 := rfl; first | exact h_ | omega
         have c7b3 := eq_true c7n
         have c7b4 : (9223372036854775807 < x3_1.size + 2 + (rdOf ByteArray.empty l0_1 x4_1).size) = False := eq_false (Nat.not_lt.2 c7n)
         try have c7b2 : (9223372036854775807 < (x3_1 ++ (⟨#[44, 32]⟩ : ByteArray)).size + (rdOf ByteArray.empty l0_1 x4_1).size) = False := eq_false (Nat.not_lt.2 c7)
         have H' := Aside0.mk H
         clear H
         have hcz8_0 : wr.cell? ⟨gb610, 0, none⟩ = some (.string a0_0) := (blk_cell BK610.out 0).trans rfl
         have hcz8_1 : wr.cell? ⟨gb610, 1, none⟩ = some (.slice A0_1 l0_1.length c0_1) := (blk_cell BK610.out 1).trans rfl
         have hcz8_2 : wr.cell? ⟨gb610, 2, none⟩ = some (.string a0_2) := (blk_cell BK610.out 2).trans rfl
         have hfz8_0 := blk_frozen BK610.out 0
         have hfz8_1 := blk_frozen BK610.out 1
         have hfz8_2 := blk_frozen BK610.out 2
         have p611 : 0 ≤ (x4_1 : Int) := of_decide_eq_true (by first | (with_reducible assumption) | assumption)
         have q611 : x4_1 < (l0_1.length : Int) := of_decide_eq_true (by first | (with_reducible assumption) | assumption)
         obtain ⟨ad611, e611, hx611_0⟩ := Kd.at_string HR0_1.out x4_1 p611 q611
         cases e611
         replace hx611_0 := (HB.out.cell (World.block_lt_of_cell? w _ hx611_0)).trans hx611_0
         replace p611 := eq_true p611
         replace q611 := eq_true q611
         go_wp2
         go_roundg k1
         case measure => have := HK1.out; omega
         case rel => exact ⟨((x3_1 ++ (⟨#[44, 32]⟩ : ByteArray)) ++ (rdOf ByteArray.empty l0_1 x4_1)), (wrap64 (x4_1 + 1)), (by first | rfl | (simp; done) | (simp [*]; done) | (simp [*, nel]; done)), (by first | rfl | (simp; done) | (simp [*]; done) | (simp [*, nel]; done)), H', ⟨by have := HK1.out; omega⟩, ⟨by (with_reducible repeat (first | refine blk_drewN ?_ _ | refine blk_drew ?_ | refine blk_alloc ?_ _)); exact BK610.out⟩, ⟨by repeat (first | (with_reducible first | exact HB.out | apply below_alloc | apply pw_below_drewN | apply below_drew1 | refine below_set ?_ GE610.out) | exact HB.out)⟩⟩
        ·rw [if_neg c7] at H
         exact absurd H (by simp)
       ·rw [if_neg c6] at H
        exact absurd H (by simp)
      ·rw [if_neg c5] at H
       exact absurd H (by simp)
     ·rw [if_neg c4] at H
      have c4b0 : decide (0 < x4_1) = false := decide_eq_false c4
      clear c4
      by_cases c9 : 0 ≤ x4_1
      ·rw [if_pos c9] at H
       have c9b0 : decide (0 ≤ x4_1) = true := decide_eq_true c9
       clear c9
       by_cases c10 : x3_1.size + (rdOf ByteArray.empty l0_1 x4_1).size ≤ 9223372036854775807
       ·rw [if_pos c10] at H
        have c10b0 := eq_true c10
        have c10b1 : decide (x3_1.size + (rdOf ByteArray.empty l0_1 x4_1).size ≤ 9223372036854775807) = true := decide_eq_true c10
        try have c10b2 : (9223372036854775807 < x3_1.size + (rdOf ByteArray.empty l0_1 x4_1).size) = False := eq_false (Nat.not_lt.2 c10)
        have H' := Aside0.mk H
        clear H
        have hcz11_0 : wr.cell? ⟨gb610, 0, none⟩ = some (.string a0_0) := (blk_cell BK610.out 0).trans rfl
        have hcz11_1 : wr.cell? ⟨gb610, 1, none⟩ = some (.slice A0_1 l0_1.length c0_1) := (blk_cell BK610.out 1).trans rfl
        have hcz11_2 : wr.cell? ⟨gb610, 2, none⟩ = some (.string a0_2) := (blk_cell BK610.out 2).trans rfl
        have hfz11_0 := blk_frozen BK610.out 0
        have hfz11_1 := blk_frozen BK610.out 1
        have hfz11_2 := blk_frozen BK610.out 2
        have p612 : 0 ≤ (x4_1 : Int) := of_decide_eq_true (by first | (with_reducible assumption) | assumption)
        have q612 : x4_1 < (l0_1.length : Int) := of_decide_eq_true (by first | (with_reducible assumption) | assumption)
        obtain ⟨ad612, e612, hx612_0⟩ := Kd.at_string HR0_1.out x4_1 p612 q612
        cases e612
        replace hx612_0 := (HB.out.cell (World.block_lt_of_cell? w _ hx612_0)).trans hx612_0
        replace p612 := eq_true p612
        replace q612 := eq_true q612
        go_wp2
        go_roundg k1
        case measure => have := HK1.out; omega
        case rel => exact ⟨(x3_1 ++ (rdOf ByteArray.empty l0_1 x4_1)), (wrap64 (x4_1 + 1)), (by first | rfl | (simp; done) | (simp [*]; done) | (simp [*, nel]; done)), (by first | rfl | (simp; done) | (simp [*]; done) | (simp [*, nel]; done)), H', ⟨by have := HK1.out; omega⟩, ⟨by (with_reducible repeat (first | refine blk_drewN ?_ _ | refine blk_drew ?_ | refine blk_alloc ?_ _)); exact BK610.out⟩, ⟨by repeat (first | (with_reducible first | exact HB.out | apply below_alloc | apply pw_below_drewN | apply below_drew1 | refine below_set ?_ GE610.out) | exact HB.out)⟩⟩
       ·rw [if_neg c10] at H
        exact absurd H (by simp)
      ·rw [if_neg c9] at H
       exact absurd H (by simp)
    ·rw [if_neg c3] at H
     have c3b0 : decide (x4_1 < (l0_1.length : Int)) = false := decide_eq_false c3
     clear c3
     by_cases c12 : a0_2.toList = ([66, 111, 111, 108] : List UInt8)
     ·rw [if_pos c12] at H
      have c12b0 : (a0_2.toList == ([66, 111, 111, 108] : List UInt8)) = true := beq_iff_eq.mpr c12
      have c12b1 : (a0_2.toList != ([66, 111, 111, 108] : List UInt8)) = false := bne_eq_false_iff_eq.mpr c12
      clear c12
      by_cases c13 : (l0_1.length : Int) = 0
      ·rw [if_pos c13] at H
       have c13b0 : ((l0_1.length : Int) == 0) = true := beq_iff_eq.mpr c13
       have c13b1 : ((l0_1.length : Int) != 0) = false := bne_eq_false_iff_eq.mpr c13
       clear c13
       by_cases c14 : 5 + a0_0.size ≤ 9223372036854775807
       ·rw [if_pos c14] at H
        have c14b0 := eq_true c14
        have c14b1 : decide (5 + a0_0.size ≤ 9223372036854775807) = true := decide_eq_true c14
        try have c14b2 : (9223372036854775807 < 5 + a0_0.size) = False := eq_false (Nat.not_lt.2 c14)
        obtain rfl := Option.some.inj H
        have hcz15_0 : wr.cell? ⟨gb610, 0, none⟩ = some (.string a0_0) := (blk_cell BK610.out 0).trans rfl
        have hcz15_1 : wr.cell? ⟨gb610, 1, none⟩ = some (.slice A0_1 l0_1.length c0_1) := (blk_cell BK610.out 1).trans rfl
        have hcz15_2 : wr.cell? ⟨gb610, 2, none⟩ = some (.string a0_2) := (blk_cell BK610.out 2).trans rfl
        have hfz15_0 := blk_frozen BK610.out 0
        have hfz15_1 := blk_frozen BK610.out 1
        have hfz15_2 := blk_frozen BK610.out 2
        go_wp2
        go_ret
        exact ⟨by first | rfl | (simp [errW_none, errW_some] <;> rfl) | (simp [*, errW_none, errW_some] <;> rfl), by repeat (first | (with_reducible first | exact HB.out | apply below_alloc | apply pw_below_drewN | apply below_drew1 | refine below_set ?_ GE610.out) | exact HB.out)⟩
       ·rw [if_neg c14] at H
        exact absurd H (by simp)
      ·rw [if_neg c13] at H
       have c13b0 : ((l0_1.length : Int) == 0) = false := beq_eq_false_iff_ne.mpr c13
       have c13b1 : ((l0_1.length : Int) != 0) = true := bne_iff_ne.mpr c13
       have c13b2 : ¬ (l0_1 = []) := fun h_ => c13 (by rw [h_]; rfl)
       by_cases c16 : 5 + a0_0.size ≤ 9223372036854775807
       ·rw [if_pos c16] at H
        have c16b0 := eq_true c16
        have c16b1 : decide (5 + a0_0.size ≤ 9223372036854775807) = true := decide_eq_true c16
        try have c16b2 : (9223372036854775807 < 5 + a0_0.size) = False := eq_false (Nat.not_lt.2 c16)
        by_cases c17 : ((⟨#[112, 114, 101, 100, 32]⟩ : ByteArray) ++ a0_0).size + 2 ≤ 9223372036854775807
        ·rw [if_pos c17] at H
         have c17b0 := eq_true c17
         have c17b1 : decide (((⟨#[112, 114, 101, 100, 32]⟩ : ByteArray) ++ a0_0).size + 2 ≤ 9223372036854775807) = true := decide_eq_true c17
         have c17n : 5 + a0_0.size + 2 ≤ 9223372036854775807 := by have h_ := c17; simp only [ByteArray.size_append] at h_; have z0_ : (⟨#[112, 114, 101, 100, 32]⟩ : ByteArray).size = 5 := rfl; first | exact h_ | omega
         have c17b3 := eq_true c17n
         have c17b4 : (9223372036854775807 < 5 + a0_0.size + 2) = False := eq_false (Nat.not_lt.2 c17n)
         try have c17b2 : (9223372036854775807 < ((⟨#[112, 114, 101, 100, 32]⟩ : ByteArray) ++ a0_0).size + 2) = False := eq_false (Nat.not_lt.2 c17)
         by_cases c18 : (((⟨#[112, 114, 101, 100, 32]⟩ : ByteArray) ++ a0_0) ++ (⟨#[58, 32]⟩ : ByteArray)).size + x3_1.size ≤ 9223372036854775807
         ·rw [if_pos c18] at H
          have c18b0 := eq_true c18
          have c18b1 : decide ((((⟨#[112, 114, 101, 100, 32]⟩ : ByteArray) ++ a0_0) ++ (⟨#[58, 32]⟩ : ByteArray)).size + x3_1.size ≤ 9223372036854775807) = true := decide_eq_true c18
          have c18n : 5 + a0_0.size + 2 + x3_1.size ≤ 9223372036854775807 := by have h_ := c18; simp only [ByteArray.size_append] at h_; have z0_ : (⟨#[112, 114, 101, 100, 32]⟩ : ByteArray).size = 5 := rfl; have z1_ : (⟨#[58, 32]⟩ : ByteArray).size = 2 := rfl; first | exact h_ | omega
          have c18b3 := eq_true c18n
          have c18b4 : (9223372036854775807 < 5 + a0_0.size + 2 + x3_1.size) = False := eq_false (Nat.not_lt.2 c18n)
          try have c18b2 : (9223372036854775807 < (((⟨#[112, 114, 101, 100, 32]⟩ : ByteArray) ++ a0_0) ++ (⟨#[58, 32]⟩ : ByteArray)).size + x3_1.size) = False := eq_false (Nat.not_lt.2 c18)
          obtain rfl := Option.some.inj H
          have hcz19_0 : wr.cell? ⟨gb610, 0, none⟩ = some (.string a0_0) := (blk_cell BK610.out 0).trans rfl
          have hcz19_1 : wr.cell? ⟨gb610, 1, none⟩ = some (.slice A0_1 l0_1.length c0_1) := (blk_cell BK610.out 1).trans rfl
          have hcz19_2 : wr.cell? ⟨gb610, 2, none⟩ = some (.string a0_2) := (blk_cell BK610.out 2).trans rfl
          have hfz19_0 := blk_frozen BK610.out 0
          have hfz19_1 := blk_frozen BK610.out 1
          have hfz19_2 := blk_frozen BK610.out 2
          go_wp2
          go_ret
          exact ⟨by first | rfl | (simp [errW_none, errW_some] <;> rfl) | (simp [*, errW_none, errW_some] <;> rfl), by repeat (first | (with_reducible first | exact HB.out | apply below_alloc | apply pw_below_drewN | apply below_drew1 | refine below_set ?_ GE610.out) | exact HB.out)⟩
         ·rw [if_neg c18] at H
          exact absurd H (by simp)
        ·rw [if_neg c17] at H
         exact absurd H (by simp)
       ·rw [if_neg c16] at H
        exact absurd H (by simp)
     ·rw [if_neg c12] at H
      have c12b0 : (a0_2.toList == ([66, 111, 111, 108] : List UInt8)) = false := beq_eq_false_iff_ne.mpr c12
      have c12b1 : (a0_2.toList != ([66, 111, 111, 108] : List UInt8)) = true := bne_iff_ne.mpr c12
      by_cases c20 : (l0_1.length : Int) > 0
      ·rw [if_pos c20] at H
       have c20b0 : decide (0 < (l0_1.length : Int)) = true := decide_eq_true c20
       have c20b1 : decide (0 < l0_1.length) = true := decide_eq_true (by omega)
       clear c20
       by_cases c21 : x3_1.size + 4 ≤ 9223372036854775807
       ·rw [if_pos c21] at H
        have c21b0 := eq_true c21
        have c21b1 : decide (x3_1.size + 4 ≤ 9223372036854775807) = true := decide_eq_true c21
        try have c21b2 : (9223372036854775807 < x3_1.size + 4) = False := eq_false (Nat.not_lt.2 c21)
        by_cases c22 : 4 + a0_0.size ≤ 9223372036854775807
        ·rw [if_pos c22] at H
         have c22b0 := eq_true c22
         have c22b1 : decide (4 + a0_0.size ≤ 9223372036854775807) = true := decide_eq_true c22
         try have c22b2 : (9223372036854775807 < 4 + a0_0.size) = False := eq_false (Nat.not_lt.2 c22)
         by_cases c23 : ((⟨#[102, 117, 110, 32]⟩ : ByteArray) ++ a0_0).size + 2 ≤ 9223372036854775807
         ·rw [if_pos c23] at H
          have c23b0 := eq_true c23
          have c23b1 : decide (((⟨#[102, 117, 110, 32]⟩ : ByteArray) ++ a0_0).size + 2 ≤ 9223372036854775807) = true := decide_eq_true c23
          have c23n : 4 + a0_0.size + 2 ≤ 9223372036854775807 := by have h_ := c23; simp only [ByteArray.size_append] at h_; have z0_ : (⟨#[102, 117, 110, 32]⟩ : ByteArray).size = 4 := rfl; first | exact h_ | omega
          have c23b3 := eq_true c23n
          have c23b4 : (9223372036854775807 < 4 + a0_0.size + 2) = False := eq_false (Nat.not_lt.2 c23n)
          try have c23b2 : (9223372036854775807 < ((⟨#[102, 117, 110, 32]⟩ : ByteArray) ++ a0_0).size + 2) = False := eq_false (Nat.not_lt.2 c23)
          by_cases c24 : (((⟨#[102, 117, 110, 32]⟩ : ByteArray) ++ a0_0) ++ (⟨#[58, 32]⟩ : ByteArray)).size + (x3_1 ++ (⟨#[32, 45, 62, 32]⟩ : ByteArray)).size ≤ 9223372036854775807
          ·rw [if_pos c24] at H
           have c24b0 := eq_true c24
           have c24b1 : decide ((((⟨#[102, 117, 110, 32]⟩ : ByteArray) ++ a0_0) ++ (⟨#[58, 32]⟩ : ByteArray)).size + (x3_1 ++ (⟨#[32, 45, 62, 32]⟩ : ByteArray)).size ≤ 9223372036854775807) = true := decide_eq_true c24
           have c24n : 4 + a0_0.size + 2 + (x3_1.size + 4) ≤ 9223372036854775807 := by have h_ := c24; simp only [ByteArray.size_append] at h_; have z0_ : (⟨#[102, 117, 110, 32]⟩ : ByteArray).size = 4 := rfl; have z1_ : (⟨#[32, 45, 62, 32]⟩ : ByteArray).size = 4 := rfl; have z2_ : (⟨#[58, 32]⟩ : ByteArray).size = 2 := rfl; first | exact h_ | omega
           have c24b3 := eq_true c24n
           have c24b4 : (9223372036854775807 < 4 + a0_0.size + 2 + (x3_1.size + 4)) = False := eq_false (Nat.not_lt.2 c24n)
           try have c24b2 : (9223372036854775807 < (((⟨#[102, 117, 110, 32]⟩ : ByteArray) ++ a0_0) ++ (⟨#[58, 32]⟩ : ByteArray)).size + (x3_1 ++ (⟨#[32, 45, 62, 32]⟩ : ByteArray)).size) = False := eq_false (Nat.not_lt.2 c24)
           by_cases c25 : ((((⟨#[102, 117, 110, 32]⟩ : ByteArray) ++ a0_0) ++ (⟨#[58, 32]⟩ : ByteArray)) ++ (x3_1 ++ (⟨#[32, 45, 62, 32]⟩ : ByteArray))).size + a0_2.size ≤ 9223372036854775807
           ·rw [if_pos c25] at H
            have c25b0 := eq_true c25
            have c25b1 : decide (((((⟨#[102, 117, 110, 32]⟩ : ByteArray) ++ a0_0) ++ (⟨#[58, 32]⟩ : ByteArray)) ++ (x3_1 ++ (⟨#[32, 45, 62, 32]⟩ : ByteArray))).size + a0_2.size ≤ 9223372036854775807) = true := decide_eq_true c25
            have c25n : 4 + a0_0.size + 2 + (x3_1.size + 4) + a0_2.size ≤ 9223372036854775807 := by have h_ := c25; simp only [ByteArray.size_append] at h_; have z0_ : (⟨#[102, 117, 110, 32]⟩ : ByteArray).size = 4 := rfl; have z1_ : (⟨#[32, 45, 62, 32]⟩ : ByteArray).size = 4 := rfl; have z2_ : (⟨#[58, 32]⟩ : ByteArray).size = 2 := rfl; first | exact h_ | omega
            have c25b3 := eq_true c25n
            have c25b4 : (9223372036854775807 < 4 + a0_0.size + 2 + (x3_1.size + 4) + a0_2.size) = False := eq_false (Nat.not_lt.2 c25n)
            try have c25b2 : (9223372036854775807 < ((((⟨#[102, 117, 110, 32]⟩ : ByteArray) ++ a0_0) ++ (⟨#[58, 32]⟩ : ByteArray)) ++ (x3_1 ++ (⟨#[32, 45, 62, 32]⟩ : ByteArray))).size + a0_2.size) = False := eq_false (Nat.not_lt.2 c25)
            obtain rfl := Option.some.inj H
            have hcz26_0 : wr.cell? ⟨gb610, 0, none⟩ = some (.string a0_0) := (blk_cell BK610.out 0).trans rfl
            have hcz26_1 : wr.cell? ⟨gb610, 1, none⟩ = some (.slice A0_1 l0_1.length c0_1) := (blk_cell BK610.out 1).trans rfl
            have hcz26_2 : wr.cell? ⟨gb610, 2, none⟩ = some (.string a0_2) := (blk_cell BK610.out 2).trans rfl
            have hfz26_0 := blk_frozen BK610.out 0
            have hfz26_1 := blk_frozen BK610.out 1
            have hfz26_2 := blk_frozen BK610.out 2
            go_wp2
            go_ret
            exact ⟨by first | rfl | (simp [errW_none, errW_some] <;> rfl) | (simp [*, errW_none, errW_some] <;> rfl), by repeat (first | (with_reducible first | exact HB.out | apply below_alloc | apply pw_below_drewN | apply below_drew1 | refine below_set ?_ GE610.out) | exact HB.out)⟩
           ·rw [if_neg c25] at H
            exact absurd H (by simp)
          ·rw [if_neg c24] at H
           exact absurd H (by simp)
         ·rw [if_neg c23] at H
          exact absurd H (by simp)
        ·rw [if_neg c22] at H
         exact absurd H (by simp)
       ·rw [if_neg c21] at H
        exact absurd H (by simp)
      ·rw [if_neg c20] at H
       have c20b0 : decide (0 < (l0_1.length : Int)) = false := decide_eq_false c20
       have c20b1 : decide (0 < l0_1.length) = false := decide_eq_false (by omega)
       clear c20
       by_cases c27 : 4 + a0_0.size ≤ 9223372036854775807
       ·rw [if_pos c27] at H
        have c27b0 := eq_true c27
        have c27b1 : decide (4 + a0_0.size ≤ 9223372036854775807) = true := decide_eq_true c27
        try have c27b2 : (9223372036854775807 < 4 + a0_0.size) = False := eq_false (Nat.not_lt.2 c27)
        by_cases c28 : ((⟨#[102, 117, 110, 32]⟩ : ByteArray) ++ a0_0).size + 2 ≤ 9223372036854775807
        ·rw [if_pos c28] at H
         have c28b0 := eq_true c28
         have c28b1 : decide (((⟨#[102, 117, 110, 32]⟩ : ByteArray) ++ a0_0).size + 2 ≤ 9223372036854775807) = true := decide_eq_true c28
         have c28n : 4 + a0_0.size + 2 ≤ 9223372036854775807 := by have h_ := c28; simp only [ByteArray.size_append] at h_; have z0_ : (⟨#[102, 117, 110, 32]⟩ : ByteArray).size = 4 := rfl; first | exact h_ | omega
         have c28b3 := eq_true c28n
         have c28b4 : (9223372036854775807 < 4 + a0_0.size + 2) = False := eq_false (Nat.not_lt.2 c28n)
         try have c28b2 : (9223372036854775807 < ((⟨#[102, 117, 110, 32]⟩ : ByteArray) ++ a0_0).size + 2) = False := eq_false (Nat.not_lt.2 c28)
         by_cases c29 : (((⟨#[102, 117, 110, 32]⟩ : ByteArray) ++ a0_0) ++ (⟨#[58, 32]⟩ : ByteArray)).size + x3_1.size ≤ 9223372036854775807
         ·rw [if_pos c29] at H
          have c29b0 := eq_true c29
          have c29b1 : decide ((((⟨#[102, 117, 110, 32]⟩ : ByteArray) ++ a0_0) ++ (⟨#[58, 32]⟩ : ByteArray)).size + x3_1.size ≤ 9223372036854775807) = true := decide_eq_true c29
          have c29n : 4 + a0_0.size + 2 + x3_1.size ≤ 9223372036854775807 := by have h_ := c29; simp only [ByteArray.size_append] at h_; have z0_ : (⟨#[102, 117, 110, 32]⟩ : ByteArray).size = 4 := rfl; have z1_ : (⟨#[58, 32]⟩ : ByteArray).size = 2 := rfl; first | exact h_ | omega
          have c29b3 := eq_true c29n
          have c29b4 : (9223372036854775807 < 4 + a0_0.size + 2 + x3_1.size) = False := eq_false (Nat.not_lt.2 c29n)
          try have c29b2 : (9223372036854775807 < (((⟨#[102, 117, 110, 32]⟩ : ByteArray) ++ a0_0) ++ (⟨#[58, 32]⟩ : ByteArray)).size + x3_1.size) = False := eq_false (Nat.not_lt.2 c29)
          by_cases c30 : ((((⟨#[102, 117, 110, 32]⟩ : ByteArray) ++ a0_0) ++ (⟨#[58, 32]⟩ : ByteArray)) ++ x3_1).size + a0_2.size ≤ 9223372036854775807
          ·rw [if_pos c30] at H
           have c30b0 := eq_true c30
           have c30b1 : decide (((((⟨#[102, 117, 110, 32]⟩ : ByteArray) ++ a0_0) ++ (⟨#[58, 32]⟩ : ByteArray)) ++ x3_1).size + a0_2.size ≤ 9223372036854775807) = true := decide_eq_true c30
           have c30n : 4 + a0_0.size + 2 + x3_1.size + a0_2.size ≤ 9223372036854775807 := by have h_ := c30; simp only [ByteArray.size_append] at h_; have z0_ : (⟨#[102, 117, 110, 32]⟩ : ByteArray).size = 4 := rfl; have z1_ : (⟨#[58, 32]⟩ : ByteArray).size = 2 := rfl; first | exact h_ | omega
           have c30b3 := eq_true c30n
           have c30b4 : (9223372036854775807 < 4 + a0_0.size + 2 + x3_1.size + a0_2.size) = False := eq_false (Nat.not_lt.2 c30n)
           try have c30b2 : (9223372036854775807 < ((((⟨#[102, 117, 110, 32]⟩ : ByteArray) ++ a0_0) ++ (⟨#[58, 32]⟩ : ByteArray)) ++ x3_1).size + a0_2.size) = False := eq_false (Nat.not_lt.2 c30)
           obtain rfl := Option.some.inj H
           have hcz31_0 : wr.cell? ⟨gb610, 0, none⟩ = some (.string a0_0) := (blk_cell BK610.out 0).trans rfl
           have hcz31_1 : wr.cell? ⟨gb610, 1, none⟩ = some (.slice A0_1 l0_1.length c0_1) := (blk_cell BK610.out 1).trans rfl
           have hcz31_2 : wr.cell? ⟨gb610, 2, none⟩ = some (.string a0_2) := (blk_cell BK610.out 2).trans rfl
           have hfz31_0 := blk_frozen BK610.out 0
           have hfz31_1 := blk_frozen BK610.out 1
           have hfz31_2 := blk_frozen BK610.out 2
           go_wp2
           go_ret
           exact ⟨by first | rfl | (simp [errW_none, errW_some] <;> rfl) | (simp [*, errW_none, errW_some] <;> rfl), by repeat (first | (with_reducible first | exact HB.out | apply below_alloc | apply pw_below_drewN | apply below_drew1 | refine below_set ?_ GE610.out) | exact HB.out)⟩
          ·rw [if_neg c30] at H
           exact absurd H (by simp)
         ·rw [if_neg c29] at H
          exact absurd H (by simp)
        ·rw [if_neg c28] at H
         exact absurd H (by simp)
       ·rw [if_neg c27] at H
        exact absurd H (by simp)

end Go.Proofs.YtmlkllbaehegjaaDoor.PAll
