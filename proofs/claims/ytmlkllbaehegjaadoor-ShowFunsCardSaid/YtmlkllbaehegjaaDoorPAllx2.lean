-- Printed by a program of this session (wip/prt).
import Derived.Test.YtmlkllbaehegjaaDoorPAllx0
import Derived.Test.YtmlkllbaehegjaaDoorPAllx1
import Derived.Test.YtmlkllbaehegjaaDoorText
namespace Go.Proofs.YtmlkllbaehegjaaDoor.PAll
open Go.RowKit Go.Proofs.YtmlkllbaehegjaaDoorW.PrintWords Go.Proofs.YtmlkllbaehegjaaDoorW.PrintLast Go.Proofs.YtmlkllbaehegjaaDoorW.PrintMore
attribute [local go_sem] max2_int min2_int max_two min_two max_three min_three max_four min_four   -- for this text's walks alone
set_option linter.unusedVariables false
set_option linter.unusedSimpArgs false

/-! ### show_text: function 38 -/
/-! ### show_apply: function 52 -/
/-! ### show_side: function 58 -/
mutual
def show_text.j0 : Nat → List ByteArray → Bool → Int → ByteArray → Int → List (S53) → Option (ByteArray)
  | 0, _, _, _, _, _, _ => none
  | k + 1, x1, x26, x165000, x165001, x165002, x165003 => if x26 = true then (if 0 ≤ (wrap64 ((wrap64 ((x1.length : Int) - 1)) - x165002)) then (if (wrap64 ((wrap64 ((x1.length : Int) - 1)) - x165002)) < (x1.length : Int) then (some (rdOf ByteArray.empty x1 (wrap64 ((wrap64 ((x1.length : Int) - 1)) - x165002)))) else (none)) else (none)) else ((digit_Text.f (wrap64 (x165002 - (x1.length : Int)))).bind fun t174 => (if 1 + t174.size ≤ 9223372036854775807 then (some ((⟨#[39]⟩ : ByteArray) ++ t174)) else (none)))
def show_text.f : Nat → Int → ByteArray → Int → List (S53) → List ByteArray → Option (ByteArray)
  | 0, _, _, _, _, _ => none
  | k + 1, a0_0, a0_1, a0_2, l0_3, l1 => (show_arg.f a0_0 a0_1 a0_2 l0_3 0).bind fun bt165 => (if a0_0 = 4 then ((digit_Text.f a0_2).bind fun t172 => (some t172)) else (if a0_0 = 2 then (if a0_2 ≥ 0 then (show_text.j0 k l1 (decide (a0_2 < (l1.length : Int))) a0_0 a0_1 a0_2 l0_3) else (show_text.j0 k l1 false a0_0 a0_1 a0_2 l0_3)) else (if a0_0 = 5 then ((show_side.f k bt165.1 bt165.2.1 bt165.2.2.1 bt165.2.2.2 l1 false).bind fun t175 => (if t175.size + 3 ≤ 9223372036854775807 then ((show_arg.f a0_0 a0_1 a0_2 l0_3 1).bind fun bt176 => ((show_arg.f a0_0 a0_1 a0_2 l0_3 1).bind fun bt182 => ((show_sum.f bt182.1 bt182.2.1 bt182.2.2.1 bt182.2.2.2).bind fun t188 => ((show_side.f k bt176.1 bt176.2.1 bt176.2.2.1 bt176.2.2.2 l1 t188).bind fun t189 => (if (t175 ++ (⟨#[32, 43, 32]⟩ : ByteArray)).size + t189.size ≤ 9223372036854775807 then (some ((t175 ++ (⟨#[32, 43, 32]⟩ : ByteArray)) ++ t189)) else (none)))))) else (none))) else (if a0_0 = 6 then ((show_side.f k bt165.1 bt165.2.1 bt165.2.2.1 bt165.2.2.2 l1 false).bind fun t190 => (if t190.size + 3 ≤ 9223372036854775807 then ((show_arg.f a0_0 a0_1 a0_2 l0_3 1).bind fun bt191 => ((show_arg.f a0_0 a0_1 a0_2 l0_3 1).bind fun bt197 => ((show_sum.f bt197.1 bt197.2.1 bt197.2.2.1 bt197.2.2.2).bind fun t203 => ((show_side.f k bt191.1 bt191.2.1 bt191.2.2.1 bt191.2.2.2 l1 t203).bind fun t204 => (if (t190 ++ (⟨#[32, 45, 32]⟩ : ByteArray)).size + t204.size ≤ 9223372036854775807 then (some ((t190 ++ (⟨#[32, 45, 32]⟩ : ByteArray)) ++ t204)) else (none)))))) else (none))) else (if a0_0 = 7 then (if bt165.1 = 4 then ((show_side.f k bt165.1 bt165.2.1 bt165.2.2.1 bt165.2.2.2 l1 true).bind fun t205 => (if 1 + t205.size ≤ 9223372036854775807 then (some ((⟨#[45]⟩ : ByteArray) ++ t205)) else (none))) else ((show_sum.f bt165.1 bt165.2.1 bt165.2.2.1 bt165.2.2.2).bind fun t206 => (if t206 = true then ((show_side.f k bt165.1 bt165.2.1 bt165.2.2.1 bt165.2.2.2 l1 true).bind fun t207 => (if 1 + t207.size ≤ 9223372036854775807 then (some ((⟨#[45]⟩ : ByteArray) ++ t207)) else (none))) else ((show_side.f k bt165.1 bt165.2.1 bt165.2.2.1 bt165.2.2.2 l1 (bt165.1 == 8)).bind fun t208 => (if 1 + t208.size ≤ 9223372036854775807 then (some ((⟨#[45]⟩ : ByteArray) ++ t208)) else (none)))))) else (if a0_0 = 8 then ((show_side.f k 4 (⟨#[]⟩ : ByteArray) a0_2 ([] : List (S53)) ([] : List ByteArray) false).bind fun t209 => (if t209.size + 3 ≤ 9223372036854775807 then ((show_sum.f bt165.1 bt165.2.1 bt165.2.2.1 bt165.2.2.2).bind fun t210 => (if t210 = true then ((show_side.f k bt165.1 bt165.2.1 bt165.2.2.1 bt165.2.2.2 l1 true).bind fun t211 => (if (t209 ++ (⟨#[32, 42, 32]⟩ : ByteArray)).size + t211.size ≤ 9223372036854775807 then (some ((t209 ++ (⟨#[32, 42, 32]⟩ : ByteArray)) ++ t211)) else (none))) else ((show_side.f k bt165.1 bt165.2.1 bt165.2.2.1 bt165.2.2.2 l1 (bt165.1 == 8)).bind fun t212 => (if (t209 ++ (⟨#[32, 42, 32]⟩ : ByteArray)).size + t212.size ≤ 9223372036854775807 then (some ((t209 ++ (⟨#[32, 42, 32]⟩ : ByteArray)) ++ t212)) else (none))))) else (none))) else ((show_apply.f k a0_1 l0_3 l1).bind fun t213 => (some t213))))))))
def show_apply.l0 : Nat → ByteArray → List ByteArray → List ByteArray → List (S53) → Int → Int → Option (ByteArray)
  | 0, _, _, _, _, _, _ => none
  | k + 1, x0, x2, x7, x14, x15, x16 => if x16 < x15 then (if 0 ≤ x16 then (if x16 < (x14.length : Int) then ((show_text.f k ((rd_T53 x14 x16).f0) ((rd_T53 x14 x16).f1) ((rd_T53 x14 x16).f2) ((rd_T53 x14 x16).f3) x2).bind fun t216 => (if x7.length < 8796093022208 then (show_apply.l0 k x0 x2 (x7 ++ [t216]) x14 x15 (wrap64 (x16 + 1))) else (none))) else (none)) else (none)) else (if x0.size + 1 ≤ 9223372036854775807 then ((strings_Join.f x7 (⟨#[44, 32]⟩ : ByteArray)).bind fun t220 => (if (x0 ++ (⟨#[40]⟩ : ByteArray)).size + t220.size ≤ 9223372036854775807 then (if ((x0 ++ (⟨#[40]⟩ : ByteArray)) ++ t220).size + 1 ≤ 9223372036854775807 then (some (((x0 ++ (⟨#[40]⟩ : ByteArray)) ++ t220) ++ (⟨#[41]⟩ : ByteArray))) else (none)) else (none))) else (none))
def show_apply.f : Nat → ByteArray → List (S53) → List ByteArray → Option (ByteArray)
  | 0, _, _, _ => none
  | k + 1, a0, l1, l2 => if (l1.length : Int) = 0 then (some a0) else (show_apply.l0 k a0 l2 ([] : List ByteArray) l1 (l1.length : Int) 0)
def show_side.j0 : Nat → ByteArray → Bool → Option (ByteArray)
  | 0, _, _ => none
  | k + 1, x7, x21 => if x21 = true then (if 1 + x7.size ≤ 9223372036854775807 then (if ((⟨#[40]⟩ : ByteArray) ++ x7).size + 1 ≤ 9223372036854775807 then (some (((⟨#[40]⟩ : ByteArray) ++ x7) ++ (⟨#[41]⟩ : ByteArray))) else (none)) else (none)) else (some x7)
def show_side.f : Nat → Int → ByteArray → Int → List (S53) → List ByteArray → Bool → Option (ByteArray)
  | 0, _, _, _, _, _, _ => none
  | k + 1, a0_0, a0_1, a0_2, l0_3, l1, a2 => (show_text.f k a0_0 a0_1 a0_2 l0_3 l1).bind fun t222 => (if a2 = true then (show_side.j0 k t222 true) else (if a0_0 = 4 then (show_side.j0 k t222 (decide (a0_2 < 0))) else (show_side.j0 k t222 false)))
end
theorem show_text.mono_all : ∀ k, (∀ y0 y1 y2 y3 y4, LeO (show_text.f k y0 y1 y2 y3 y4) (show_text.f (k + 1) y0 y1 y2 y3 y4)) ∧ (∀ y0 y1 y2 y3 y4 y5, LeO (show_text.j0 k y0 y1 y2 y3 y4 y5) (show_text.j0 (k + 1) y0 y1 y2 y3 y4 y5)) ∧ (∀ y0 y1 y2, LeO (show_apply.f k y0 y1 y2) (show_apply.f (k + 1) y0 y1 y2)) ∧ (∀ y0 y1 y2 y3 y4 y5, LeO (show_apply.l0 k y0 y1 y2 y3 y4 y5) (show_apply.l0 (k + 1) y0 y1 y2 y3 y4 y5)) ∧ (∀ y0 y1 y2 y3 y4 y5, LeO (show_side.f k y0 y1 y2 y3 y4 y5) (show_side.f (k + 1) y0 y1 y2 y3 y4 y5)) ∧ (∀ y0 y1, LeO (show_side.j0 k y0 y1) (show_side.j0 (k + 1) y0 y1))
  | 0 => ⟨fun _ _ _ _ _ r h => by simp [show_text.f] at h, fun _ _ _ _ _ _ r h => by simp [show_text.j0] at h, fun _ _ _ r h => by simp [show_apply.f] at h, fun _ _ _ _ _ _ r h => by simp [show_apply.l0] at h, fun _ _ _ _ _ _ r h => by simp [show_side.f] at h, fun _ _ r h => by simp [show_side.j0] at h⟩
  | k + 1 => by
    obtain ⟨ih0, ih1, ih2, ih3, ih4, ih5⟩ := show_text.mono_all k
    refine ⟨?_, ?_, ?_, ?_, ?_, ?_⟩
    · intro y0 y1 y2 y3 y4
      unfold show_text.f
      repeat' first
      | (with_reducible exact ih0 _ _ _ _ _)
      | (with_reducible exact ih1 _ _ _ _ _ _)
      | (with_reducible exact ih2 _ _ _)
      | (with_reducible exact ih3 _ _ _ _ _ _)
      | (with_reducible exact ih4 _ _ _ _ _ _)
      | (with_reducible exact ih5 _ _)
      | (with_reducible exact LeO.refl _)
      | (with_reducible exact LeO.none _)
      | (with_reducible refine LeO.ite ?_ ?_)
      | (with_reducible refine LeO.bind ?_ (fun _ => ?_))
      | exact ih0 _ _ _ _ _
      | exact ih1 _ _ _ _ _ _
      | exact ih2 _ _ _
      | exact ih3 _ _ _ _ _ _
      | exact ih4 _ _ _ _ _ _
      | exact ih5 _ _
      | exact LeO.none _
      | refine LeO.ite ?_ ?_
      | refine LeO.bind ?_ (fun _ => ?_)
    · intro y0 y1 y2 y3 y4 y5
      unfold show_text.j0
      repeat' first
      | (with_reducible exact ih0 _ _ _ _ _)
      | (with_reducible exact ih1 _ _ _ _ _ _)
      | (with_reducible exact ih2 _ _ _)
      | (with_reducible exact ih3 _ _ _ _ _ _)
      | (with_reducible exact ih4 _ _ _ _ _ _)
      | (with_reducible exact ih5 _ _)
      | (with_reducible exact LeO.refl _)
      | (with_reducible exact LeO.none _)
      | (with_reducible refine LeO.ite ?_ ?_)
      | (with_reducible refine LeO.bind ?_ (fun _ => ?_))
      | exact ih0 _ _ _ _ _
      | exact ih1 _ _ _ _ _ _
      | exact ih2 _ _ _
      | exact ih3 _ _ _ _ _ _
      | exact ih4 _ _ _ _ _ _
      | exact ih5 _ _
      | exact LeO.none _
      | refine LeO.ite ?_ ?_
      | refine LeO.bind ?_ (fun _ => ?_)
    · intro y0 y1 y2
      unfold show_apply.f
      repeat' first
      | (with_reducible exact ih0 _ _ _ _ _)
      | (with_reducible exact ih1 _ _ _ _ _ _)
      | (with_reducible exact ih2 _ _ _)
      | (with_reducible exact ih3 _ _ _ _ _ _)
      | (with_reducible exact ih4 _ _ _ _ _ _)
      | (with_reducible exact ih5 _ _)
      | (with_reducible exact LeO.refl _)
      | (with_reducible exact LeO.none _)
      | (with_reducible refine LeO.ite ?_ ?_)
      | (with_reducible refine LeO.bind ?_ (fun _ => ?_))
      | exact ih0 _ _ _ _ _
      | exact ih1 _ _ _ _ _ _
      | exact ih2 _ _ _
      | exact ih3 _ _ _ _ _ _
      | exact ih4 _ _ _ _ _ _
      | exact ih5 _ _
      | exact LeO.none _
      | refine LeO.ite ?_ ?_
      | refine LeO.bind ?_ (fun _ => ?_)
    · intro y0 y1 y2 y3 y4 y5
      unfold show_apply.l0
      repeat' first
      | (with_reducible exact ih0 _ _ _ _ _)
      | (with_reducible exact ih1 _ _ _ _ _ _)
      | (with_reducible exact ih2 _ _ _)
      | (with_reducible exact ih3 _ _ _ _ _ _)
      | (with_reducible exact ih4 _ _ _ _ _ _)
      | (with_reducible exact ih5 _ _)
      | (with_reducible exact LeO.refl _)
      | (with_reducible exact LeO.none _)
      | (with_reducible refine LeO.ite ?_ ?_)
      | (with_reducible refine LeO.bind ?_ (fun _ => ?_))
      | exact ih0 _ _ _ _ _
      | exact ih1 _ _ _ _ _ _
      | exact ih2 _ _ _
      | exact ih3 _ _ _ _ _ _
      | exact ih4 _ _ _ _ _ _
      | exact ih5 _ _
      | exact LeO.none _
      | refine LeO.ite ?_ ?_
      | refine LeO.bind ?_ (fun _ => ?_)
    · intro y0 y1 y2 y3 y4 y5
      unfold show_side.f
      repeat' first
      | (with_reducible exact ih0 _ _ _ _ _)
      | (with_reducible exact ih1 _ _ _ _ _ _)
      | (with_reducible exact ih2 _ _ _)
      | (with_reducible exact ih3 _ _ _ _ _ _)
      | (with_reducible exact ih4 _ _ _ _ _ _)
      | (with_reducible exact ih5 _ _)
      | (with_reducible exact LeO.refl _)
      | (with_reducible exact LeO.none _)
      | (with_reducible refine LeO.ite ?_ ?_)
      | (with_reducible refine LeO.bind ?_ (fun _ => ?_))
      | exact ih0 _ _ _ _ _
      | exact ih1 _ _ _ _ _ _
      | exact ih2 _ _ _
      | exact ih3 _ _ _ _ _ _
      | exact ih4 _ _ _ _ _ _
      | exact ih5 _ _
      | exact LeO.none _
      | refine LeO.ite ?_ ?_
      | refine LeO.bind ?_ (fun _ => ?_)
    · intro y0 y1
      unfold show_side.j0
      repeat' first
      | (with_reducible exact ih0 _ _ _ _ _)
      | (with_reducible exact ih1 _ _ _ _ _ _)
      | (with_reducible exact ih2 _ _ _)
      | (with_reducible exact ih3 _ _ _ _ _ _)
      | (with_reducible exact ih4 _ _ _ _ _ _)
      | (with_reducible exact ih5 _ _)
      | (with_reducible exact LeO.refl _)
      | (with_reducible exact LeO.none _)
      | (with_reducible refine LeO.ite ?_ ?_)
      | (with_reducible refine LeO.bind ?_ (fun _ => ?_))
      | exact ih0 _ _ _ _ _
      | exact ih1 _ _ _ _ _ _
      | exact ih2 _ _ _
      | exact ih3 _ _ _ _ _ _
      | exact ih4 _ _ _ _ _ _
      | exact ih5 _ _
      | exact LeO.none _
      | refine LeO.ite ?_ ?_
      | refine LeO.bind ?_ (fun _ => ?_)
theorem show_text.mono : ∀ a0 a1 a2 a3 a4 k, LeO (show_text.f k a0 a1 a2 a3 a4) (show_text.f (k + 1) a0 a1 a2 a3 a4) := by
  intro a0 a1 a2 a3 a4 k
  obtain ⟨ih0, ih1, ih2, ih3, ih4, ih5⟩ := show_text.mono_all k
  exact ih0 a0 a1 a2 a3 a4
theorem show_apply.mono : ∀ a0 a1 a2 k, LeO (show_apply.f k a0 a1 a2) (show_apply.f (k + 1) a0 a1 a2) := by
  intro a0 a1 a2 k
  obtain ⟨ih0, ih1, ih2, ih3, ih4, ih5⟩ := show_text.mono_all k
  exact ih2 a0 a1 a2
theorem show_side.mono : ∀ a0 a1 a2 a3 a4 a5 k, LeO (show_side.f k a0 a1 a2 a3 a4 a5) (show_side.f (k + 1) a0 a1 a2 a3 a4 a5) := by
  intro a0 a1 a2 a3 a4 a5 k
  obtain ⟨ih0, ih1, ih2, ih3, ih4, ih5⟩ := show_text.mono_all k
  exact ih4 a0 a1 a2 a3 a4 a5

end Go.Proofs.YtmlkllbaehegjaaDoor.PAll
