/- digit.Text: a number's numeral; strings.Join: as Go's. -/
import Derived.Test.YtmlkllbaehegjaaDoorLaid
import Derived.Test.YtmlkllbaehegjaaDoorShelf
import Derived.Test.YtmlkllbaehegjaaDoorWAll
import Derived.WalkKit
import Derived.Below
namespace Go.Proofs.YtmlkllbaehegjaaDoor
open Go Go.RowKit Go.Proofs.YtmlkllbaehegjaaDoorW.PrintWords Go.Proofs.YtmlkllbaehegjaaDoorW.PrintLast

def digit_Text.f (a0 : Int) : Option ByteArray := if (-9223372036854775808) ≤ a0 ∧ a0 ≤ 9223372036854775807 then some ⟨(Lib.itoa a0).toArray⟩ else none

theorem grow_below (w : World) (k : Nat) (os : Array Obj) : Below w.heap.size w (Go.Sort.grow (w.drewN k) os) := by
  refine ⟨rfl, rfl, rfl, ?_, fun i hi => ?_⟩
  · simp [Go.Sort.grow, World.drewN]
  · simp only [Go.Sort.grow, World.drewN]
    rw [Array.getElem?_append_left hi]

set_option maxRecDepth 100000 in
theorem digit_Text.calls (a0 : Int) (r : ByteArray) (w : World) (hG : Laid w) (h : digit_Text.f a0 = some r) : Calls Tryd.prog 39 #[.int .i64 a0] w fun e w' => e = .returned (.string r) ∧ Below w.heap.size w w' := by
  unfold digit_Text.f at h
  by_cases hs : (-9223372036854775808) ≤ a0 ∧ a0 ≤ 9223372036854775807
  · rw [if_pos hs] at h
    obtain rfl := Option.some.inj h
    clear h
    go_enter Tryd.func39, Tryd.ntmps39
    go_wp2_with (go_at_call 60; refine (Tryd.strconv_FormatInt_10 _ hs.1 hs.2 _ hG.pow).mono ?_; rintro e w' ⟨rfl, k, os, rfl⟩)
    go_ret
    exact ⟨rfl, grow_below _ _ _⟩
  · rw [if_neg hs] at h
    cases h

def strings_Join.f (l0 : List ByteArray) (a1 : ByteArray) : Option ByteArray :=
  if l0.length ≤ 140737488355328 ∧ (Lib.join (l0.map (·.data.toList)) a1.data.toList).length ≤ 140737488355328 then some ⟨(Lib.join (l0.map (·.data.toList)) a1.data.toList).toArray⟩ else none

theorem strings_Join.calls (A0 : Option Addr) (c0 : Nat) (l0 : List ByteArray) (a1 : ByteArray) (r : ByteArray) (w : World) (hr0 : Kd.C Kd.string w A0 l0.length l0) (hc0 : l0.length ≤ c0) (h : strings_Join.f l0 a1 = some r) :
    Calls Tryd.prog 37 #[.slice A0 l0.length c0, .string a1] w fun e w' => e = .returned (.string r) ∧ Below w.heap.size w w' := by
  unfold strings_Join.f at h
  by_cases hs : l0.length ≤ 140737488355328 ∧ (Lib.join (l0.map (·.data.toList)) a1.data.toList).length ≤ 140737488355328
  · rw [if_pos hs] at h
    obtain rfl := Option.some.inj h
    clear h
    rcases Nat.eq_zero_or_pos l0.length with h0 | h0
    · obtain rfl : l0 = [] := List.eq_nil_of_length_eq_zero h0
      refine (Tryd.strings_Join_none A0 c0 a1 w).mono ?_
      rintro e w' ⟨rfl, rfl⟩
      exact ⟨rfl, Below.refl _ _⟩
    · obtain ⟨ad, rfl, hc⟩ := Kd.at_string hr0 0 (by omega) (by omega)
      have hcs : ∀ (j : Nat) x, l0[j]? = some x → w.cell? (ad.add j) = some (.string x) := by
        intro j x hj
        obtain ⟨hl, hx⟩ := List.getElem?_eq_some_iff.1 hj
        obtain ⟨ad2, he, hc2⟩ := Kd.at_string hr0 (j : Int) (by omega) (by omega)
        cases he
        rw [Int.toNat_natCast] at hc2
        rw [hc2]
        simp [rdOf, List.getD_eq_getElem?_getD, hl, hx]
      obtain ⟨bk, o, sp⟩ := ad
      have hsp : sp = none := by
        have h1 := hcs 0 l0[0] (by simp [h0])
        cases sp with
        | none => rfl
        | some q =>
          unfold World.cell? Addr.add at h1
          simp only [if_true] at h1
          split at h1 <;> simp at h1
      subst hsp
      have hbk : bk < w.heap.size := by
        have h1 := hcs 0 l0[0] (by simp [h0])
        exact World.block_lt_of_cell? w ⟨bk, o, none⟩ (by simpa [Addr.add] using h1)
      refine (Tryd.strings_Join bk o c0 l0 a1 w ?_ hbk hs.1 hc0 hs.2).mono ?_
      · intro j x hj
        have h1 := hcs j x hj
        unfold Addr.add at h1
        by_cases hj0 : j = 0
        · subst hj0; simpa using h1
        · simpa [hj0] using h1
      · rintro e w' ⟨rfl, hb⟩
        exact ⟨rfl, hb⟩
  · rw [if_neg hs] at h
    cases h
end Go.Proofs.YtmlkllbaehegjaaDoor
