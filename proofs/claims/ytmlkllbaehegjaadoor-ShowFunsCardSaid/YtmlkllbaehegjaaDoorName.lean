/- token.Name: what it returns, for every text. -/
import Derived.Test.YtmlkllbaehegjaaDoorProg
import Derived.WalkKit
import Derived.Below
import Derived.LoopTactic
import Derived.Outline
import Derived.Deep.LoopGhost
import Derived.Lib.Hide
namespace Go.Proofs.YtmlkllbaehegjaaDoor
open Go Go.RowKit

def letterI (c : Int) : Bool := (decide (65 ≤ c) && decide (c ≤ 90)) || (decide (97 ≤ c) && decide (c ≤ 122)) || c == 95
def innerI (c : Int) : Bool := letterI c || (decide (48 ≤ c) && decide (c ≤ 57)) || c == 39
def nameB (l : List UInt8) : Bool := !l.isEmpty && decide (l.length ≤ 32) && letterI (l.headD 0).toNat && l.all fun b => innerI b.toNat

theorem size_list (s : ByteArray) : s.data.toList.length = s.size := Array.length_toList ..
theorem ret_int {k : IntKind} {a b : Int} (h : a = b) : Ending.returned (.int k a) = .returned (.int k b) := by rw [h]
theorem ret_bool {a b : Bool} (h : a = b) : Ending.returned (.bool a) = .returned (.bool b) := by rw [h]

theorem letter_any (c : Int) (w : World) : Calls Tryd.prog 76 #[.int .u8 c] w fun e w' => e = .returned (.bool (letterI c)) ∧ w = w' := by
  have H : letterI c = ((decide (65 ≤ c) && decide (c ≤ 90)) || (decide (97 ≤ c) && decide (c ≤ 122)) || c == 95) := rfl
  generalize letterI c = r at H
  by_cases h1 : 65 ≤ c <;> by_cases h2 : c ≤ 90 <;> by_cases h3 : 97 ≤ c <;> by_cases h4 : c ≤ 122 <;> by_cases h5 : c = 95 <;> simp [h1, h2, h3, h4, h5] at H <;> subst H <;> first | omega | skip
  all_goals
    go_enter Tryd.func76, Tryd.ntmps76
    go_wp2
    go_ret
    exact ⟨rfl, rfl⟩

theorem digit_any (c : Int) (w : World) : Calls Tryd.prog 90 #[.int .u8 c] w fun e w' => e = .returned (.bool (decide (48 ≤ c) && decide (c ≤ 57))) ∧ w = w' := by
  go_enter Tryd.func90, Tryd.ntmps90
  by_cases h1 : 48 ≤ c <;> by_cases h2 : c ≤ 57 <;> go_wp2 <;> go_ret <;> exact ⟨by simp [*], rfl⟩

theorem inner_any (c : Int) (w : World) : Calls Tryd.prog 78 #[.int .u8 c] w fun e w' => e = .returned (.bool (innerI c)) ∧ w = w' := by
  unfold innerI
  go_enter Tryd.func78, Tryd.ntmps78
  go_wp2_with (first | (go_at_call 76; refine (letter_any _ _).mono ?_; rintro e w' ⟨rfl, rfl⟩) | (go_at_call 90; refine (digit_any _ _).mono ?_; rintro e w' ⟨rfl, rfl⟩))
  all_goals go_ret
  · exact ⟨by simp [*], rfl⟩
  · rename_i h1 h2
    exact ⟨ret_bool (by rw [Bool.not_eq_true] at h1; rw [h1]; rcases h2 with h | h <;> simp <;> omega), rfl⟩
  · rename_i h1 h2
    exact ⟨ret_bool (by rw [Bool.not_eq_true] at h1; rw [h1]; simp; omega), rfl⟩

theorem take_all_step (l : List UInt8) (k : Nat) (hk : k < l.length) (h : (l.take k).all (fun b => innerI b.toNat) = true) (hb : innerI (l[k].toNat) = true) : (l.take (k + 1)).all (fun b => innerI b.toNat) = true := by
  rw [List.take_succ_eq_append_getElem hk, List.all_append, h]
  simp [hb]
theorem takeWhile_at (l : List UInt8) (k : Nat) (hk : k ≤ l.length) (h : (l.take k).all (fun b => innerI b.toNat) = true) (he : k = l.length ∨ ∃ hk : k < l.length, innerI (l[k].toNat) = false) : (l.takeWhile fun b => innerI b.toNat).length = k := by
  have e : l = l.take k ++ l.drop k := (List.take_append_drop k l).symm
  rw [e, List.takeWhile_append_of_pos (by simpa using h)]
  have : (l.drop k).takeWhile (fun b => innerI b.toNat) = [] := by
    rcases he with he | ⟨hk, hb⟩
    · simp [he]
    · rw [List.drop_eq_getElem_cons hk, List.takeWhile_cons_of_neg (by rw [hb]; exact Bool.false_ne_true)]
  rw [this]; simp; omega

theorem run_any (s : ByteArray) (hs : s.size ≤ 1000) (w : World) : Calls Tryd.prog 77 #[.string s, .int .i64 0, .func (.func 78) #[] #[]] w fun e w' => e = .returned (.int .i64 (s.data.toList.takeWhile fun b => innerI b.toNat).length) ∧ w = w' := by
  go_enter Tryd.func77, Tryd.ntmps77
  go_wp2
  go_loop [7] (fun n => ∃ k : Nat, k ≤ s.size ∧ n = .int .i64 k ∧ Hid ((s.data.toList.take k).all (fun b => innerI b.toNat) = true)) (fun n => s.size - (intOf n).toNat)
  case atStart => exact ⟨0, Nat.zero_le _, rfl, Lib.hid rfl⟩
  case round =>
    obtain ⟨k, hk, rfl, hall⟩ := hrel
    by_cases hlt : k < s.size
    · have hl : k < s.data.toList.length := by simpa using hlt
      go_wp2_with (go_at_call 78; refine (inner_any _ _).mono ?_; rintro e w' ⟨rfl, rfl⟩)
      · rename_i h1
        exact ⟨⟨k + 1, by omega, by go_num, Lib.hid (take_all_step _ _ hl hall.out h1)⟩, by simp [intOf]; omega⟩
      · rename_i h1
        go_ret
        exact ⟨ret_int (by rw [takeWhile_at _ k (by omega) hall.out (.inr ⟨hl, h1⟩)]), rfl⟩
    · go_wp2
      go_ret
      have hk' : k = s.data.toList.length := by have := size_list s; omega
      exact ⟨ret_int (by rw [takeWhile_at _ k (by omega) hall.out (.inl hk')]), rfl⟩
theorem takeWhile_all (l : List UInt8) : ((((l.takeWhile fun b => innerI b.toNat).length : Int)) == (l.length : Int)) = l.all (fun b => innerI b.toNat) := by
  induction l with
  | nil => rfl
  | cons b l ih =>
    cases h : innerI b.toNat with
    | true => rw [List.takeWhile_cons_of_pos (by exact h), List.all_cons, h, Bool.true_and, ← ih, Bool.eq_iff_iff]; simp only [List.length_cons, beq_iff_eq]; omega
    | false =>
      rw [List.takeWhile_cons_of_neg (by rw [h]; exact Bool.false_ne_true), List.all_cons, h, Bool.false_and, beq_eq_false_iff_ne]
      simp only [List.length_nil, List.length_cons]; omega

def token_Name.f (a0 : ByteArray) : Option Bool := some (nameB a0.data.toList)

theorem nameB_nil {s : ByteArray} (h : s.toList = []) : nameB s.data.toList = false := by
  have : s.data.toList = [] := by rw [← ByteArray.toList_eq]; exact h
  rw [this]; rfl
theorem nameB_long {s : ByteArray} (h : 32 < s.size) : nameB s.data.toList = false := by
  have hlen : s.data.toList.length = s.size := size_list _
  have : decide (s.data.toList.length ≤ 32) = false := by simp only [decide_eq_false_iff_not]; omega
  unfold nameB; rw [this]; simp
theorem headD_zero {s : ByteArray} (h : 0 < s.size) : s.data.toList.headD 0 = s[0] := by
  have hlen : s.data.toList.length = s.size := size_list _
  have : s.data.toList ≠ [] := fun e => by rw [e] at hlen; simp at hlen; omega
  cases hl : s.data.toList with
  | nil => exact absurd hl this
  | cons b l =>
    have : s[0] = s.data.toList[0]'(by omega) := rfl
    rw [this]; simp [hl]
theorem nameB_head {s : ByteArray} (h : 0 < s.size) (hb : letterI (s[0].toNat) = false) : nameB s.data.toList = false := by
  unfold nameB; rw [headD_zero h, hb]; simp
theorem nameB_all {s : ByteArray} (h : 0 < s.size) (h1 : s.size ≤ 32) (hb : letterI (s[0].toNat) = true) : nameB s.data.toList = (((s.data.toList.takeWhile fun b => innerI b.toNat).length : Int) == (s.size : Int)) := by
  have hlen : s.data.toList.length = s.size := size_list _
  have h2 : decide (s.data.toList.length ≤ 32) = true := by simp only [decide_eq_true_eq]; omega
  have h3 : s.data.toList.isEmpty = false := by
    cases hl : s.data.toList with
    | nil => rw [hl] at hlen; simp at hlen; omega
    | cons b l => rfl
  have := takeWhile_all s.data.toList
  rw [hlen] at this
  unfold nameB; rw [headD_zero h, hb, h2, h3, this]; simp

theorem token_Name.calls (a0 : ByteArray) (r : Bool) (w : World) (h : token_Name.f a0 = some r) : Calls Tryd.prog 65 #[.string a0] w fun e w' => e = .returned (.bool r) ∧ Below w.heap.size w w' := by
  have H := Lib.hid (Option.some.inj h)
  clear h
  by_cases h0 : a0.size = 0
  · have he : a0.toList = [] := by
      have hlen : a0.data.toList.length = a0.size := size_list _
      rw [ByteArray.toList_eq]
      exact List.eq_nil_of_length_eq_zero (by omega)
    go_enter Tryd.func65, Tryd.ntmps65
    go_wp2
    go_ret
    exact ⟨ret_bool (by rw [← H.out, nameB_nil he]), Below.refl _ _⟩
  · have hne : ¬ a0.toList = [] := fun e => h0 (by
      have : a0.data.toList.length = a0.size := size_list _
      rw [ByteArray.toList_eq] at e
      rw [e] at this; simp at this; omega)
    by_cases h1 : a0.size ≤ 32
    · have hp : 0 < a0.size := by omega
      clear h0
      go_enter Tryd.func65, Tryd.ntmps65
      go_wp2_with (first | (go_at_call 76; refine (letter_any _ _).mono ?_; rintro e w' ⟨rfl, rfl⟩) | (go_at_call 77; refine (run_any _ (by omega) _).mono ?_; rintro e w' ⟨rfl, rfl⟩))
      all_goals go_ret
      · rename_i _ hb
        exact ⟨ret_bool (by
          rw [← H.out, nameB_all hp (by omega) hb]
          have : a0.toList.isEmpty = false := by cases hl : a0.toList with
            | nil => exact absurd hl hne
            | cons b l => rfl
          rw [this]; simp), Below.refl _ _⟩
      · rename_i _ hb
        exact ⟨ret_bool (by rw [← H.out, nameB_head hp (by simpa using hb)]), Below.refl _ _⟩
    · have hl := nameB_long (s := a0) (by omega)
      have Hl := Lib.hid hl
      clear hl
      go_enter Tryd.func65, Tryd.ntmps65
      go_wp2
      go_ret
      exact ⟨ret_bool (by rw [← H.out, Hl.out]), Below.refl _ _⟩
end Go.Proofs.YtmlkllbaehegjaaDoor
