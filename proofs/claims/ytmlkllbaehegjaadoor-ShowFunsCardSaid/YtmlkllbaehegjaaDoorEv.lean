/- Plain laws: what holds at every number of rounds from one on; Has, Fresh, digits. -/
import Derived.Test.YtmlkllbaehegjaaDoorText
import Derived.Test.YtmlkllbaehegjaaDoorPAllx10
import Derived.Test.YtmlkllbaehegjaaDoorPAllx17
import Derived.IntWalk
import Derived.Lib.ItoaLen
namespace Go.Proofs.YtmlkllbaehegjaaDoor.PAll
open Go.RowKit Go.Proofs.YtmlkllbaehegjaaDoorW.PrintWords Go.Proofs.YtmlkllbaehegjaaDoorW.PrintLast Go.Proofs.YtmlkllbaehegjaaDoorW.PrintMore
open Go.Proofs.YtmlkllbaehegjaaDoor

/-- From some number of rounds on F tells r. -/
def Ev {α : Type} (F : Nat → Option α) (r : α) : Prop := ∃ n, ∀ k, n ≤ k → F k = some r
theorem Ev.const {α : Type} (r : α) : Ev (fun _ => some r) r := ⟨0, fun _ _ => rfl⟩
theorem Ev.of_eq {α : Type} {x : Option α} {r : α} (h : x = some r) : Ev (fun _ => x) r := ⟨0, fun _ _ => h⟩
theorem Ev.bind {α β : Type} {F : Nat → Option α} {G : Nat → α → Option β} {a : α} {r : β} (h : Ev F a) (h2 : Ev (fun k => G k a) r) : Ev (fun k => (F k).bind (G k)) r := by
  obtain ⟨n, hn⟩ := h
  obtain ⟨m, hm⟩ := h2
  refine ⟨n + m, fun k hk => ?_⟩
  show (F k).bind (G k) = some r
  rw [hn k (by omega)]
  exact hm k (by omega)
theorem Ev.step {α : Type} {F : Nat → Option α} {r : α} (h : Ev (fun k => F (k + 1)) r) : Ev F r := by
  obtain ⟨n, hn⟩ := h
  refine ⟨n + 1, fun k hk => ?_⟩
  obtain ⟨j, rfl⟩ : ∃ j, k = j + 1 := ⟨k - 1, by omega⟩
  exact hn j (by omega)
theorem Ev.get {α : Type} {F : Nat → Option α} {r : α} (h : Ev F r) : ∃ k, F k = some r := by
  obtain ⟨n, hn⟩ := h
  exact ⟨n, hn n (Nat.le_refl _)⟩
theorem Ev.pos {α : Type} {c : Prop} [Decidable c] {F G : Nat → Option α} {r : α} (hc : c) (h : Ev F r) : Ev (fun k => if c then F k else G k) r := by
  simp only [if_pos hc]
  exact h
theorem Ev.neg {α : Type} {c : Prop} [Decidable c] {F G : Nat → Option α} {r : α} (hc : ¬ c) (h : Ev G r) : Ev (fun k => if c then F k else G k) r := by
  simp only [if_neg hc]
  exact h
theorem Ev.eq {α : Type} {F : Nat → Option α} {r s : α} (h : Ev F r) (e : r = s) : Ev F s := e ▸ h

instance lawfulBytes : LawfulBEq ByteArray where
  eq_of_beq {a b} h := by
    cases a with
    | mk x =>
      cases b with
      | mk y =>
        have h2 : (x == y) = true := h
        rw [eq_of_beq h2]
  rfl {a} := by
    cases a with
    | mk x => exact (beq_self_eq_true x : (x == x) = true)
theorem bytes_eq {s t : ByteArray} : s.toList = t.toList ↔ s = t := by
  constructor
  · intro h
    rw [ByteArray.toList_eq, ByteArray.toList_eq] at h
    exact bytes_inj h
  · rintro rfl
    rfl
theorem wrap64_succ {i : Int} (h0 : 0 ≤ i) (h1 : i < 9223372036854775807) : wrap64 (i + 1) = i + 1 := IntWalk.wrap64_in _ (by omega)
theorem rdOf_nat {α : Type} (d : α) (xs : List α) (i : Nat) (h : i < xs.length) : rdOf d xs (i : Int) = xs[i] := by
  simp [rdOf, h]

/-! ### Has, Contains -/
theorem mem_drop {l : List ByteArray} {x : ByteArray} {i : Nat} (hi : i < l.length) : x ∈ l.drop i ↔ x = l[i] ∨ x ∈ l.drop (i + 1) := by rw [List.drop_eq_getElem_cons hi, List.mem_cons]
theorem has_l0 (l : List ByteArray) (x : ByteArray) (hl : l.length < 1000000) : ∀ (m i : Nat), i + m = l.length → Ev (fun k => sequiturbase_Has.l0 k l x (i : Int)) (decide (x ∈ l.drop i))
  | 0, i, h => by
    refine Ev.step ?_
    simp only [sequiturbase_Has.l0]
    refine Ev.neg (by omega) ?_
    rw [List.drop_eq_nil_of_le (by omega)]
    exact (Ev.const false).eq (by simp)
  | m + 1, i, h => by
    refine Ev.step ?_
    simp only [sequiturbase_Has.l0]
    refine Ev.pos (by omega) (Ev.pos (by omega) ?_)
    have hi : i < l.length := by omega
    rw [rdOf_nat _ _ _ hi]
    by_cases he : l[i].toList = x.toList
    · refine Ev.pos he ((Ev.const true).eq ?_)
      exact (decide_eq_true ((mem_drop hi).2 (.inl (bytes_eq.1 he).symm))).symm
    · refine Ev.neg he ?_
      rw [wrap64_succ (by omega) (by omega)]
      refine (has_l0 l x hl m (i + 1) (by omega)).eq (decide_eq_decide.2 ?_)
      have hne : ¬ x = l[i] := fun e => he (by rw [e])
      rw [mem_drop hi]
      exact ⟨.inr, fun h => h.resolve_left hne⟩
theorem has_ev (l : List ByteArray) (x : ByteArray) (hl : l.length < 1000000) : Ev (fun k => sequiturbase_Has.f k l x) (decide (x ∈ l)) := by
  have := has_l0 l x hl l.length 0 (by omega)
  simpa [sequiturbase_Has.f] using this
theorem index_l0 (l : List ByteArray) (x : ByteArray) (hl : l.length < 1000000) : ∀ (m i : Nat), i + m = l.length → ∃ v, Ev (fun k => slices_Index_string_string.l0 k l x (l.length : Int) (i : Int)) v ∧ decide (v ≥ 0) = decide (x ∈ l.drop i)
  | 0, i, h => by
    refine ⟨-1, ?_, ?_⟩
    · refine Ev.step ?_
      simp only [slices_Index_string_string.l0]
      exact Ev.neg (by omega) (Ev.const _)
    · rw [List.drop_eq_nil_of_le (by omega)]
      simp
  | m + 1, i, h => by
    have hi : i < l.length := by omega
    by_cases he : x.toList = l[i].toList
    · refine ⟨(i : Int), ?_, ?_⟩
      · refine Ev.step ?_
        simp only [slices_Index_string_string.l0]
        refine Ev.pos (by omega) (Ev.pos (by omega) (Ev.pos (by omega) ?_))
        rw [rdOf_nat _ _ _ hi]
        exact Ev.pos he (Ev.const _)
      · rw [decide_eq_true ((mem_drop hi).2 (.inl (bytes_eq.1 he)))]
        exact decide_eq_true (by omega)
    · obtain ⟨v, hv, hd⟩ := index_l0 l x hl m (i + 1) (by omega)
      refine ⟨v, ?_, ?_⟩
      · refine Ev.step ?_
        simp only [slices_Index_string_string.l0]
        refine Ev.pos (by omega) (Ev.pos (by omega) (Ev.pos (by omega) ?_))
        rw [rdOf_nat _ _ _ hi]
        refine Ev.neg he ?_
        rw [wrap64_succ (by omega) (by omega)]
        exact hv
      · rw [hd]
        have hne : ¬ x = l[i] := fun e => he (by rw [← e])
        refine decide_eq_decide.2 ?_
        rw [mem_drop hi]
        exact ⟨.inr, fun h => h.resolve_left hne⟩
theorem contains_ev (l : List ByteArray) (x : ByteArray) (hl : l.length < 1000000) : Ev (fun k => slices_Contains_string_string.f k l x) (decide (x ∈ l)) := by
  obtain ⟨v, hv, hd⟩ := index_l0 l x hl l.length 0 (by omega)
  simp only [slices_Contains_string_string.f, slices_Index_string_string.f]
  refine Ev.bind hv ((Ev.const _).eq ?_)
  simpa using hd

/-! ### numerals -/
def numB (n : Nat) : ByteArray := ⟨(Lib.decDigits n).toArray⟩
theorem wrapU_in {x : Int} (h0 : 0 ≤ x) (h1 : x < 18446744073709551616) : IntKind.u64.wrap x = x := by
  simp [IntKind.wrap, IntKind.signed, IntKind.bits]
  omega
theorem digits_ev (n : Nat) (hn : n < 18446744073709551616) : Ev (fun k => sequiturbase_digits.f k (n : Int)) (numB n) := by
  induction n using Nat.strongRecOn with
  | _ n ih =>
  refine Ev.step ?_
  simp only [sequiturbase_digits.f]
  by_cases h : n < 10
  · refine Ev.pos (by omega) ((Ev.const _).eq ?_)
    rw [wrapU_in (by omega) (by omega), numB, Lib.decDigits, dif_pos h]
    have : ((48 + (n : Int)) % 256).toNat = 48 + n := by omega
    simp [strOfNums, this]
  · refine Ev.neg (by omega) ?_
    have e1 : Int.tdiv (n : Int) 10 = ((n / 10 : Nat) : Int) := by rw [Int.tdiv_eq_ediv_of_nonneg (by omega)]; omega
    have e2 : Int.tmod (n : Int) 10 = ((n % 10 : Nat) : Int) := by rw [Int.tmod_eq_emod_of_nonneg (by omega)]; omega
    rw [e1, e2, wrapU_in (x := ((n / 10 : Nat) : Int)) (by omega) (by omega), wrapU_in (x := 48 + ((n % 10 : Nat) : Int)) (by omega) (by omega)]
    refine Ev.bind (ih (n / 10) (by omega) (by omega)) (Ev.bind (Ev.const _) ?_)
    have hs : (numB (n / 10)).size ≤ 1000000 := by
      have h1 := Lib.itoa_length_le ((n / 10 : Nat) : Int) (by omega) (by omega)
      rw [Lib.itoa_nonneg] at h1
      simp only [numB, ByteArray.size, List.size_toArray]
      omega
    refine Ev.pos (by rw [strOfNums_size]; simp; omega) ((Ev.const _).eq ?_)
    have h3 : ((48 + ((n % 10 : Nat) : Int)) % 256).toNat = 48 + n % 10 := by omega
    apply bytes_inj
    rw [ByteArray.data_append]
    simp only [numB, strOfNums, List.map_cons, List.map_nil, h3]
    conv => rhs; rw [Lib.decDigits, dif_neg h]
    simp
theorem Digits_ev (n : Nat) (hn : n < 9223372036854775808) : Ev (fun k => sequiturbase_Digits.f k (n : Int)) (numB n) := by
  simp only [sequiturbase_Digits.f]
  refine Ev.neg (by omega) ?_
  rw [wrapU_in (by omega) (by omega)]
  exact Ev.bind (digits_ev n (by omega)) (Ev.const _)
theorem numB_size (n : Nat) (hn : n < 9223372036854775808) : (numB n).size ≤ 21 := by
  have h1 := Lib.itoa_length_le (n : Int) (by omega) (by omega)
  rw [Lib.itoa_nonneg] at h1
  simpa [numB, ByteArray.size] using h1
theorem text_eq (n : Nat) (hn : n < 9223372036854775808) : digit_Text.f (n : Int) = some (numB n) := by
  unfold digit_Text.f
  rw [if_pos (by omega), Lib.itoa_nonneg]
  rfl
theorem decDigits_ne (n : Nat) : Lib.decDigits n ≠ [] := by
  intro h
  have := congrArg List.length h
  rw [Lib.decDigits_length] at this
  have h2 := Lib.nDigits_pos n
  simp at this
  omega
theorem digit_inj {a b : Nat} (ha : a < 10) (hb : b < 10) (h : UInt8.ofNat (48 + a) = UInt8.ofNat (48 + b)) : a = b := by
  have := congrArg UInt8.toNat h
  simp at this
  omega
theorem decDigits_inj (a : Nat) : ∀ b, Lib.decDigits a = Lib.decDigits b → a = b := by
  induction a using Nat.strongRecOn with
  | _ a ih =>
  intro b h
  by_cases ha : a < 10
  · by_cases hb : b < 10
    · rw [Lib.decDigits, dif_pos ha] at h
      rw [Lib.decDigits, dif_pos hb] at h
      exact digit_inj ha hb (by simpa using h)
    · rw [Lib.decDigits, dif_pos ha] at h
      rw [Lib.decDigits, dif_neg hb] at h
      have := decDigits_ne (b / 10)
      cases hd : Lib.decDigits (b / 10) with
      | nil => exact absurd hd this
      | cons x xs => rw [hd] at h; simp at h
  · by_cases hb : b < 10
    · rw [Lib.decDigits, dif_neg ha] at h
      conv at h => rhs; rw [Lib.decDigits, dif_pos hb]
      have := decDigits_ne (a / 10)
      cases hd : Lib.decDigits (a / 10) with
      | nil => exact absurd hd this
      | cons x xs => rw [hd] at h; simp at h
    · rw [Lib.decDigits, dif_neg ha] at h
      conv at h => rhs; rw [Lib.decDigits, dif_neg hb]
      obtain ⟨h1, h2⟩ := List.append_inj' h rfl
      have h3 := ih (a / 10) (by omega) (b / 10) h1
      have h4 := digit_inj (a := a % 10) (b := b % 10) (by omega) (by omega) (by simpa using h2)
      omega

/-! ### Fresh -/
def cand (base : ByteArray) (n : Nat) : ByteArray := if n = 0 then base else base ++ numB n
theorem cand_inj {base : ByteArray} {a b : Nat} (h : cand base a = cand base b) : a = b := by
  have hz : ∀ n, base ++ numB n ≠ base := by
    intro n e
    have := congrArg ByteArray.size e
    rw [ByteArray.size_append] at this
    have h2 := decDigits_ne n
    have h3 : (numB n).size = 0 := by omega
    simp only [numB, ByteArray.size, List.size_toArray] at h3
    exact h2 (List.eq_nil_of_length_eq_zero h3)
  unfold cand at h
  by_cases ha : a = 0
  · by_cases hb : b = 0
    · omega
    · rw [if_pos ha, if_neg hb] at h
      exact absurd h.symm (hz b)
  · by_cases hb : b = 0
    · rw [if_neg ha, if_pos hb] at h
      exact absurd h (hz a)
    · rw [if_neg ha, if_neg hb] at h
      have h2 := congrArg (fun s => s.data.toList) h
      simp only [ByteArray.data_append, Array.toList_append] at h2
      exact decDigits_inj a b (by simpa [numB] using List.append_cancel_left h2)
theorem pigeon {α : Type} : ∀ (l : List α) (f : Nat → α) (_ : ∀ a b, f a = f b → a = b) (m : Nat) (_ : ∀ n, n < m → f n ∈ l), m ≤ l.length
  | [], f, hf, m, h => by
    cases m with
    | zero => simp
    | succ m => exact absurd (h 0 (by omega)) (by simp)
  | x :: t, f, hf, m, h => by
    by_cases hx : ∃ n, n < m ∧ f n = x
    · obtain ⟨n0, hn0, e0⟩ := hx
      have := pigeon t (fun n => if n < n0 then f n else f (n + 1)) (by
        intro a b e
        split at e <;> split at e
        · exact hf _ _ e
        · have := hf _ _ e; omega
        · have := hf _ _ e; omega
        · have := hf _ _ e; omega) (m - 1) (by
        intro n hn
        split
        · have := h n (by omega)
          rcases List.mem_cons.1 this with e | e
          · have := hf _ _ (e.trans e0.symm); omega
          · exact e
        · have := h (n + 1) (by omega)
          rcases List.mem_cons.1 this with e | e
          · have := hf _ _ (e.trans e0.symm); omega
          · exact e)
      simp
      omega
    · have := pigeon t f hf m (by
        intro n hn
        clear hf
        rcases List.mem_cons.1 (h n hn) with e | e
        · exact absurd ⟨n, hn, e⟩ hx
        · exact e)
      simp
      omega
theorem least {p : Nat → Prop} [DecidablePred p] : ∀ L, (∃ n, n ≤ L ∧ p n) → ∃ N, N ≤ L ∧ p N ∧ ∀ m, m < N → ¬ p m
  | 0, ⟨n, hn, hp⟩ => ⟨0, by omega, by rwa [show n = 0 by omega] at hp, fun m hm => by omega⟩
  | L + 1, ⟨n, hn, hp⟩ => by
    by_cases h : ∃ n, n ≤ L ∧ p n
    · obtain ⟨N, h1, h2, h3⟩ := least L h
      exact ⟨N, by omega, h2, h3⟩
    · refine ⟨n, hn, hp, fun m hm hpm => h ⟨m, by omega, hpm⟩⟩
/-- The first name that is not taken. -/
theorem fresh_at (base : ByteArray) (taken : List ByteArray) : ∃ N, N ≤ taken.length ∧ cand base N ∉ taken ∧ ∀ m, m < N → cand base m ∈ taken := by
  obtain ⟨N, h1, h2, h3⟩ := least (p := fun n => cand base n ∉ taken) taken.length (by
    by_cases h : ∃ n, n ≤ taken.length ∧ cand base n ∉ taken
    · exact h
    · exfalso
      have := pigeon taken (cand base) (fun _ _ => cand_inj) (taken.length + 1) (fun n hn => by
        by_cases hm : cand base n ∈ taken
        · exact hm
        · exact absurd ⟨n, by omega, hm⟩ h)
      omega)
  exact ⟨N, h1, h2, fun m hm => by simpa using h3 m hm⟩
theorem index_eq (base : ByteArray) (n : Nat) (hb : base.size ≤ 1000000000) (hn : n < 9223372036854775808) : digit_Index.f base (n : Int) = some (cand base n) := by
  unfold digit_Index.f cand
  by_cases h : n = 0
  · rw [if_pos (by omega), if_pos h]
  · rw [if_neg (by omega), if_neg h, text_eq n hn]
    have := numB_size n hn
    simp only [Option.bind_some]
    rw [if_pos (by omega)]
theorem fresh_l0 (base : ByteArray) (taken : List ByteArray) (hb : base.size ≤ 1000000000) (hl : taken.length < 1000000) (N : Nat) (hN : N ≤ taken.length) (h1 : cand base N ∉ taken) (h2 : ∀ m, m < N → cand base m ∈ taken) :
    ∀ (m i : Nat), i + m = N → Ev (fun k => show_Fresh.l0 k base taken (i : Int)) (cand base N)
  | 0, i, h => by
    obtain rfl : i = N := by omega
    refine Ev.step ?_
    simp only [show_Fresh.l0]
    refine Ev.bind (Ev.of_eq (index_eq base i hb (by omega))) (Ev.bind (contains_ev taken _ hl) ?_)
    exact Ev.neg (by simp [h1]) (Ev.const _)
  | m + 1, i, h => by
    refine Ev.step ?_
    simp only [show_Fresh.l0]
    refine Ev.bind (Ev.of_eq (index_eq base i hb (by omega))) (Ev.bind (contains_ev taken _ hl) ?_)
    refine Ev.pos (by simp [h2 i (by omega)]) ?_
    rw [wrap64_succ (by omega) (by omega)]
    exact fresh_l0 base taken hb hl N hN h1 h2 m (i + 1) (by omega)
theorem ref_l0 (base : ByteArray) (taken : List ByteArray) (hb : base.size ≤ 1000000000) (hl : taken.length < 1000000) (N : Nat) (hN : N ≤ taken.length) (h1 : cand base N ∉ taken) (h2 : ∀ m, m < N → cand base m ∈ taken) :
    ∀ (m i : Nat), i + m = N → Ev (fun k => sequiturref14_Fresh.l0 k base taken (cand base i) ((i + 1 : Nat) : Int)) (cand base N)
  | 0, i, h => by
    obtain rfl : i = N := by omega
    refine Ev.step ?_
    simp only [sequiturref14_Fresh.l0]
    refine Ev.bind (has_ev taken _ hl) ?_
    exact Ev.neg (by simp [h1]) (Ev.const _)
  | m + 1, i, h => by
    refine Ev.step ?_
    simp only [sequiturref14_Fresh.l0]
    refine Ev.bind (has_ev taken _ hl) ?_
    refine Ev.pos (by simp [h2 i (by omega)]) (Ev.bind (Digits_ev (i + 1) (by omega)) ?_)
    have := numB_size (i + 1) (by omega)
    refine Ev.pos (by omega) ?_
    rw [wrap64_succ (by omega) (by omega)]
    have e : base ++ numB (i + 1) = cand base (i + 1) := by simp [cand]
    rw [e]
    exact ref_l0 base taken hb hl N hN h1 h2 m (i + 1) (by omega)
theorem fresh_both (base : ByteArray) (taken : List ByteArray) (hb : base.size ≤ 1000000000) (hl : taken.length < 1000000) :
    ∃ s, Ev (fun k => show_Fresh.f k base taken) s ∧ Ev (fun k => sequiturref14_Fresh.f k base taken) s ∧ s ∉ taken ∧ (base ∉ taken → s = base) ∧ s.size ≤ base.size + 21 := by
  obtain ⟨N, h0, h1, h2⟩ := fresh_at base taken
  refine ⟨cand base N, ?_, ?_, h1, ?_, ?_⟩
  · have := fresh_l0 base taken hb hl N h0 h1 h2 N 0 (by omega)
    simpa [show_Fresh.f] using this
  · have := ref_l0 base taken hb hl N h0 h1 h2 N 0 (by omega)
    simpa [sequiturref14_Fresh.f, cand] using this
  · intro hn
    have : N = 0 := by
      cases N with
      | zero => rfl
      | succ n => exact absurd (h2 0 (by omega)) (by simpa [cand] using hn)
    simp [this, cand]
  · unfold cand
    split
    · omega
    · have := numB_size N (by omega)
      rw [ByteArray.size_append]
      omega
end Go.Proofs.YtmlkllbaehegjaaDoor.PAll
