/- Plain laws: in the text of a claim without binders, with lettered names, brackets balance; the text of two together. -/
-- Words of the kit's print, walks printed by a program of this session (wip/prt) in shorter words, and texts of this session, merged (pack.py).
import Derived.Test.YtmlkllbaehegjaaDoorShowBrackets15
import Derived.Test.YtmlkllbaehegjaaDoorShowBrackets17
import Derived.Test.YtmlkllbaehegjaaDoorShowBrackets18
namespace Go.Proofs.YtmlkllbaehegjaaDoor.PAll
open Go.RowKit
open Go.Proofs.YtmlkllbaehegjaaDoor
open Go.Proofs.YtmlkllbaehegjaaDoorW.PrintWords (rdOf bt)
/-! ### Balance -/
def sc : List UInt8 → Nat → Option Nat
  | [], d => some d
  | c :: r, d => if c = 40 then sc r (d + 1) else if c = 41 then (if d = 0 then none else sc r (d - 1)) else sc r d
theorem sc_append : ∀ (a b : List UInt8) (d : Nat), sc (a ++ b) d = (sc a d).bind (sc b)
  | [], b, d => rfl
  | c :: r, b, d => by
    simp only [List.cons_append, sc]
    split
    · exact sc_append r b _
    · split
      · split
        · rfl
        · exact sc_append r b _
      · exact sc_append r b _
def Bal (s : ByteArray) : Prop := ∀ d, sc s.data.toList d = some d
theorem Bal.append {s t : ByteArray} (hs : Bal s) (ht : Bal t) : Bal (s ++ t) := by
  intro d
  rw [ByteArray.data_append, Array.toList_append, sc_append, hs d]
  exact ht d
theorem Bal.par {s : ByteArray} (hs : Bal s) : Bal (par s) := by
  intro d
  unfold PAll.par
  rw [ByteArray.data_append, Array.toList_append, ByteArray.data_append, Array.toList_append, sc_append, sc_append]
  show ((sc [40] d).bind (sc s.data.toList)).bind (sc [41]) = some d
  have h1 : sc [40] d = some (d + 1) := by simp [sc]
  rw [h1]
  simp only [Option.bind_some]
  rw [hs (d + 1)]
  simp [sc]
theorem sc_plain : ∀ (l : List UInt8), (∀ c ∈ l, c ≠ 40 ∧ c ≠ 41) → ∀ d, sc l d = some d
  | [], _, d => rfl
  | c :: r, h, d => by
    obtain ⟨h1, h2⟩ := h c (by simp)
    simp only [sc]
    rw [if_neg h1, if_neg h2]
    exact sc_plain r (fun x hx => h x (by simp [hx])) d
theorem Bal.plain {s : ByteArray} (h : ∀ c ∈ s.data.toList, c ≠ 40 ∧ c ≠ 41) : Bal s := fun d => sc_plain _ h d
theorem decDigits_plain (n : Nat) : ∀ c ∈ Lib.decDigits n, c ≠ 40 ∧ c ≠ 41 ∧ c ≠ 45 := by
  induction n using Nat.strongRecOn with
  | _ n ih =>
    intro c hc
    have one : ∀ m, m < 10 → ∀ c ∈ [UInt8.ofNat (48 + m)], c ≠ 40 ∧ c ≠ 41 ∧ c ≠ 45 := by
      intro m hm c hc
      have hm2 : m = 0 ∨ m = 1 ∨ m = 2 ∨ m = 3 ∨ m = 4 ∨ m = 5 ∨ m = 6 ∨ m = 7 ∨ m = 8 ∨ m = 9 := by omega
      rcases hm2 with rfl | rfl | rfl | rfl | rfl | rfl | rfl | rfl | rfl | rfl <;> (simp at hc; subst hc; decide)
    by_cases h : n < 10
    · rw [Lib.decDigits, dif_pos h] at hc
      exact one n h c hc
    · rw [Lib.decDigits, dif_neg h] at hc
      rcases List.mem_append.1 hc with h1 | h1
      · exact ih (n / 10) (by omega) c h1
      · exact one (n % 10) (by omega) c h1
theorem num_bal (x : Int) (hx : I64 x) : ∃ s, digit_Text.f x = some s ∧ Bal s ∧ s.size ≤ 22 := by
  obtain ⟨s, h1, _, h3⟩ := num_ev x hx
  refine ⟨s, h1, ?_, h3⟩
  obtain ⟨h0, h2⟩ := hx
  unfold digit_Text.f at h1
  rw [if_pos ⟨h0, h2⟩] at h1
  obtain rfl := Option.some.inj h1
  apply Bal.plain
  intro c hc
  by_cases hn : x < 0
  · obtain ⟨n, hn2, hn3⟩ : ∃ n : Nat, x = -(n : Int) ∧ 1 ≤ n := ⟨x.natAbs, by omega, by omega⟩
    rw [hn2, Lib.itoa_neg n hn3] at hc
    have hc' : c ∈ (45 : UInt8) :: Lib.decDigits n := by simpa using hc
    rcases List.mem_cons.1 hc' with rfl | h
    · decide
    · have := decDigits_plain n c h
      exact ⟨this.1, this.2.1⟩
  · obtain ⟨n, rfl⟩ : ∃ n : Nat, x = (n : Int) := ⟨x.toNat, by omega⟩
    rw [Lib.itoa_nonneg] at hc
    have := decDigits_plain n c (by simpa using hc)
    exact ⟨this.1, this.2.1⟩
/-! ### Lettered -/
def Small (s : ByteArray) : Prop := ∀ c ∈ s.data.toList, 97 ≤ c.toNat
theorem Small.bal {s : ByteArray} (h : Small s) : Bal s := Bal.plain (fun c hc => by
  have := h c hc
  constructor <;> (rintro rfl; revert this; decide))
mutual
def LT : S53 → Prop
  | ⟨_, name, _, l⟩ => Small name ∧ LTs l
def LTs : List S53 → Prop
  | [] => True
  | t :: r => LT t ∧ LTs r
end
mutual
/-- A claim without binders, with lettered names. -/
def LC : S30 → Prop
  | ⟨op, name, _, l, c⟩ => op ≠ 11 ∧ op ≠ 12 ∧ Small name ∧ LTs l ∧ LCs c
def LCs : List S30 → Prop
  | [] => True
  | t :: r => LC t ∧ LCs r
end
theorem LT_to {t : S53} (h : LT t) : Small t.f1 ∧ LTs t.f3 := by cases t; exact h
theorem LC_to {t : S30} (h : LC t) : t.f0 ≠ 11 ∧ t.f0 ≠ 12 ∧ Small t.f1 ∧ LTs t.f3 ∧ LCs t.f4 := by cases t; exact h
theorem LT_of {t : S53} (h : Small t.f1 ∧ LTs t.f3) : LT t := by cases t; exact h
theorem LC_of {t : S30} (h : t.f0 ≠ 11 ∧ t.f0 ≠ 12 ∧ Small t.f1 ∧ LTs t.f3 ∧ LCs t.f4) : LC t := by cases t; exact h
theorem LTs_at : ∀ {l : List S53} {i : Nat} (hi : i < l.length), LTs l → LT l[i]
  | _ :: _, 0, _, h => h.1
  | _ :: r, i + 1, hi, h => LTs_at (l := r) (i := i) (by simpa using hi) h.2
theorem LCs_at : ∀ {l : List S30} {i : Nat} (hi : i < l.length), LCs l → LC l[i]
  | _ :: _, 0, _, h => h.1
  | _ :: r, i + 1, hi, h => LCs_at (l := r) (i := i) (by simpa using hi) h.2
theorem LTs_snoc {l : List S53} {i : Nat} (hi : i < l.length) (h : LTs (l.drop (i + 1))) (h1 : LT l[i]) : LTs (l.drop i) := by rw [List.drop_eq_getElem_cons hi]; exact ⟨h1, h⟩
theorem LCs_snoc {l : List S30} {i : Nat} (hi : i < l.length) (h : LCs (l.drop (i + 1))) (h1 : LC l[i]) : LCs (l.drop i) := by rw [List.drop_eq_getElem_cons hi]; exact ⟨h1, h⟩
/-! ### Terms -/
theorem sideOf_bal {t : S53} {s : ByteArray} {b : Bool} (h : Bal s) : Bal (sideOf t s b) := by
  unfold sideOf
  split
  · exact h.par
  · exact h
theorem join_bal (S : Nat → ByteArray) : ∀ n, (∀ i, i < n → Bal (S i)) → Bal (joinT (pre S n))
  | 0, _ => by
    have : joinT (pre S 0) = (⟨#[]⟩ : ByteArray) := by
      apply bytes_inj
      simp [joinT, pre, Lib.join_nil]
    rw [this]
    exact Bal.plain (by simp)
  | n + 1, h => by
    rw [join_pre]
    have h1 := join_bal S n (fun i hi => h i (by omega))
    have h2 := h n (by omega)
    split
    · exact h2
    · exact (h1.append (Bal.plain (by decide))).append h2
theorem text_bal : ∀ (N : Nat) (t : S53), wT t ≤ N → N ≤ 10000 → RT t → NT t → OT t → LT t →
    ∃ s, Ev (fun k => show_text.f k t.f0 t.f1 t.f2 t.f3 ([] : List ByteArray)) s ∧ Bal s ∧ s.size + 100 ≤ 300 * wT t
  | 0, t, h, _, _, _, _, _ => by
    have := wT_pos t
    omega
  | N + 1, t, h, hN, hR, hNm, hO, hL => by
    have hw := wT_eq t
    obtain ⟨r1, r2, r3, r4, r5, r6, r7, r8⟩ := RT_to hR
    obtain ⟨n1, n2⟩ := NT_to hNm
    obtain ⟨o1, o2⟩ := OT_to hO
    obtain ⟨l1, l2⟩ := LT_to hL
    have hl3 := wTs_len t.f3
    obtain ⟨bt, harg⟩ := arg_any t.f0 t.f1 t.f2 t.f3
    have each : ∀ i (hi : i < t.f3.length), ∃ s, Ev (fun k => show_text.f k t.f3[i].f0 t.f3[i].f1 t.f3[i].f2 t.f3[i].f3 ([] : List ByteArray)) s ∧ Bal s ∧ s.size + 100 ≤ 300 * wT t.f3[i] := by
      intro i hi
      have := wT_mem hi
      exact text_bal N t.f3[i] (by omega) (by omega) (RTs_at hi r8) (NTs_at hi n2) (OTs_at hi o2) (LTs_at hi l2)
    have s1 : (⟨#[45]⟩ : ByteArray).size = 1 := rfl
    have s39 : (⟨#[39]⟩ : ByteArray).size = 1 := rfl
    have sp : (⟨#[32, 43, 32]⟩ : ByteArray).size = 3 := rfl
    have sm : (⟨#[32, 45, 32]⟩ : ByteArray).size = 3 := rfl
    have st : (⟨#[32, 42, 32]⟩ : ByteArray).size = 3 := rfl
    rcases (show t.f0 = 4 ∨ t.f0 = 2 ∨ t.f0 = 5 ∨ t.f0 = 6 ∨ t.f0 = 7 ∨ t.f0 = 8 ∨ (t.f0 = 1 ∨ t.f0 = 3) by omega) with h4 | h2 | h5 | h6 | h7 | h8 | h13
    · obtain ⟨s, e1, e2, e3⟩ := num_bal t.f2 o1
      refine ⟨s, ?_, e2, by omega⟩
      refine Ev.step ?_
      simp only [show_text.f]
      exact Ev.bind (Ev.of_eq harg) (Ev.pos h4 (Ev.bind (Ev.of_eq e1) (Ev.const _)))
    · have h0 := r3 h2
      obtain ⟨u1, u2⟩ := o1
      have el : (([] : List ByteArray).length : Int) = 0 := rfl
      have ew : wrap64 (t.f2 - (([] : List ByteArray).length : Int)) = t.f2 := by rw [el, IntWalk.wrap64_in _ (by omega)]; omega
      obtain ⟨s, e1, e2, e3⟩ := num_bal t.f2 ⟨by omega, by omega⟩
      refine ⟨(⟨#[39]⟩ : ByteArray) ++ s, ?_, Bal.append (Bal.plain (by decide)) e2, by rw [ByteArray.size_append]; omega⟩
      refine Ev.step ?_
      simp only [show_text.f]
      refine Ev.bind (Ev.of_eq harg) (Ev.neg (by omega) (Ev.pos h2 (Ev.pos (by omega) (Ev.step ?_))))
      simp only [show_text.j0]
      rw [ew]
      exact Ev.neg (by rw [el]; simp; omega) (Ev.bind (Ev.of_eq e1) (Ev.pos (by omega) (Ev.const _)))
    · have hl := r4 h5
      have g0 : 0 < t.f3.length := by omega
      have g1 : 1 < t.f3.length := by omega
      have w0 := wT_mem g0
      have w1 := wT_mem g1
      have ww : wT t.f3[0] + wT t.f3[1] ≤ wTs t.f3 := by
        have d0 : wTs t.f3 = wT t.f3[0] + wTs (t.f3.drop 1) := by
          have := wTs_drop (l := t.f3) (i := 0) g0
          rwa [List.drop_zero] at this
        have d1 : wTs (t.f3.drop 1) = wT t.f3[1] + wTs (t.f3.drop 2) := wTs_drop (l := t.f3) (i := 1) g1
        omega
      obtain ⟨sa, a1, a2, a3⟩ := each 0 g0
      obtain ⟨sb, b1, b2, b3⟩ := each 1 g1
      have za := sideOf_size t.f3[0] sa false
      have zb := sideOf_size t.f3[1] sb (sumB t.f3[1])
      refine ⟨(sideOf t.f3[0] sa false ++ (⟨#[32, 43, 32]⟩ : ByteArray)) ++ sideOf t.f3[1] sb (sumB t.f3[1]), ?_, Bal.append (Bal.append (sideOf_bal a2) (Bal.plain (by decide))) (sideOf_bal b2), by simp only [ByteArray.size_append]; omega⟩
      refine Ev.step ?_
      simp only [show_text.f]
      refine Ev.bind (Ev.of_eq (arg_at _ _ _ _ g0)) (Ev.neg (by omega) (Ev.neg (by omega) (Ev.pos h5 ?_)))
      refine Ev.bind (side_show t.f3[0] [] sa false a1 (by omega)) (Ev.pos (by omega) ?_)
      refine Ev.bind (Ev.of_eq (arg_at _ _ _ _ g1)) (Ev.bind (Ev.of_eq (arg_at _ _ _ _ g1)) (Ev.bind (Ev.of_eq (sum_show t.f3[1])) ?_))
      exact Ev.bind (side_show t.f3[1] [] sb _ b1 (by omega)) (Ev.pos (by simp only [ByteArray.size_append]; omega) (Ev.const _))
    · have hl := r5 h6
      have g0 : 0 < t.f3.length := by omega
      have g1 : 1 < t.f3.length := by omega
      have w0 := wT_mem g0
      have w1 := wT_mem g1
      have ww : wT t.f3[0] + wT t.f3[1] ≤ wTs t.f3 := by
        have d0 : wTs t.f3 = wT t.f3[0] + wTs (t.f3.drop 1) := by
          have := wTs_drop (l := t.f3) (i := 0) g0
          rwa [List.drop_zero] at this
        have d1 : wTs (t.f3.drop 1) = wT t.f3[1] + wTs (t.f3.drop 2) := wTs_drop (l := t.f3) (i := 1) g1
        omega
      obtain ⟨sa, a1, a2, a3⟩ := each 0 g0
      obtain ⟨sb, b1, b2, b3⟩ := each 1 g1
      have za := sideOf_size t.f3[0] sa false
      have zb := sideOf_size t.f3[1] sb (sumB t.f3[1])
      refine ⟨(sideOf t.f3[0] sa false ++ (⟨#[32, 45, 32]⟩ : ByteArray)) ++ sideOf t.f3[1] sb (sumB t.f3[1]), ?_, Bal.append (Bal.append (sideOf_bal a2) (Bal.plain (by decide))) (sideOf_bal b2), by simp only [ByteArray.size_append]; omega⟩
      refine Ev.step ?_
      simp only [show_text.f]
      refine Ev.bind (Ev.of_eq (arg_at _ _ _ _ g0)) (Ev.neg (by omega) (Ev.neg (by omega) (Ev.neg (by omega) (Ev.pos h6 ?_))))
      refine Ev.bind (side_show t.f3[0] [] sa false a1 (by omega)) (Ev.pos (by omega) ?_)
      refine Ev.bind (Ev.of_eq (arg_at _ _ _ _ g1)) (Ev.bind (Ev.of_eq (arg_at _ _ _ _ g1)) (Ev.bind (Ev.of_eq (sum_show t.f3[1])) ?_))
      exact Ev.bind (side_show t.f3[1] [] sb _ b1 (by omega)) (Ev.pos (by simp only [ByteArray.size_append]; omega) (Ev.const _))
    · have hl := r6 h7
      have g0 : 0 < t.f3.length := by omega
      have w0 := wT_mem g0
      obtain ⟨sa, a1, a2, a3⟩ := each 0 g0
      obtain ⟨b, hb⟩ : ∃ b : Bool, b = decide (t.f3[0].f0 = 4 ∨ t.f3[0].f0 = 5 ∨ t.f3[0].f0 = 6 ∨ t.f3[0].f0 = 8) := ⟨_, rfl⟩
      have za := sideOf_size t.f3[0] sa b
      have hsum : sumB t.f3[0] = true ↔ (t.f3[0].f0 = 5 ∨ t.f3[0].f0 = 6) := by unfold sumB; simp
      have e1 := side_show t.f3[0] [] sa b a1 (by omega)
      refine ⟨(⟨#[45]⟩ : ByteArray) ++ sideOf t.f3[0] sa b, ?_, Bal.append (Bal.plain (by decide)) (sideOf_bal a2), by simp only [ByteArray.size_append]; omega⟩
      refine Ev.step ?_
      simp only [show_text.f]
      refine Ev.bind (Ev.of_eq (arg_at _ _ _ _ g0)) (Ev.neg (by omega) (Ev.neg (by omega) (Ev.neg (by omega) (Ev.neg (by omega) (Ev.pos h7 ?_)))))
      by_cases q4 : t.f3[0].f0 = 4
      · have : b = true := by rw [hb]; exact decide_eq_true (.inl q4)
        rw [this] at e1 za ⊢
        exact Ev.pos q4 (Ev.bind e1 (Ev.pos (by omega) (Ev.const _)))
      · refine Ev.neg q4 (Ev.bind (Ev.of_eq (sum_show t.f3[0])) ?_)
        by_cases qs : sumB t.f3[0] = true
        · have : b = true := by rw [hb]; exact decide_eq_true (by have := hsum.1 qs; omega)
          rw [this] at e1 za ⊢
          exact Ev.pos qs (Ev.bind e1 (Ev.pos (by omega) (Ev.const _)))
        · have hq : ¬ (t.f3[0].f0 = 5 ∨ t.f3[0].f0 = 6) := fun e => qs (hsum.2 e)
          have e8 : (t.f3[0].f0 == 8) = b := by
            rw [hb]
            by_cases q8 : t.f3[0].f0 = 8
            · simp [q8]
            · rw [beq_eq_false_iff_ne.mpr q8]
              exact (decide_eq_false (by omega)).symm
          refine Ev.neg qs ?_
          show Ev (fun k => (show_side.f k t.f3[0].f0 t.f3[0].f1 t.f3[0].f2 t.f3[0].f3 ([] : List ByteArray) (t.f3[0].f0 == 8)).bind _) _
          rw [e8]
          refine Ev.bind e1 ?_
          exact Ev.pos (by omega) (Ev.const _)
    · have hl := r7 h8
      have g0 : 0 < t.f3.length := by omega
      have w0 := wT_mem g0
      obtain ⟨sa, a1, a2, a3⟩ := each 0 g0
      obtain ⟨b, hb⟩ : ∃ b : Bool, b = decide (t.f3[0].f0 = 5 ∨ t.f3[0].f0 = 6 ∨ t.f3[0].f0 = 8) := ⟨_, rfl⟩
      have za := sideOf_size t.f3[0] sa b
      have hsum : sumB t.f3[0] = true ↔ (t.f3[0].f0 = 5 ∨ t.f3[0].f0 = 6) := by unfold sumB; simp
      have e1 := side_show t.f3[0] [] sa b a1 (by omega)
      obtain ⟨sn, d1, d2, d3⟩ := num_bal t.f2 o1
      obtain ⟨tn, htn⟩ : ∃ tn : S53, tn = ⟨4, ⟨#[]⟩, t.f2, []⟩ := ⟨_, rfl⟩
      have hn0 : tn.f0 = 4 := by rw [htn]
      have hn2 : tn.f2 = t.f2 := by rw [htn]
      have en : Ev (fun k => show_text.f k tn.f0 tn.f1 tn.f2 tn.f3 ([] : List ByteArray)) sn := by
        obtain ⟨bn, hbn⟩ := arg_any tn.f0 tn.f1 tn.f2 tn.f3
        refine Ev.step ?_
        simp only [show_text.f]
        refine Ev.bind (Ev.of_eq hbn) (Ev.pos hn0 (Ev.bind (Ev.of_eq (r := sn) (by rw [hn2]; exact d1)) (Ev.const _)))
      have en2 := side_show tn [] sn false en (by omega)
      have zn := sideOf_size tn sn false
      refine ⟨(sideOf tn sn false ++ (⟨#[32, 42, 32]⟩ : ByteArray)) ++ sideOf t.f3[0] sa b, ?_, Bal.append (Bal.append (sideOf_bal d2) (Bal.plain (by decide))) (sideOf_bal a2), by simp only [ByteArray.size_append]; omega⟩
      refine Ev.step ?_
      simp only [show_text.f]
      refine Ev.bind (Ev.of_eq (arg_at _ _ _ _ g0)) (Ev.neg (by omega) (Ev.neg (by omega) (Ev.neg (by omega) (Ev.neg (by omega) (Ev.neg (by omega) (Ev.pos h8 ?_))))))
      refine Ev.bind (a := sideOf tn sn false) (by rw [htn] at en2; rw [htn]; exact en2) (Ev.pos (by omega) (Ev.bind (Ev.of_eq (sum_show t.f3[0])) ?_))
      by_cases qs : sumB t.f3[0] = true
      · have : b = true := by rw [hb]; exact decide_eq_true (by have := hsum.1 qs; omega)
        rw [this] at e1 za ⊢
        exact Ev.pos qs (Ev.bind e1 (Ev.pos (by simp only [ByteArray.size_append]; omega) (Ev.const _)))
      · have hq : ¬ (t.f3[0].f0 = 5 ∨ t.f3[0].f0 = 6) := fun e => qs (hsum.2 e)
        have e8 : (t.f3[0].f0 == 8) = b := by
          rw [hb]
          by_cases q8 : t.f3[0].f0 = 8
          · simp [q8]
          · rw [beq_eq_false_iff_ne.mpr q8]
            exact (decide_eq_false (by omega)).symm
        refine Ev.neg qs ?_
        show Ev (fun k => (show_side.f k t.f3[0].f0 t.f3[0].f1 t.f3[0].f2 t.f3[0].f3 ([] : List ByteArray) (t.f3[0].f0 == 8)).bind _) _
        rw [e8]
        refine Ev.bind e1 ?_
        exact Ev.pos (by simp only [ByteArray.size_append]; omega) (Ev.const _)
    · obtain ⟨S, hS⟩ : ∃ S : Nat → ByteArray, ∀ i (hi : i < t.f3.length), Ev (fun k => show_text.f k t.f3[i].f0 t.f3[i].f1 t.f3[i].f2 t.f3[i].f3 ([] : List ByteArray)) (S i) ∧ Bal (S i) ∧ (S i).size + 100 ≤ 300 * wT t.f3[i] := by
        have : ∀ i, ∃ s : ByteArray, ∀ (hi : i < t.f3.length), Ev (fun k => show_text.f k t.f3[i].f0 t.f3[i].f1 t.f3[i].f2 t.f3[i].f3 ([] : List ByteArray)) s ∧ Bal s ∧ s.size + 100 ≤ 300 * wT t.f3[i] := by
          intro i
          by_cases hi : i < t.f3.length
          · obtain ⟨s, q⟩ := each i hi
            exact ⟨s, fun _ => q⟩
          · exact ⟨⟨#[]⟩, fun h => absurd h hi⟩
        exact ⟨fun i => Classical.choose (this i), fun i hi => Classical.choose_spec (this i) hi⟩
      have hJ : ∀ i, i ≤ t.f3.length → (joinT (pre S i)).size ≤ 300 * wTs t.f3 := fun i hi => by
        have h1 := join_pre_size S t.f3 (fun i hi => (hS i hi).2.2) i hi
        have h2 := wTs_take_le t.f3 i
        omega
      have hJl := hJ t.f3.length (Nat.le_refl _)
      have hz : (appOf t.f1 S t.f3.length).size + 100 ≤ 300 * wT t := by
        unfold appOf
        split
        · omega
        · rw [ByteArray.size_append, par_size]
          omega
      refine ⟨appOf t.f1 S t.f3.length, ?_, ?_, hz⟩
      · refine Ev.step ?_
        simp only [show_text.f]
        refine Ev.bind (Ev.of_eq harg) (Ev.neg (by omega) (Ev.neg (by omega) (Ev.neg (by omega) (Ev.neg (by omega) (Ev.neg (by omega) (Ev.neg (by omega) ?_))))))
        exact Ev.bind (app_show t.f1 t.f3 [] S (by omega) (by omega) (by omega) (fun i hi => (hS i hi).1)) (Ev.const _)
      · unfold appOf
        split
        · exact l1.bal
        · exact l1.bal.append (join_bal S _ (fun i hi => (hS i hi).2.1)).par
/-! ### Claims -/
theorem signs_bal (x : Int) (h : 7 ≤ x) (h2 : x ≤ 10) : Bal (signsV x) := by
  have : x = 7 ∨ x = 8 ∨ x = 9 ∨ x = 10 := by omega
  rcases this with rfl | rfl | rfl | rfl <;> exact Bal.plain (by decide)
/-- Two sides. -/
theorem two_ev (t : S30) (q : 7 ≤ t.f0 ∧ t.f0 ≤ 10) (g0 : 0 < t.f4.length) (g1 : 1 < t.f4.length) (names : List ByteArray) (sa sb : ByteArray) (b3 : Int) (b4 : Bool) (hb : b3 ≤ tightV t.f0) (hsz : sa.size + sb.size ≤ 1000000)
    (x1 : Ev (fun k => show_shower_show.f k names t.f4[0].f0 t.f4[0].f1 t.f4[0].f2 t.f4[0].f3 t.f4[0].f4 ([] : List ByteArray) (tightV t.f0 + 1) false) sa) (y1 : Ev (fun k => show_shower_show.f k names t.f4[1].f0 t.f4[1].f1 t.f4[1].f2 t.f4[1].f3 t.f4[1].f4 ([] : List ByteArray) (tightV t.f0) b4) sb) :
    Ev (fun k => show_shower_show.f k names t.f0 t.f1 t.f2 t.f3 t.f4 ([] : List ByteArray) b3 b4) ((sa ++ signsV t.f0) ++ sb) := by
  obtain ⟨e1, v1, v4, vh, vs, vz⟩ := loose_tight t.f0 q.1 q.2
  have hd : decide (t.f0 = 11 ∨ t.f0 = 12) = false := decide_eq_false (by omega)
  have hwr : wrap64 (tightV t.f0 + 1) = tightV t.f0 + 1 := IntWalk.wrap64_in _ (by omega)
  refine show_last t names [] b3 b4 _ (.inr q.1) ?_
  rw [hd]
  refine Ev.step ?_
  simp only [show_shower_show.j0]
  rw [hwr]
  exact Ev.neg (by simp) (Ev.pos (by omega) (Ev.pos (by omega) (Ev.pos vh (Ev.neg (by omega) (Ev.bind (Ev.of_eq (sub_at _ _ _ _ _ g0)) (Ev.bind x1 (Ev.pos (by omega) (Ev.bind (Ev.of_eq (sub_at _ _ _ _ _ g1)) (Ev.bind y1 (Ev.pos (by simp only [ByteArray.size_append]; omega) (Ev.const _)))))))))))
/-- How a claim's text stands where at least so tight a sign may stand. -/
def sideC (t : S30) (x : ByteArray) (a3 : Int) : ByteArray := if 7 ≤ t.f0 ∧ tightV t.f0 < a3 then par x else x
theorem sideC_or (t : S30) (x : ByteArray) (a3 : Int) : sideC t x a3 = x ∨ sideC t x a3 = par x := by
  unfold sideC
  split
  · exact .inr rfl
  · exact .inl rfl
theorem sideC_bal {t : S30} {x : ByteArray} {a3 : Int} (h : Bal x) : Bal (sideC t x a3) := by
  rcases sideC_or t x a3 with e | e <;> rw [e]
  · exact h
  · exact h.par
theorem sideC_size (t : S30) (x : ByteArray) (a3 : Int) : (sideC t x a3).size ≤ x.size + 2 := by
  rcases sideC_or t x a3 with e | e <;> rw [e]
  · omega
  · rw [par_size]
    omega
theorem claim_bal : ∀ (N : Nat) (t : S30), wC t ≤ N → N ≤ 2000 → RC t → NC t → OC t → LC t →
    ∃ x, Bal x ∧ x.size + 100 ≤ 300 * wC t ∧ ∀ (names : List ByteArray) (a3 : Int) (a4 : Bool), 1 ≤ a3 → a3 ≤ 5 → Ev (fun k => show_shower_show.f k names t.f0 t.f1 t.f2 t.f3 t.f4 ([] : List ByteArray) a3 a4) (sideC t x a3)
  | 0, t, h, _, _, _, _, _ => by
    have := wC_pos t
    omega
  | N + 1, t, h, hN, hr, hn, ho, hl => by
    rw [wC_eq] at h
    obtain ⟨r0, r1, r4, r5, r6, r11, r12, r7, rts, rcs⟩ := RC_to hr
    obtain ⟨n0, n1, nts, ncs⟩ := NC_to hn
    obtain ⟨ots, ocs⟩ := OC_to ho
    obtain ⟨l11, l12, ls, lts, lcs⟩ := LC_to hl
    have each : ∀ i (hi : i < t.f4.length), ∃ x, Bal x ∧ x.size + 100 ≤ 300 * wC t.f4[i] ∧ ∀ (names : List ByteArray) (a3 : Int) (a4 : Bool), 1 ≤ a3 → a3 ≤ 5 → Ev (fun k => show_shower_show.f k names t.f4[i].f0 t.f4[i].f1 t.f4[i].f2 t.f4[i].f3 t.f4[i].f4 ([] : List ByteArray) a3 a4) (sideC t.f4[i] x a3) := by
      intro i hi
      have hw := wC_mem hi
      exact claim_bal N t.f4[i] (by omega) (by omega) (RCs_at hi rcs) (NCs_at hi ncs) (OCs_at hi ocs) (LCs_at hi lcs)
    have term : ∀ i (hi : i < t.f3.length), ∃ s, Ev (fun k => show_text.f k t.f3[i].f0 t.f3[i].f1 t.f3[i].f2 t.f3[i].f3 ([] : List ByteArray)) s ∧ Bal s ∧ s.size + 100 ≤ 300 * wT t.f3[i] := by
      intro i hi
      have hw := wT_mem hi
      exact text_bal N t.f3[i] (by omega) (by omega) (RTs_at hi rts) (NTs_at hi nts) (OTs_at hi ots) (LTs_at hi lts)
    have hop : t.f0 = 1 ∨ t.f0 = 2 ∨ t.f0 = 3 ∨ t.f0 = 4 ∨ t.f0 = 5 ∨ t.f0 = 6 ∨ (7 ≤ t.f0 ∧ t.f0 ≤ 10) := by omega
    have low : t.f0 ≤ 6 → ∀ x a3, sideC t x a3 = x := fun h x a3 => by unfold sideC; rw [if_neg (by omega)]
    rcases hop with q | q | q | q | q | q | q
    · refine ⟨⟨#[116, 114, 117, 101]⟩, Bal.plain (by decide), ?_, fun names a3 a4 _ _ => ?_⟩
      · have : (⟨#[116, 114, 117, 101]⟩ : ByteArray).size = 4 := rfl
        rw [wC_eq]; omega
      · rw [low (by omega)]
        refine Ev.step ?_
        simp only [show_shower_show.f]
        exact Ev.pos q (Ev.const _)
    · refine ⟨⟨#[102, 97, 108, 115, 101]⟩, Bal.plain (by decide), ?_, fun names a3 a4 _ _ => ?_⟩
      · have : (⟨#[102, 97, 108, 115, 101]⟩ : ByteArray).size = 5 := rfl
        rw [wC_eq]; omega
      · rw [low (by omega)]
        refine Ev.step ?_
        simp only [show_shower_show.f]
        exact Ev.neg (by omega) (Ev.pos q (Ev.const _))
    · obtain ⟨s, s1, s2, s3⟩ := text_bal (N + 1) ⟨3, t.f1, 0, t.f3⟩ (by rw [wT_eq]; show 1 + wTs t.f3 ≤ N + 1; omega) (by omega) ⟨by omega, by omega, by omega, by omega, by omega, by omega, by omega, rts⟩ ⟨n0, nts⟩ ⟨⟨by omega, by omega⟩, ots⟩ ⟨ls, lts⟩
      rw [wT_eq] at s3
      refine ⟨s, s2, by rw [wC_eq]; have : wTs (S53.mk 3 t.f1 0 t.f3).f3 = wTs t.f3 := rfl; omega, fun names a3 a4 _ _ => ?_⟩
      rw [low (by omega)]
      refine show_last t names [] a3 a4 s (.inl q) ?_
      rw [decide_eq_false (by omega)]
      refine Ev.step ?_
      simp only [show_shower_show.j0]
      refine Ev.neg (by simp) (Ev.pos (by omega) (Ev.pos (by omega) (Ev.neg ?_ (Ev.bind (apply_of _ _ _ _ s1) (Ev.const _)))))
      rw [q]; decide
    · have hl := r4 q
      have g0 : 0 < t.f3.length := by omega
      have g1 : 1 < t.f3.length := by omega
      obtain ⟨sa, a1, a2, a3'⟩ := term 0 g0
      obtain ⟨sb, b1, b2, b3'⟩ := term 1 g1
      have hsum : wT t.f3[0] + wT t.f3[1] ≤ wTs t.f3 := by
        have e0 := wTs_drop g0
        have e1 := wTs_drop g1
        rw [List.drop_zero] at e0
        simp only [Nat.zero_add] at e0
        omega
      have z : (⟨#[32, 61, 32]⟩ : ByteArray).size = 3 := rfl
      refine ⟨(sa ++ (⟨#[32, 61, 32]⟩ : ByteArray)) ++ sb, (a2.append (Bal.plain (by decide))).append b2, by rw [wC_eq]; simp only [ByteArray.size_append]; omega, fun names a3 a4 _ _ => ?_⟩
      rw [low (by omega)]
      refine Ev.step ?_
      simp only [show_shower_show.f]
      exact Ev.neg (by omega) (Ev.neg (by omega) (Ev.pos q (Ev.bind (Ev.of_eq (term_at _ _ _ _ _ g0)) (Ev.bind a1 (Ev.pos (by omega) (Ev.bind (Ev.of_eq (term_at _ _ _ _ _ g1)) (Ev.bind b1 (Ev.pos (by simp only [ByteArray.size_append]; omega) (Ev.const _)))))))))
    · have hl := r5 q
      have g0 : 0 < t.f3.length := by omega
      have g1 : 1 < t.f3.length := by omega
      obtain ⟨sa, a1, a2, a3'⟩ := term 0 g0
      obtain ⟨sb, b1, b2, b3'⟩ := term 1 g1
      have hsum : wT t.f3[0] + wT t.f3[1] ≤ wTs t.f3 := by
        have e0 := wTs_drop g0
        have e1 := wTs_drop g1
        rw [List.drop_zero] at e0
        simp only [Nat.zero_add] at e0
        omega
      have z : (⟨#[32, 60, 61, 32]⟩ : ByteArray).size = 4 := rfl
      refine ⟨(sa ++ (⟨#[32, 60, 61, 32]⟩ : ByteArray)) ++ sb, (a2.append (Bal.plain (by decide))).append b2, by rw [wC_eq]; simp only [ByteArray.size_append]; omega, fun names a3 a4 _ _ => ?_⟩
      rw [low (by omega)]
      refine Ev.step ?_
      simp only [show_shower_show.f]
      exact Ev.neg (by omega) (Ev.neg (by omega) (Ev.neg (by omega) (Ev.pos q (Ev.bind (Ev.of_eq (term_at _ _ _ _ _ g0)) (Ev.bind a1 (Ev.pos (by omega) (Ev.bind (Ev.of_eq (term_at _ _ _ _ _ g1)) (Ev.bind b1 (Ev.pos (by simp only [ByteArray.size_append]; omega) (Ev.const _))))))))))
    · have g0 : 0 < t.f4.length := by have := r6 q; omega
      have hw := wC_mem g0
      obtain ⟨x, x1, x2, x3⟩ := each 0 g0
      have z : (⟨#[126]⟩ : ByteArray).size = 1 := rfl
      have hz := sideC_size t.f4[0] x 5
      refine ⟨(⟨#[126]⟩ : ByteArray) ++ sideC t.f4[0] x 5, Bal.append (Bal.plain (by decide)) (sideC_bal x1), by rw [wC_eq]; simp only [ByteArray.size_append]; omega, fun names a3 a4 _ _ => ?_⟩
      rw [low (by omega)]
      refine Ev.step ?_
      simp only [show_shower_show.f]
      exact Ev.neg (by omega) (Ev.neg (by omega) (Ev.neg (by omega) (Ev.neg (by omega) (Ev.pos q (Ev.bind (Ev.of_eq (sub_at _ _ _ _ _ g0)) (Ev.bind (x3 names 5 a4 (by omega) (by omega)) (Ev.pos (by omega) (Ev.const _))))))))
    · have hl := r7 q.1 q.2
      have g0 : 0 < t.f4.length := by omega
      have g1 : 1 < t.f4.length := by omega
      obtain ⟨e1, v1, v4, vh, vs, vz⟩ := loose_tight t.f0 q.1 q.2
      have hd : decide (t.f0 = 11 ∨ t.f0 = 12) = false := decide_eq_false (by omega)
      have hsum : wC t.f4[0] + wC t.f4[1] ≤ wCs t.f4 := by
        have e0 := wCs_drop g0
        have e1 := wCs_drop g1
        rw [List.drop_zero] at e0
        simp only [Nat.zero_add] at e0
        omega
      obtain ⟨x, x1, x2, x3⟩ := each 0 g0
      obtain ⟨y, y1, y2, y3⟩ := each 1 g1
      have zx := sideC_size t.f4[0] x (tightV t.f0 + 1)
      have zy := sideC_size t.f4[1] y (tightV t.f0)
      refine ⟨(sideC t.f4[0] x (tightV t.f0 + 1) ++ signsV t.f0) ++ sideC t.f4[1] y (tightV t.f0), ((sideC_bal x1).append (signs_bal _ q.1 q.2)).append (sideC_bal y1), by rw [wC_eq]; simp only [ByteArray.size_append]; omega, fun names a3 a4 h1 h5 => ?_⟩
      have core := fun b3 b4 hb => two_ev t q g0 g1 names _ _ b3 b4 hb (by omega) (x3 names (tightV t.f0 + 1) false (by omega) (by omega)) (y3 names (tightV t.f0) b4 v1 (by omega))
      by_cases qa : a3 ≤ tightV t.f0
      · have : ∀ x, sideC t x a3 = x := fun x => by unfold sideC; rw [if_neg (by omega)]
        rw [this]
        exact core a3 a4 qa
      · have : ∀ x, sideC t x a3 = par x := fun x => by unfold sideC; rw [if_pos ⟨q.1, by omega⟩]
        rw [this]
        refine show_last t names [] a3 a4 _ (.inr q.1) ?_
        rw [hd]
        refine Ev.step ?_
        simp only [show_shower_show.j0]
        have z1 : (⟨#[40]⟩ : ByteArray).size = 1 := rfl
        exact Ev.neg (by simp) (Ev.pos (by omega) (Ev.pos (by omega) (Ev.pos vh (Ev.pos (by omega) (Ev.bind (core 1 true v1) (Ev.pos (by simp only [ByteArray.size_append]; omega) (Ev.pos (by simp only [ByteArray.size_append]; omega) (Ev.const _))))))))
/-- The text of a claim, put together of two. -/
theorem claims_two (a b : S30) (op : Int) (h7 : 7 ≤ op) (h10 : op ≤ 10) (ha : wC a ≤ 150) (hb : wC b ≤ 150) (ra : RC a) (rb : RC b) (na : NC a) (nb : NC b) (oa : OC a) (ob : OC b) (la : LC a) (lb : LC b) :
    ∃ x y p q, Bal p ∧ Bal q ∧ (p = x ∨ p = par x) ∧ (q = y ∨ q = par y) ∧ x.size ≤ 50000 ∧ y.size ≤ 50000 ∧ Ev (fun k => show_Claim.f k a.f0 a.f1 a.f2 a.f3 a.f4) x ∧ Ev (fun k => show_Claim.f k b.f0 b.f1 b.f2 b.f3 b.f4) y ∧
      Ev (fun k => show_Claim.f k op (⟨#[]⟩ : ByteArray) (⟨#[]⟩ : ByteArray) ([] : List S53) [a, b]) ((p ++ signsV op) ++ q) := by
  obtain ⟨x, x1, x2, x3⟩ := claim_bal _ a (Nat.le_refl _) (by omega) ra na oa la
  obtain ⟨y, y1, y2, y3⟩ := claim_bal _ b (Nat.le_refl _) (by omega) rb nb ob lb
  obtain ⟨e1, v1, v4, vh, vs, vz⟩ := loose_tight op h7 h10
  have one : ∀ (t : S30) (z : ByteArray), RC t → LC t → sideC t z 1 = z := by
    intro t z hr hl
    obtain ⟨r0, r1, _⟩ := RC_to hr
    obtain ⟨l11, l12, _⟩ := LC_to hl
    unfold sideC
    rw [if_neg]
    rintro ⟨h1, h2⟩
    have := (loose_tight t.f0 h1 (by omega)).2.1
    omega
  have zx := sideC_size a x (tightV op + 1)
  have zy := sideC_size b y (tightV op)
  refine ⟨x, y, sideC a x (tightV op + 1), sideC b y (tightV op), sideC_bal x1, sideC_bal y1, sideC_or _ _ _, sideC_or _ _ _, by omega, by omega, ?_, ?_, ?_⟩
  · have := shower_claim_ev 1000 a (by omega) (by omega) [] (by simp; have := nmC_len a; omega)
    rw [List.nil_append] at this
    have h2 := x3 (nmC a) 1 true (by omega) (by omega)
    rw [one a x ra la] at h2
    exact Ev.bind this h2
  · have := shower_claim_ev 1000 b (by omega) (by omega) [] (by simp; have := nmC_len b; omega)
    rw [List.nil_append] at this
    have h2 := y3 (nmC b) 1 true (by omega) (by omega)
    rw [one b y rb lb] at h2
    exact Ev.bind this h2
  · have hw : wC ⟨op, ⟨#[]⟩, ⟨#[]⟩, [], [a, b]⟩ = 1 + (wC a + wC b) := by rw [wC_eq]; simp [wTs, wCs]
    have := shower_claim_ev 1000 ⟨op, ⟨#[]⟩, ⟨#[]⟩, [], [a, b]⟩ (by omega) (by omega) [] (by simp; have := nmC_len ⟨op, ⟨#[]⟩, ⟨#[]⟩, [], [a, b]⟩; omega)
    rw [List.nil_append] at this
    exact Ev.bind this (two_ev ⟨op, ⟨#[]⟩, ⟨#[]⟩, [], [a, b]⟩ ⟨h7, h10⟩ (by simp) (by simp) _ _ _ 1 true v1 (by omega) (x3 _ (tightV op + 1) false (by omega) (by omega)) (y3 _ (tightV op) true v1 (by omega)))
/-! ### Lettered: what the law asks -/
theorem small_tot (s : ByteArray) (hs : s.size ≤ 1000000) : Tot (fun k => sequiturlaw14_small.f k s) (fun v => v = true → Small s) := by
  have loop : ∀ (j i : Nat), i + j = s.size → (∀ m (hm : m < s.data.toList.length), m < i → 97 ≤ (s.data.toList[m]).toNat) → Tot (fun k => sequiturlaw14_small.l0 k s (s.size : Int) (i : Int)) (fun v => v = true → Small s) := by
    intro j
    induction j with
    | zero =>
      intro i hi hh
      refine Tot.step ?_
      simp only [sequiturlaw14_small.l0]
      refine Tot.ite (fun h => by omega) (fun _ => Tot.const (fun _ c hc => ?_))
      obtain ⟨m, hm, rfl⟩ := List.mem_iff_getElem.1 hc
      have h9 : s.data.toList.length = s.size := size_list s
      exact hh m hm (by omega)
    | succ j ih =>
      intro i hi hh
      have hlt : i < s.size := by omega
      refine Tot.step ?_
      simp only [sequiturlaw14_small.l0]
      rw [bt_nat s hlt, wrapN (x := (i : Int) + 1) (n := i + 1) (by omega) (by omega)]
      refine Tot.ite (fun _ => Tot.ite (fun _ => Tot.ite (fun _ => ?_) (fun h => by omega)) (fun h => by omega)) (fun h => by omega)
      refine Tot.ite (fun _ => Tot.const (fun h => by cases h)) (fun h97 => Tot.ite (fun _ => Tot.const (fun h => by cases h)) (fun _ => ih (i + 1) (by omega) (fun m hm hlt2 => ?_)))
      by_cases e : m = i
      · subst e
        omega
      · exact hh m hm (by omega)
  simp only [sequiturlaw14_small.f]
  exact loop s.size 0 (by omega) (fun m _ h => by omega)
theorem termLettered_tot : ∀ (N : Nat) (t : S53), wT t ≤ N → N ≤ 100000 → NT t → Tot (fun k => sequiturlaw14_termLettered.f k t.f0 t.f1 t.f2 t.f3) (fun v => v = true → LT t)
  | 0, t, h, _, _ => by
    have := wT_pos t
    omega
  | N + 1, t, h, hN, hn => by
    rw [wT_eq] at h
    obtain ⟨n1, n2⟩ := NT_to hn
    have hlen := wTs_len t.f3
    have loop : ∀ (j i : Nat), i + j = t.f3.length → Tot (fun k => sequiturlaw14_termLettered.l0 k t.f3 (t.f3.length : Int) (i : Int) t.f0 t.f1 t.f2 t.f3) (fun v => v = true → Small t.f1 ∧ LTs (t.f3.drop i)) := by
      intro j
      induction j with
      | zero =>
        intro i hi
        refine Tot.step ?_
        simp only [sequiturlaw14_termLettered.l0]
        refine Tot.ite (fun h => by omega) (fun _ => Tot.bind (small_tot t.f1 (by omega)) (fun a ha => Tot.const (fun h => ⟨ha h, ?_⟩)))
        rw [List.drop_eq_nil_of_le (by omega)]
        exact trivial
      | succ j ih =>
        intro i hi
        have hlt : i < t.f3.length := by omega
        have hw := wT_mem hlt
        refine Tot.step ?_
        simp only [sequiturlaw14_termLettered.l0]
        refine Tot.ite (fun _ => Tot.ite (fun _ => Tot.ite (fun _ => ?_) (fun h => by omega)) (fun h => by omega)) (fun h => by omega)
        rw [rdT hlt, wrapN (x := (i : Int) + 1) (n := i + 1) (by omega) (by omega)]
        refine Tot.bind (termLettered_tot N t.f3[i] (by omega) (by omega) (NTs_at hlt n2)) (fun a ha => ?_)
        exact Tot.ite (fun h0 => (ih (i + 1) (by omega)).mono (fun r hr h => ⟨(hr h).1, LTs_snoc hlt (hr h).2 (ha h0)⟩)) (fun h0 => Tot.const (fun h => by cases h))
    refine Tot.step ?_
    simp only [sequiturlaw14_termLettered.f]
    have := loop t.f3.length 0 (by omega)
    rw [List.drop_zero] at this
    exact this.mono (fun r hr h => LT_of (hr h))
theorem lettered_tot : ∀ (N : Nat) (t : S30), wC t ≤ N → N ≤ 100000 → NC t → Tot (fun k => sequiturlaw14_lettered.f k t.f0 t.f1 t.f2 t.f3 t.f4) (fun v => v = true → LC t)
  | 0, t, h, _, _ => by
    have := wC_pos t
    omega
  | N + 1, t, h, hN, hn => by
    rw [wC_eq] at h
    obtain ⟨n0, n1, nts, ncs⟩ := NC_to hn
    have hlen3 := wTs_len t.f3
    have hlen4 := wCs_len t.f4
    have loop1 : ∀ (j i : Nat), i + j = t.f4.length → Tot (fun k => sequiturlaw14_lettered.l1 k t.f4 (t.f4.length : Int) (i : Int)) (fun v => v = true → LCs (t.f4.drop i)) := by
      intro j
      induction j with
      | zero =>
        intro i hi
        refine Tot.step ?_
        simp only [sequiturlaw14_lettered.l1]
        refine Tot.ite (fun h => by omega) (fun _ => Tot.const (fun h => ?_))
        rw [List.drop_eq_nil_of_le (by omega)]
        exact trivial
      | succ j ih =>
        intro i hi
        have hlt : i < t.f4.length := by omega
        have hw := wC_mem hlt
        refine Tot.step ?_
        simp only [sequiturlaw14_lettered.l1]
        refine Tot.ite (fun _ => Tot.ite (fun _ => Tot.ite (fun _ => ?_) (fun h => by omega)) (fun h => by omega)) (fun h => by omega)
        rw [rdC hlt, wrapN (x := (i : Int) + 1) (n := i + 1) (by omega) (by omega)]
        refine Tot.bind (lettered_tot N t.f4[i] (by omega) (by omega) (NCs_at hlt ncs)) (fun a ha => ?_)
        exact Tot.ite (fun h0 => (ih (i + 1) (by omega)).mono (fun r hr h => LCs_snoc hlt (hr h) (ha h0))) (fun h0 => Tot.const (fun h => by cases h))
    have loop : ∀ (j i : Nat), i + j = t.f3.length → Tot (fun k => sequiturlaw14_lettered.l0 k t.f3 (t.f3.length : Int) (i : Int) t.f0 t.f1 t.f2 t.f3 t.f4) (fun v => v = true → LTs (t.f3.drop i) ∧ LCs t.f4) := by
      intro j
      induction j with
      | zero =>
        intro i hi
        refine Tot.step ?_
        simp only [sequiturlaw14_lettered.l0]
        refine Tot.ite (fun h => by omega) (fun _ => ?_)
        have := loop1 t.f4.length 0 (by omega)
        rw [List.drop_zero] at this
        refine this.mono (fun r hr h => ⟨?_, hr h⟩)
        rw [List.drop_eq_nil_of_le (by omega)]
        exact trivial
      | succ j ih =>
        intro i hi
        have hlt : i < t.f3.length := by omega
        have hw := wT_mem hlt
        refine Tot.step ?_
        simp only [sequiturlaw14_lettered.l0]
        refine Tot.ite (fun _ => Tot.ite (fun _ => Tot.ite (fun _ => ?_) (fun h => by omega)) (fun h => by omega)) (fun h => by omega)
        rw [rdT hlt, wrapN (x := (i : Int) + 1) (n := i + 1) (by omega) (by omega)]
        refine Tot.bind (termLettered_tot N t.f3[i] (by omega) (by omega) (NTs_at hlt nts)) (fun a ha => ?_)
        exact Tot.ite (fun h0 => (ih (i + 1) (by omega)).mono (fun r hr h => ⟨LTs_snoc hlt (hr h).1 (ha h0), (hr h).2⟩)) (fun h0 => Tot.const (fun h => by cases h))
    have j0 : ∀ b : Bool, (b = false → t.f0 ≠ 11 ∧ t.f0 ≠ 12 ∧ Small t.f1) → Tot (fun k => sequiturlaw14_lettered.j0 k b t.f0 t.f1 t.f2 t.f3 t.f4) (fun v => v = true → LC t) := by
      intro b hb
      refine Tot.step ?_
      simp only [sequiturlaw14_lettered.j0]
      refine Tot.ite (fun _ => Tot.const (fun h => by cases h)) (fun hb0 => ?_)
      obtain ⟨b1, b2, b3⟩ := hb (by simpa using hb0)
      have := loop t.f3.length 0 (by omega)
      rw [List.drop_zero] at this
      exact this.mono (fun r hr h => LC_of ⟨b1, b2, b3, (hr h).1, (hr h).2⟩)
    refine Tot.step ?_
    simp only [sequiturlaw14_lettered.f]
    refine Tot.ite (fun _ => j0 true (fun h => by cases h)) (fun h11 => Tot.ite (fun _ => j0 true (fun h => by cases h)) (fun h12 => Tot.bind (small_tot t.f1 (by omega)) (fun a ha => j0 _ (fun h => ⟨h11, h12, ha (by simpa using h)⟩))))
/-! ### The law -/
theorem sc_take (l : List UInt8) (i : Nat) (h : sc l 0 = some 0) : ∃ d, sc (l.take i) 0 = some d := by
  have h1 : sc (l.take i ++ l.drop i) 0 = some 0 := by rw [List.take_append_drop]; exact h
  rw [sc_append] at h1
  cases hd : sc (l.take i) 0 with
  | none => rw [hd] at h1; cases h1
  | some d => exact ⟨d, rfl⟩
theorem sc_le : ∀ (l : List UInt8) (d e : Nat), sc l d = some e → e ≤ d + l.length
  | [], d, e, h => by
    simp [sc] at h
    omega
  | c :: r, d, e, h => by
    simp only [sc] at h
    simp only [List.length_cons]
    split at h
    · have := sc_le r _ e h
      omega
    · split at h
      · split at h
        · cases h
        · have := sc_le r _ e h
          omega
      · have := sc_le r _ e h
        omega
theorem sz_par (p x : ByteArray) (h : p = x ∨ p = par x) : p.size = x.size ∨ p.size = x.size + 2 := by
  rcases h with rfl | rfl
  · exact .inl rfl
  · exact .inr (par_size x)
theorem ends_ok (x y g p q : ByteArray) (hg : g.size ≤ 5) (hx : x.size ≤ 50000) (hy : y.size ≤ 50000) (hp : p = x ∨ p = par x) (hq : q = y ∨ q = par y) (i : Int) (hi : i = (((p ++ g) ++ q).size : Int)) :
    Ev (fun k => sequiturlaw14_ShowBrackets.l0 k ((p ++ g) ++ q) x y g 0 (((p ++ g) ++ q).size : Int) i) true := by
  have alive : law14_alive.f = some true := rfl
  have z1 : (⟨#[40]⟩ : ByteArray).size = 1 := rfl
  have z2 : (⟨#[41]⟩ : ByteArray).size = 1 := rfl
  refine Ev.step ?_
  simp only [sequiturlaw14_ShowBrackets.l0]
  have e1 : ((((⟨#[40]⟩ : ByteArray) ++ x) ++ (⟨#[41]⟩ : ByteArray)) ++ g) ++ y = (par x ++ g) ++ y := rfl
  have e2 : (((x ++ g) ++ (⟨#[40]⟩ : ByteArray)) ++ y) ++ (⟨#[41]⟩ : ByteArray) = (x ++ g) ++ par y := by
    unfold par
    simp only [ByteArray.append_assoc]
  have e3 : ((((((⟨#[40]⟩ : ByteArray) ++ x) ++ (⟨#[41]⟩ : ByteArray)) ++ g) ++ (⟨#[40]⟩ : ByteArray)) ++ y) ++ (⟨#[41]⟩ : ByteArray) = (par x ++ g) ++ par y := by
    unfold par
    simp only [ByteArray.append_assoc]
  rw [e1, e2, e3]
  have fin : Ev (fun _ : Nat => (law14_alive.f).bind fun t => some t) true := Ev.bind (Ev.of_eq alive) (Ev.const _)
  refine Ev.neg (by omega) (Ev.pos trivial (Ev.pos (by omega) (Ev.pos (by simp only [ByteArray.size_append]; omega) ?_)))
  by_cases c1 : ((p ++ g) ++ q).toList = ((x ++ g) ++ y).toList
  · exact Ev.pos c1 fin
  refine Ev.neg c1 (Ev.pos (by omega) (Ev.pos (by simp only [ByteArray.size_append]; omega) (Ev.pos (by simp only [ByteArray.size_append]; omega) (Ev.pos (by simp only [ByteArray.size_append]; omega) ?_))))
  by_cases c2 : ((p ++ g) ++ q).toList = ((par x ++ g) ++ y).toList
  · exact Ev.pos c2 fin
  refine Ev.neg c2 (Ev.pos (by simp only [ByteArray.size_append]; omega) (Ev.pos (by simp only [ByteArray.size_append]; omega) (Ev.pos (by simp only [ByteArray.size_append]; omega) ?_)))
  by_cases c3 : ((p ++ g) ++ q).toList = ((x ++ g) ++ par y).toList
  · exact Ev.pos c3 fin
  refine Ev.neg c3 (Ev.pos (by simp only [ByteArray.size_append]; omega) (Ev.pos (by simp only [ByteArray.size_append]; omega) (Ev.pos (by simp only [ByteArray.size_append]; omega) (Ev.pos ?_ fin))))
  rcases hp with rfl | rfl <;> rcases hq with rfl | rfl
  · exact absurd rfl c1
  · exact absurd rfl c3
  · exact absurd rfl c2
  · rfl
theorem loop_ok (x y g p q : ByteArray) (hg : g.size ≤ 5) (hx : x.size ≤ 50000) (hy : y.size ≤ 50000) (hp : p = x ∨ p = par x) (hq : q = y ∨ q = par y) (hb : Bal ((p ++ g) ++ q)) :
    ∀ (j i d : Nat), i + j = ((p ++ g) ++ q).size → sc (((p ++ g) ++ q).data.toList.take i) 0 = some d → Ev (fun k => sequiturlaw14_ShowBrackets.l0 k ((p ++ g) ++ q) x y g (d : Int) (((p ++ g) ++ q).size : Int) (i : Int)) true := by
  obtain ⟨s, hs⟩ : ∃ s, s = (p ++ g) ++ q := ⟨_, rfl⟩
  have hz : s.size ≤ 200000 := by
    have h1 := sz_par p x hp
    have h2 := sz_par q y hq
    rw [hs]
    simp only [ByteArray.size_append]
    omega
  have hl : s.data.toList.length = s.size := size_list s
  have hfin := ends_ok x y g p q hg hx hy hp hq
  rw [← hs] at hb hfin ⊢
  intro j
  induction j with
  | zero =>
    intro i d hi hd
    rw [List.take_of_length_le (by omega), hb 0] at hd
    obtain rfl := Option.some.inj hd
    exact hfin (i : Int) (by omega)
  | succ j ih =>
    intro i d hi hd
    have hlt : i < s.size := by omega
    have hlt2 : i < s.data.toList.length := by omega
    have hdl := sc_le _ _ _ hd
    rw [List.length_take] at hdl
    obtain ⟨d2, hd2⟩ := sc_take s.data.toList (i + 1) (hb 0)
    have hstep : sc [s.data.toList[i]] d = some d2 := by
      rw [List.take_succ_eq_append_getElem hlt2, sc_append, hd] at hd2
      exact hd2
    have goal : ∀ e : Int, e = (d2 : Int) → Ev (fun k => sequiturlaw14_ShowBrackets.j2 k s x y g e (s.size : Int) (i : Int)) true := by
      rintro e rfl
      refine Ev.step ?_
      simp only [sequiturlaw14_ShowBrackets.j2]
      rw [wrapN (x := (i : Int) + 1) (n := i + 1) (by omega) (by omega)]
      exact Ev.neg (by omega) (ih (i + 1) d2 (by omega) hd2)
    obtain ⟨c, hc⟩ : ∃ c : UInt8, c = s.data.toList[i] := ⟨_, rfl⟩
    rw [← hc] at hstep
    refine Ev.step ?_
    simp only [sequiturlaw14_ShowBrackets.l0]
    rw [bt_nat s hlt, ← hc]
    refine Ev.pos (by omega) (Ev.pos (by omega) (Ev.pos (by omega) ?_))
    simp only [sc] at hstep
    have hd3 : d ≤ 200000 := by omega
    by_cases h40 : c = 40
    · rw [if_pos h40] at hstep
      have := Option.some.inj hstep
      refine Ev.pos (by rw [h40]; rfl) (goal _ ?_)
      rw [wrapN (x := (d : Int) + 1) (n := d + 1) (by omega) (by omega)]
      omega
    · rw [if_neg h40] at hstep
      refine Ev.neg (fun h => h40 ?_) ?_
      · apply UInt8.toNat_inj.1
        show c.toNat = 40
        omega
      by_cases h41 : c = 41
      · rw [if_pos h41] at hstep
        by_cases h0 : d = 0
        · rw [if_pos h0] at hstep
          cases hstep
        rw [if_neg h0] at hstep
        have := Option.some.inj hstep
        refine Ev.pos (by rw [h41]; rfl) (goal _ ?_)
        rw [wrapN (x := (d : Int) - 1) (n := d - 1) (by omega) (by omega)]
        omega
      · rw [if_neg h41] at hstep
        have := Option.some.inj hstep
        refine Ev.neg (fun h => h41 ?_) (goal _ (by omega))
        apply UInt8.toNat_inj.1
        show c.toNat = 41
        omega
theorem bracks_law (a b : S30) (op : Int) (oa : OC a) (ob : OC b) : Ev (fun k => sequiturlaw14_ShowBrackets.f k a.f0 a.f1 a.f2 a.f3 a.f4 b.f0 b.f1 b.f2 b.f3 b.f4 op) true := by
  have alive : law14_alive.f = some true := rfl
  have fin : Ev (fun _ : Nat => (law14_alive.f).bind fun t => some t) true := Ev.bind (Ev.of_eq alive) (Ev.const _)
  have yes : Ev (fun k => sequiturlaw14_ShowBrackets.j0 k op true a.f0 a.f1 a.f2 a.f3 a.f4 b.f0 b.f1 b.f2 b.f3 b.f4) true := by
    refine Ev.step ?_
    simp only [sequiturlaw14_ShowBrackets.j0]
    exact Ev.pos trivial fin
  unfold sequiturlaw14_ShowBrackets.f
  obtain ⟨va, va1, va2⟩ := plain_tot a 150 (by omega)
  refine Ev.bind va1 ?_
  cases va with
  | false => exact Ev.neg (by simp) yes
  | true =>
  obtain ⟨wa, ra, na⟩ := va2 rfl
  refine Ev.pos rfl ?_
  obtain ⟨vb, vb1, vb2⟩ := plain_tot b 150 (by omega)
  refine Ev.bind vb1 ?_
  cases vb with
  | false => exact Ev.neg (by simp) yes
  | true =>
  obtain ⟨wb, rb, nb⟩ := vb2 rfl
  refine Ev.pos rfl ?_
  obtain ⟨vc, vc1, vc2⟩ := lettered_tot _ a (Nat.le_refl _) (by omega) na
  refine Ev.bind vc1 ?_
  cases vc with
  | false => exact Ev.neg (by simp) yes
  | true =>
  have la := vc2 rfl
  refine Ev.pos rfl ?_
  obtain ⟨vd, vd1, vd2⟩ := lettered_tot _ b (Nat.le_refl _) (by omega) nb
  refine Ev.bind vd1 ?_
  cases vd with
  | false => exact Ev.neg (by simp) yes
  | true =>
  have lb := vd2 rfl
  refine Ev.pos rfl ?_
  by_cases h7 : op < 7
  · exact Ev.pos h7 yes
  refine Ev.neg h7 ?_
  by_cases h10 : op > 10
  · rw [decide_eq_true h10]
    exact yes
  rw [decide_eq_false h10]
  refine Ev.step ?_
  simp only [sequiturlaw14_ShowBrackets.j0]
  have ea : (⟨a.f0, a.f1, a.f2, a.f3, a.f4⟩ : S30) = a := by cases a; rfl
  have eb : (⟨b.f0, b.f1, b.f2, b.f3, b.f4⟩ : S30) = b := by cases b; rfl
  rw [ea, eb]
  refine Ev.neg (by simp) (Ev.bind (Ev.const _) ?_)
  have hw : wC ⟨op, ⟨#[]⟩, ⟨#[]⟩, [], [a, b]⟩ = 1 + (wC a + wC b) := by rw [wC_eq]; simp [wTs, wCs]
  obtain ⟨e, e1, _⟩ := right_tot ⟨op, ⟨#[]⟩, ⟨#[]⟩, [], [a, b]⟩ (by omega)
  have e1' : Ev (fun k => sequiturref08_Right.f k op (⟨#[]⟩ : ByteArray) (⟨#[]⟩ : ByteArray) ([] : List S53) [a, b]) e := e1
  refine Ev.bind e1' ?_
  by_cases h0 : e = 0
  · refine Ev.pos h0 ?_
    obtain ⟨x, y, p, q, bp, bq, hp, hq, sx, sy, evx, evy, evc⟩ := claims_two a b op (by omega) (by omega) wa wb ra rb na nb oa ob la lb
    obtain ⟨_, _, _, _, _, vz⟩ := loose_tight op (by omega) (by omega)
    refine Ev.bind evc (Ev.bind evx (Ev.bind evy (Ev.bind (Ev.const _) ?_)))
    have hi : op = 7 ∨ op = 8 ∨ op = 9 ∨ op = 10 := by omega
    have hsg : ∀ m : Nat, op = 7 + (m : Int) → m < 4 → rdOf ByteArray.empty [(⟨#[32, 38, 32]⟩ : ByteArray), (⟨#[32, 124, 32]⟩ : ByteArray), (⟨#[32, 45, 62, 32]⟩ : ByteArray), (⟨#[32, 60, 45, 62, 32]⟩ : ByteArray)] (wrap64 (op - 7)) = signsV op ∧ wrap64 (op - 7) = (m : Int) := by
      intro m hm h4
      have e5 : wrap64 (op - 7) = (m : Int) := wrapN (by omega) (by omega)
      refine ⟨?_, e5⟩
      rw [e5, rdOf_nat _ _ _ (by simp; omega)]
      have : m = 0 ∨ m = 1 ∨ m = 2 ∨ m = 3 := by omega
      rcases this with rfl | rfl | rfl | rfl <;> (obtain rfl : op = _ := hm; rfl)
    obtain ⟨m, hm, h4⟩ : ∃ m : Nat, op = 7 + (m : Int) ∧ m < 4 := ⟨(op - 7).toNat, by omega, by omega⟩
    obtain ⟨g1, g2⟩ := hsg m hm h4
    rw [g1]
    refine Ev.pos (by omega) (Ev.pos (by simp; omega) ?_)
    exact loop_ok x y (signsV op) p q vz sx sy hp hq ((bp.append (signs_bal op (by omega) (by omega))).append bq) ((p ++ signsV op) ++ q).size 0 0 (by omega) rfl
  · exact Ev.neg h0 fin
end Go.Proofs.YtmlkllbaehegjaaDoor.PAll
