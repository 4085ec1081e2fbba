import Derived.Lib.Builder
import Derived.Lib.AppendStr
import Derived.Lib.UnsafeStr
import Derived.Below
import Derived.WalkKit
import Derived.KernelRfl
import Derived.Laws.Externs
import Derived.Deep.RegionLaw
import Derived.Deep.RegionHeld3
import Derived.Test.YtmlkllbaehegjaaDoorShowSeqs13
import Derived.Test.YtmlkllbaehegjaaDoorShowSeqs14
import Derived.Test.YtmlkllbaehegjaaDoorShowSeqs12
import Derived.Test.YtmlkllbaehegjaaDoorProg
import Derived.Test.YtmlkllbaehegjaaDoorShowSeqs10
import Derived.Test.YtmlkllbaehegjaaDoorShowSeqs8
import Derived.Test.YtmlkllbaehegjaaDoorShowSeqs2
import Derived.Test.YtmlkllbaehegjaaDoorShowSeqs11
import Derived.Test.YtmlkllbaehegjaaDoorShowSeqs6
section
/- Plain laws: show's text of a claim is the document's. -/
namespace Go.Proofs.YtmlkllbaehegjaaDoor.PAll
open Go.RowKit
open Go.Proofs.YtmlkllbaehegjaaDoor
open Go.Proofs.YtmlkllbaehegjaaDoorW.PrintWords (rdOf)
mutual
/-- All numbers in a claim are int64. -/
def OC : S30 → Prop
  | ⟨_, _, _, l, c⟩ => OTs l ∧ OCs c
def OCs : List S30 → Prop
  | [] => True
  | t :: r => OC t ∧ OCs r
end
theorem OC_to {t : S30} (h : OC t) : OTs t.f3 ∧ OCs t.f4 := by cases t; exact h
theorem RCs_at : ∀ {l : List S30} {i : Nat} (hi : i < l.length), RCs l → RC l[i]
  | _ :: _, 0, _, h => h.1
  | _ :: r, i + 1, hi, h => RCs_at (l := r) (i := i) (by simpa using hi) h.2
theorem NCs_at : ∀ {l : List S30} {i : Nat} (hi : i < l.length), NCs l → NC l[i]
  | _ :: _, 0, _, h => h.1
  | _ :: r, i + 1, hi, h => NCs_at (l := r) (i := i) (by simpa using hi) h.2
theorem OCs_at : ∀ {l : List S30} {i : Nat} (hi : i < l.length), OCs l → OC l[i]
  | _ :: _, 0, _, h => h.1
  | _ :: r, i + 1, hi, h => OCs_at (l := r) (i := i) (by simpa using hi) h.2
theorem rdc0 {l : List S30} (h : 0 < l.length) : rd_T30 l 0 = l[0] := rdC (i := 0) h
theorem rdc1 {l : List S30} (h : 1 < l.length) : rd_T30 l 1 = l[1] := rdC (i := 1) h
theorem term_at (a0 : Int) (a1 a2 : ByteArray) (l : List S53) (c : List S30) {i : Nat} (hi : i < l.length) : show_termOf.f a0 a1 a2 l c (i : Int) = some (l[i].f0, l[i].f1, l[i].f2, l[i].f3) := by
  unfold show_termOf.f
  rw [if_pos (by omega), if_pos (by omega), rdT hi]
theorem sub_at (a0 : Int) (a1 a2 : ByteArray) (l : List S53) (c : List S30) {i : Nat} (hi : i < c.length) : show_sub.f a0 a1 a2 l c (i : Int) = some (c[i].f0, c[i].f1, c[i].f2, c[i].f3, c[i].f4) := by
  unfold show_sub.f
  rw [if_pos (by omega), if_pos (by omega), rdC hi]
def looseV (x : Int) : Int := if x = 10 then 1 else if x = 9 then 2 else if x = 8 then 3 else if x = 7 then 4 else 0
theorem loose_eq (x : Int) : sequiturref14_loose.f x = some (looseV x) := by
  unfold sequiturref14_loose.f looseV
  repeat' split
  all_goals rfl
theorem loose_tight (x : Int) (h : 7 ≤ x) (h2 : x ≤ 10) : looseV x = tightV x ∧ 1 ≤ tightV x ∧ tightV x ≤ 4 ∧ tightHas x = true ∧ sequiturref14_sign.f x = some (signsV x) ∧ (signsV x).size ≤ 5 := by
  have : x = 7 ∨ x = 8 ∨ x = 9 ∨ x = 10 := by omega
  rcases this with rfl | rfl | rfl | rfl <;> decide +kernel
/-- The text of an applied name. -/
theorem apply_of (name : ByteArray) (l : List S53) (names : List ByteArray) (s : ByteArray) (h : Ev (fun k => show_text.f k 3 name 0 l names) s) : Ev (fun k => show_apply.f k name l names) s := by
  obtain ⟨n, hn⟩ := h
  obtain ⟨b, hb⟩ := arg_any 3 name 0 l
  refine ⟨n, fun k hk => ?_⟩
  have := hn (k + 1) (by omega)
  simp only [show_text.f] at this
  rw [hb] at this
  simpa using this
/-- Which claims go on to the last stretch. -/
theorem show_last (t : S30) (names l2 : List ByteArray) (a3 : Int) (a4 : Bool) (s : ByteArray) (h : t.f0 = 3 ∨ 7 ≤ t.f0) (hs : Ev (fun k => show_shower_show.j0 k l2 a3 a4 (decide (t.f0 = 11 ∨ t.f0 = 12)) names t.f0 t.f1 t.f2 t.f3 t.f4) s) :
    Ev (fun k => show_shower_show.f k names t.f0 t.f1 t.f2 t.f3 t.f4 l2 a3 a4) s := by
  refine Ev.step ?_
  simp only [show_shower_show.f]
  refine Ev.neg (by omega) (Ev.neg (by omega) (Ev.neg (by omega) (Ev.neg (by omega) (Ev.neg (by omega) ?_))))
  by_cases h1 : t.f0 = 11
  · refine Ev.pos h1 ?_
    rw [show (t.f0 == 11) = decide (t.f0 = 11 ∨ t.f0 = 12) by simp [h1]]
    exact hs
  · refine Ev.neg h1 ?_
    rw [show (t.f0 == 12) = decide (t.f0 = 11 ∨ t.f0 = 12) by
      by_cases h3 : t.f0 = 12
      · simp [h3]
      · rw [beq_eq_false_iff_ne.mpr h3]
        exact (decide_eq_false (by omega)).symm]
    exact hs
theorem ref_last (t : S30) (names l2 : List ByteArray) (a3 : Int) (a4 : Bool) (s : ByteArray) (h : 7 ≤ t.f0) (hs : Ev (fun k => sequiturref14_claim.j0 k names l2 a3 a4 (decide (t.f0 = 11 ∨ t.f0 = 12)) t.f0 t.f1 t.f2 t.f3 t.f4) s) :
    Ev (fun k => sequiturref14_claim.f k t.f0 t.f1 t.f2 t.f3 t.f4 names l2 a3 a4) s := by
  refine Ev.step ?_
  simp only [sequiturref14_claim.f]
  refine Ev.neg (by omega) (Ev.neg (by omega) (Ev.neg (by omega) (Ev.neg (by omega) (Ev.neg (by omega) (Ev.neg (by omega) ?_)))))
  by_cases h1 : t.f0 = 11
  · refine Ev.pos h1 ?_
    rw [show (t.f0 == 11) = decide (t.f0 = 11 ∨ t.f0 = 12) by simp [h1]]
    exact hs
  · refine Ev.neg h1 ?_
    rw [show (t.f0 == 12) = decide (t.f0 = 11 ∨ t.f0 = 12) by
      by_cases h3 : t.f0 = 12
      · simp [h3]
      · rw [beq_eq_false_iff_ne.mpr h3]
        exact (decide_eq_false (by omega)).symm]
    exact hs
def Same (t : S30) (names l2 : List ByteArray) (a3 : Int) (a4 : Bool) (n : Nat) : Prop :=
  ∃ s, Ev (fun k => show_shower_show.f k names t.f0 t.f1 t.f2 t.f3 t.f4 l2 a3 a4) s ∧ Ev (fun k => sequiturref14_claim.f k t.f0 t.f1 t.f2 t.f3 t.f4 names l2 a3 a4) s ∧ s.size + n ≤ 300 * wC t
theorem claim_both : ∀ (N : Nat) (t : S30), wC t ≤ N → N ≤ 2000 → RC t → NC t → OC t → ∀ names l2 : List ByteArray, (∀ s ∈ l2, s.size ≤ 100) → names.length ≤ 2000 → l2.length + N ≤ 5000 → ∀ (a3 : Int) (a4 : Bool), 1 ≤ a3 → a3 ≤ 5 → Same t names l2 a3 a4 100
  | 0, t, h, _, _, _, _, _, _, _, _, _, _, _, _, _ => by
    have := wC_pos t
    omega
  | N + 1, t, h, hN, hr, hn, ho, names, l2, hl2, hlen, hlen2, a3, a4, ha3, ha5 => by
    rw [wC_eq] at h
    obtain ⟨r0, r1, r4, r5, r6, r11, r12, r7, rts, rcs⟩ := RC_to hr
    obtain ⟨n0, n1, nts, ncs⟩ := NC_to hn
    obtain ⟨ots, ocs⟩ := OC_to ho
    have each : ∀ i (hi : i < t.f4.length) (L : List ByteArray), (∀ s ∈ L, s.size ≤ 100) → L.length + N ≤ 5000 → ∀ (b3 : Int) (b4 : Bool), 1 ≤ b3 → b3 ≤ 5 → Same t.f4[i] names L b3 b4 100 := by
      intro i hi L hL hL2 b3 b4 h1 h2
      have hw := wC_mem hi
      exact claim_both N t.f4[i] (by omega) (by omega) (RCs_at hi rcs) (NCs_at hi ncs) (OCs_at hi ocs) names L hL hlen hL2 b3 b4 h1 h2
    have term : ∀ i (hi : i < t.f3.length), ∃ s, Ev (fun k => show_text.f k t.f3[i].f0 t.f3[i].f1 t.f3[i].f2 t.f3[i].f3 l2) s ∧ Ev (fun k => sequiturref14_term.f k t.f3[i].f0 t.f3[i].f1 t.f3[i].f2 t.f3[i].f3 l2) s ∧ s.size + 100 ≤ 300 * wT t.f3[i] := by
      intro i hi
      have hw := wT_mem hi
      exact text_both N t.f3[i] (by omega) (by omega) (RTs_at hi rts) (NTs_at hi nts) (OTs_at hi ots) l2 hl2 (by omega)
    have hop : t.f0 = 1 ∨ t.f0 = 2 ∨ t.f0 = 3 ∨ t.f0 = 4 ∨ t.f0 = 5 ∨ t.f0 = 6 ∨ (7 ≤ t.f0 ∧ t.f0 ≤ 10) ∨ (t.f0 = 11 ∨ t.f0 = 12) := by omega
    rcases hop with q | q | q | q | q | q | q | q
    · refine ⟨⟨#[116, 114, 117, 101]⟩, ?_, ?_, ?_⟩
      · refine Ev.step ?_
        simp only [show_shower_show.f]
        exact Ev.pos q (Ev.const _)
      · refine Ev.step ?_
        simp only [sequiturref14_claim.f]
        exact Ev.pos q (Ev.const _)
      · have : (⟨#[116, 114, 117, 101]⟩ : ByteArray).size = 4 := rfl
        rw [wC_eq]; omega
    · refine ⟨⟨#[102, 97, 108, 115, 101]⟩, ?_, ?_, ?_⟩
      · refine Ev.step ?_
        simp only [show_shower_show.f]
        exact Ev.neg (by omega) (Ev.pos q (Ev.const _))
      · refine Ev.step ?_
        simp only [sequiturref14_claim.f]
        exact Ev.neg (by omega) (Ev.pos q (Ev.const _))
      · have : (⟨#[102, 97, 108, 115, 101]⟩ : ByteArray).size = 5 := rfl
        rw [wC_eq]; omega
    · -- an applied name
      obtain ⟨s, s1, s2, s3⟩ := text_both (N + 1) ⟨3, t.f1, 0, t.f3⟩ (by rw [wT_eq]; show 1 + wTs t.f3 ≤ N + 1; omega) (by omega) ⟨by omega, by omega, by omega, by omega, by omega, by omega, by omega, rts⟩ ⟨n0, nts⟩ ⟨⟨by omega, by omega⟩, ots⟩ l2 hl2 (by omega)
      rw [wT_eq] at s3
      refine ⟨s, show_last t names l2 a3 a4 s (.inl q) ?_, ?_, by rw [wC_eq]; have : wTs (S53.mk 3 t.f1 0 t.f3).f3 = wTs t.f3 := rfl; omega⟩
      · rw [decide_eq_false (by omega)]
        refine Ev.step ?_
        simp only [show_shower_show.j0]
        refine Ev.neg (by simp) (Ev.pos (by omega) (Ev.pos (by omega) (Ev.neg ?_ (Ev.bind (apply_of _ _ _ _ s1) (Ev.const _)))))
        rw [q]; decide
      · refine Ev.step ?_
        simp only [sequiturref14_claim.f]
        exact Ev.neg (by omega) (Ev.neg (by omega) (Ev.pos q (Ev.bind s2 (Ev.const _))))
    · -- equal
      have hl := r4 q
      have g0 : 0 < t.f3.length := by omega
      have g1 : 1 < t.f3.length := by omega
      obtain ⟨sa, a1, a2, a3'⟩ := term 0 g0
      obtain ⟨sb, b1, b2, b3'⟩ := term 1 g1
      have hsum : wT t.f3[0] + wT t.f3[1] ≤ wTs t.f3 := by
        have e0 := wTs_drop g0
        have e1 := wTs_drop g1
        rw [List.drop_zero] at e0
        simp only [Nat.zero_add] at e0
        omega
      have z : (⟨#[32, 61, 32]⟩ : ByteArray).size = 3 := rfl
      refine ⟨(sa ++ (⟨#[32, 61, 32]⟩ : ByteArray)) ++ sb, ?_, ?_, by rw [wC_eq]; simp only [ByteArray.size_append]; omega⟩
      · refine Ev.step ?_
        simp only [show_shower_show.f]
        exact Ev.neg (by omega) (Ev.neg (by omega) (Ev.pos q (Ev.bind (Ev.of_eq (term_at _ _ _ _ _ g0)) (Ev.bind a1 (Ev.pos (by omega) (Ev.bind (Ev.of_eq (term_at _ _ _ _ _ g1)) (Ev.bind b1 (Ev.pos (by simp only [ByteArray.size_append]; omega) (Ev.const _)))))))))
      · refine Ev.step ?_
        simp only [sequiturref14_claim.f]
        rw [rd0 g0, rd1 g1]
        exact Ev.neg (by omega) (Ev.neg (by omega) (Ev.neg (by omega) (Ev.pos q (Ev.pos (by omega) (Ev.bind a2 (Ev.pos (by omega) (Ev.pos (by omega) (Ev.bind b2 (Ev.pos (by simp only [ByteArray.size_append]; omega) (Ev.const _))))))))))
    · -- at most
      have hl := r5 q
      have g0 : 0 < t.f3.length := by omega
      have g1 : 1 < t.f3.length := by omega
      obtain ⟨sa, a1, a2, a3'⟩ := term 0 g0
      obtain ⟨sb, b1, b2, b3'⟩ := term 1 g1
      have hsum : wT t.f3[0] + wT t.f3[1] ≤ wTs t.f3 := by
        have e0 := wTs_drop g0
        have e1 := wTs_drop g1
        rw [List.drop_zero] at e0
        simp only [Nat.zero_add] at e0
        omega
      have z : (⟨#[32, 60, 61, 32]⟩ : ByteArray).size = 4 := rfl
      refine ⟨(sa ++ (⟨#[32, 60, 61, 32]⟩ : ByteArray)) ++ sb, ?_, ?_, by rw [wC_eq]; simp only [ByteArray.size_append]; omega⟩
      · refine Ev.step ?_
        simp only [show_shower_show.f]
        exact Ev.neg (by omega) (Ev.neg (by omega) (Ev.neg (by omega) (Ev.pos q (Ev.bind (Ev.of_eq (term_at _ _ _ _ _ g0)) (Ev.bind a1 (Ev.pos (by omega) (Ev.bind (Ev.of_eq (term_at _ _ _ _ _ g1)) (Ev.bind b1 (Ev.pos (by simp only [ByteArray.size_append]; omega) (Ev.const _))))))))))
      · refine Ev.step ?_
        simp only [sequiturref14_claim.f]
        rw [rd0 g0, rd1 g1]
        exact Ev.neg (by omega) (Ev.neg (by omega) (Ev.neg (by omega) (Ev.neg (by omega) (Ev.pos q (Ev.pos (by omega) (Ev.bind a2 (Ev.pos (by omega) (Ev.pos (by omega) (Ev.bind b2 (Ev.pos (by simp only [ByteArray.size_append]; omega) (Ev.const _)))))))))))
    · -- not
      have g0 : 0 < t.f4.length := by have := r6 q; omega
      have hw := wC_mem g0
      obtain ⟨s, s1, s2, s3⟩ := each 0 g0 l2 hl2 (by omega) 5 a4 (by omega) (by omega)
      have z : (⟨#[126]⟩ : ByteArray).size = 1 := rfl
      refine ⟨(⟨#[126]⟩ : ByteArray) ++ s, ?_, ?_, by rw [wC_eq]; simp only [ByteArray.size_append]; omega⟩
      · refine Ev.step ?_
        simp only [show_shower_show.f]
        exact Ev.neg (by omega) (Ev.neg (by omega) (Ev.neg (by omega) (Ev.neg (by omega) (Ev.pos q (Ev.bind (Ev.of_eq (sub_at _ _ _ _ _ g0)) (Ev.bind s1 (Ev.pos (by omega) (Ev.const _))))))))
      · refine Ev.step ?_
        simp only [sequiturref14_claim.f]
        rw [rdc0 g0]
        exact Ev.neg (by omega) (Ev.neg (by omega) (Ev.neg (by omega) (Ev.neg (by omega) (Ev.neg (by omega) (Ev.pos q (Ev.pos (by omega) (Ev.bind s2 (Ev.pos (by omega) (Ev.const _)))))))))
    · -- two sides
      have hl := r7 q.1 q.2
      have g0 : 0 < t.f4.length := by omega
      have g1 : 1 < t.f4.length := by omega
      obtain ⟨e1, v1, v4, vh, vs, vz⟩ := loose_tight t.f0 q.1 q.2
      have hd : decide (t.f0 = 11 ∨ t.f0 = 12) = false := decide_eq_false (by omega)
      have hsum : wC t.f4[0] + wC t.f4[1] ≤ wCs t.f4 := by
        have e0 := wCs_drop g0
        have e1 := wCs_drop g1
        rw [List.drop_zero] at e0
        simp only [Nat.zero_add] at e0
        omega
      have hwr : wrap64 (tightV t.f0 + 1) = tightV t.f0 + 1 := IntWalk.wrap64_in _ (by omega)
      have core : ∀ (b3 : Int) (b4 : Bool), b3 ≤ tightV t.f0 → Same t names l2 b3 b4 200 := by
        intro b3 b4 hb
        obtain ⟨sa, x1, x2, x3⟩ := each 0 g0 l2 hl2 (by omega) (tightV t.f0 + 1) false (by omega) (by omega)
        obtain ⟨sb, y1, y2, y3⟩ := each 1 g1 l2 hl2 (by omega) (tightV t.f0) b4 (by omega) (by omega)
        refine ⟨(sa ++ signsV t.f0) ++ sb, show_last t names l2 b3 b4 _ (.inr q.1) ?_, ref_last t names l2 b3 b4 _ q.1 ?_, by rw [wC_eq]; simp only [ByteArray.size_append]; omega⟩
        · rw [hd]
          refine Ev.step ?_
          simp only [show_shower_show.j0]
          rw [hwr]
          exact Ev.neg (by simp) (Ev.pos (by omega) (Ev.pos (by omega) (Ev.pos vh (Ev.neg (by omega) (Ev.bind (Ev.of_eq (sub_at _ _ _ _ _ g0)) (Ev.bind x1 (Ev.pos (by omega) (Ev.bind (Ev.of_eq (sub_at _ _ _ _ _ g1)) (Ev.bind y1 (Ev.pos (by simp only [ByteArray.size_append]; omega) (Ev.const _)))))))))))
        · rw [hd]
          refine Ev.step ?_
          simp only [sequiturref14_claim.j0]
          rw [rdc0 g0, rdc1 g1]
          refine Ev.neg (by simp) (Ev.bind (Ev.of_eq ((loose_eq _).trans (by rw [e1]))) ?_)
          simp only [hwr]
          exact Ev.neg (by omega) (Ev.pos (by omega) (Ev.bind x2 (Ev.bind (Ev.of_eq vs) (Ev.pos (by omega) (Ev.pos (by omega) (Ev.bind y2 (Ev.pos (by simp only [ByteArray.size_append]; omega) (Ev.const _))))))))
      by_cases qa : a3 ≤ tightV t.f0
      · obtain ⟨s, x1, x2, x3⟩ := core a3 a4 qa
        exact ⟨s, x1, x2, by omega⟩
      · obtain ⟨s, x1, x2, x3⟩ := core 1 true v1
        rw [wC_eq] at x3
        refine ⟨par s, show_last t names l2 a3 a4 _ (.inr q.1) ?_, ref_last t names l2 a3 a4 _ q.1 ?_, by rw [wC_eq, par_size]; omega⟩
        · rw [hd]
          refine Ev.step ?_
          simp only [show_shower_show.j0]
          exact Ev.neg (by simp) (Ev.pos (by omega) (Ev.pos (by omega) (Ev.pos vh (Ev.pos (by omega) (Ev.bind x1 (Ev.pos (by omega) (Ev.pos (by simp only [ByteArray.size_append]; have : (⟨#[40]⟩ : ByteArray).size = 1 := rfl; omega) (Ev.const _))))))))
        · rw [hd]
          refine Ev.step ?_
          simp only [sequiturref14_claim.j0]
          refine Ev.neg (by simp) (Ev.bind (Ev.of_eq ((loose_eq _).trans (by rw [e1]))) ?_)
          exact Ev.pos (by omega) (Ev.bind x2 (Ev.bind (Ev.of_eq (brackets_eq s (by omega))) (Ev.const _)))
    · -- a binder
      have g0 : 0 < t.f4.length := by
        rcases q with q | q
        · have := r11 q; omega
        · have := r12 q; omega
      have hw := wC_mem g0
      have hd : decide (t.f0 = 11 ∨ t.f0 = 12) = true := decide_eq_true q
      obtain ⟨nm, c1, c2, c3⟩ := called_both names l2 t.f1 (by omega) (by omega)
      obtain ⟨s, x1, x2, x3⟩ := each 0 g0 (l2 ++ [nm]) (by
        intro x hx
        rw [List.mem_append, List.mem_singleton] at hx
        rcases hx with hx | hx
        · exact hl2 x hx
        · rw [hx]; omega) (by rw [List.length_append, List.length_singleton]; omega) 1 true (by omega) (by omega)
      have z2 : (⟨#[58, 32]⟩ : ByteArray).size = 2 := rfl
      have z3 : (⟨#[46, 32]⟩ : ByteArray).size = 2 := rfl
      obtain ⟨hd1, hhd⟩ : ∃ d : ByteArray, d = if t.f0 = 12 then (⟨#[63]⟩ : ByteArray) else (⟨#[33]⟩ : ByteArray) := ⟨_, rfl⟩
      have z1 : hd1.size = 1 := by rw [hhd]; split <;> rfl
      have sj1 : Ev (fun k => show_shower_show.j1 k l2 nm hd1 names t.f0 t.f1 t.f2 t.f3 t.f4) (((((hd1 ++ nm) ++ (⟨#[58, 32]⟩ : ByteArray)) ++ t.f2) ++ (⟨#[46, 32]⟩ : ByteArray)) ++ s) := by
        refine Ev.step ?_
        simp only [show_shower_show.j1]
        refine Ev.pos (by omega) (Ev.pos (by simp only [ByteArray.size_append]; omega) (Ev.pos (by simp only [ByteArray.size_append]; omega) (Ev.pos (by simp only [ByteArray.size_append]; omega) (Ev.bind (Ev.of_eq (sub_at _ _ _ _ _ g0)) (Ev.bind (Ev.const _) (Ev.pos (by simp; omega) (Ev.bind x1 (Ev.pos (by simp only [ByteArray.size_append]; omega) (Ev.const _)))))))))
      have rj1 : Ev (fun k => sequiturref14_claim.j1 k names l2 hd1 t.f0 t.f1 t.f2 t.f3 t.f4) (((((hd1 ++ nm) ++ (⟨#[58, 32]⟩ : ByteArray)) ++ t.f2) ++ (⟨#[46, 32]⟩ : ByteArray)) ++ s) := by
        refine Ev.step ?_
        simp only [sequiturref14_claim.j1, List.nil_append, List.length_nil]
        rw [rdc0 g0]
        refine Ev.pos (by omega) (Ev.bind (Ev.const _) (Ev.pos (by omega) (Ev.bind c2 (Ev.pos (by omega) (Ev.bind (Ev.const _) (Ev.pos (by omega) (Ev.pos (by omega) (Ev.pos (by simp only [ByteArray.size_append]; omega) (Ev.pos (by simp only [ByteArray.size_append]; omega) (Ev.pos (by simp only [ByteArray.size_append]; omega) (Ev.pos (by omega) (Ev.bind x2 (Ev.pos (by simp only [ByteArray.size_append]; omega) (Ev.const _))))))))))))))
      have core : ∀ b3 : Int, Same t names l2 b3 true 102 := by
        intro b3
        refine ⟨((((hd1 ++ nm) ++ (⟨#[58, 32]⟩ : ByteArray)) ++ t.f2) ++ (⟨#[46, 32]⟩ : ByteArray)) ++ s, show_last t names l2 b3 true _ (.inr (by omega)) ?_, ref_last t names l2 b3 true _ (by omega) ?_, by rw [wC_eq]; simp only [ByteArray.size_append]; omega⟩
        · rw [hd]
          refine Ev.step ?_
          simp only [show_shower_show.j0]
          refine Ev.pos trivial (Ev.pos trivial (Ev.bind c1 ?_))
          by_cases q12 : t.f0 = 12
          · rw [if_pos q12] at hhd
            rw [hhd] at sj1 ⊢
            exact Ev.pos q12 sj1
          · rw [if_neg q12] at hhd
            rw [hhd] at sj1 ⊢
            exact Ev.neg q12 sj1
        · rw [hd]
          refine Ev.step ?_
          simp only [sequiturref14_claim.j0]
          refine Ev.pos trivial (Ev.pos trivial ?_)
          by_cases q12 : t.f0 = 12
          · rw [if_pos q12] at hhd
            rw [hhd] at rj1 ⊢
            exact Ev.pos q12 rj1
          · rw [if_neg q12] at hhd
            rw [hhd] at rj1 ⊢
            exact Ev.neg q12 rj1
      cases a4 with
      | true =>
        obtain ⟨s', y1, y2, y3⟩ := core a3
        exact ⟨s', y1, y2, by omega⟩
      | false =>
        obtain ⟨s', y1, y2, y3⟩ := core 1
        rw [wC_eq] at y3
        refine ⟨par s', show_last t names l2 a3 false _ (.inr (by omega)) ?_, ref_last t names l2 a3 false _ (by omega) ?_, by rw [wC_eq, par_size]; omega⟩
        · rw [hd]
          refine Ev.step ?_
          simp only [show_shower_show.j0]
          exact Ev.pos trivial (Ev.neg (by simp) (Ev.bind y1 (Ev.pos (by omega) (Ev.pos (by simp only [ByteArray.size_append]; have : (⟨#[40]⟩ : ByteArray).size = 1 := rfl; omega) (Ev.const _)))))
        · rw [hd]
          refine Ev.step ?_
          simp only [sequiturref14_claim.j0]
          exact Ev.pos trivial (Ev.neg (by simp) (Ev.bind y2 (Ev.bind (Ev.of_eq (brackets_eq s' (by omega))) (Ev.const _))))
end Go.Proofs.YtmlkllbaehegjaaDoor.PAll
end
section
namespace Go.Proofs.YtmlkllbaehegjaaDoor
open Go Go.RowKit
theorem infoB : (Tryd.prog.info? 68).map (·.size) = some 2 := by kernel_rfl
theorem liesB : liesAt Tryd.prog Tryd.prog.depth 68 (2 / Tryd.prog.cellsOf 68) 0 68 1 = true := by kernel_rfl
theorem infoByte : (Tryd.prog.info? 5).map (fun i => (i.zero, i.size, i.bytes)) = some (some (.int .u8 0), 1, 1) := by kernel_rfl
theorem cells5 : Tryd.prog.cellsOf 5 = 1 := by kernel_rfl
set_option maxHeartbeats 1000000 in
set_option maxRecDepth 100000 in
theorem copyCheck_used (b : Nat) (w : World) (h0 : w.cell? ⟨b, 0, none⟩ = some (.pointer (some ⟨b, 0, none⟩))) :
    Calls Tryd.prog 53 #[.pointer (some ⟨b, 0, none⟩)] w fun e w' => e = .returned (.tuple #[]) ∧ w' = w := by
  obtain ⟨j, hj, _⟩ := Option.map_eq_some_iff.1 infoB
  go_enter Tryd.func53, Tryd.ntmps53
  go_wp2
  rw [Lib.run_neq_ptr_same w _ Tryd.underlying65 hj]
  go_wp2
  go_end0
  exact ⟨rfl, rfl⟩
set_option maxHeartbeats 1000000 in
set_option maxRecDepth 100000 in
theorem copyCheck_fresh (b : Nat) (w : World) (h0 : w.cell? ⟨b, 0, none⟩ = some (.pointer none)) (hsh : w.shape? b = some (68, 2)) (hfz : w.frozen? ⟨b, 0, none⟩ = false) :
    Calls Tryd.prog 53 #[.pointer (some ⟨b, 0, none⟩)] w fun e w' => e = .returned (.tuple #[]) ∧ w' = w.setCell ⟨b, 0, none⟩ (.pointer (some ⟨b, 0, none⟩)) := by
  obtain ⟨j, hj, hjs⟩ := Option.map_eq_some_iff.1 infoB
  go_enter Tryd.func53, Tryd.ntmps53
  go_wp2
  rw [Lib.run_to_unsafe w ⟨b, 0, none⟩ Tryd.underlying65 Tryd.underlying98 hj (by rw [hjs]; decide) hsh (Nat.zero_lt_succ 1)]
  simp only [Result.andThen]
  rw [Oper.upon_value]
  go_wp2
  rw [run_callFunc_extern Tryd.func67 (by kernel_rfl) (by kernel_rfl) (by kernel_rfl) (e := Extern.AbiNoEscape.same) (by kernel_rfl)]
  rw [Lib.run_noEscape]
  simp only [Result.andThen]
  rw [Oper.upon_value]
  go_wp2
  rw [Lib.run_from_unsafe w ⟨b, 0, none⟩ Tryd.underlying98 Tryd.underlying65 hj hsh liesB]
  simp only [Result.andThen]
  rw [Oper.upon_value]
  go_wp2
  go_end0
  exact ⟨rfl, rfl⟩
/-- No block turns but those of the builder's own two types. -/
def KeptB (w w' : World) : Prop := ∀ (i : Nat) (cs : Array Value) (t : TypeId), w.heap[i]? = some (.cells cs t (0, 0)) → t ≠ 68 → t ≠ 5 → w'.heap[i]? = some (.cells cs t (0, 0))
theorem KeptB.refl (w : World) : KeptB w w := fun _ _ _ h _ _ => h
theorem KeptB.trans {w w1 w2 : World} (h : KeptB w w1) (k : KeptB w1 w2) : KeptB w w2 := fun i cs t hi h1 h2 => k i cs t (h i cs t hi h1 h2) h1 h2
theorem KeptB.set {w : World} {b j : Nat} {cs : Array Value} (hb : w.heap[b]? = some (.cells cs 68 (0, 0))) (v : Value) : KeptB w (w.setCell ⟨b, j, none⟩ v) := by
  intro i cs' t hi h1 _
  rw [Below.heap_setCell w ⟨b, j, none⟩ v i (by
    rintro rfl
    rw [hb] at hi
    injection hi with hi
    injection hi with _ e _
    exact h1 e.symm)]
  exact hi
theorem KeptB.grown {w w' : World} {B n : Nat} {v : Value} {bs : List Value} (hown : w.ownsRow B 5 1 v n bs) (hg : w.grownBy w' v.ownBlock) : KeptB w w' := by
  intro i cs t hi _ h2
  have hlt : i < w.heap.size := (Array.getElem?_eq_some_iff.1 hi).1
  rw [hg.block i hlt (fun e => ?_)]
  · exact hi
  · rcases hown.2 with ⟨hv, _⟩ | ⟨g, cap, cur, hv, _, hh, _⟩
    · rw [hv] at e
      simp [Value.ownBlock] at e
    · rw [hv] at e
      have : i = g := by simpa [Value.ownBlock] using e
      subst this
      rw [hh] at hi
      injection hi with hi
      injection hi with _ e2 _
      exact h2 e2.symm
theorem copyCheck (B b : Nat) (bs : List Value) (w : World) (h : Lib.IsBuilder 68 5 B b bs w) :
    Calls Tryd.prog 53 #[.pointer (some ⟨b, 0, none⟩)] w fun e w' => e = .returned (.tuple #[]) ∧ (Lib.BuilderAt 68 5 B b (.pointer (some ⟨b, 0, none⟩)) bs w' ∧ Below B w w') ∧ KeptB w w' := by
  rcases h with h | h
  · refine (copyCheck_fresh b w h.cell0 h.shape h.frozen0).mono ?_
    rintro e w' ⟨rfl, rfl⟩
    obtain ⟨_, v, hb, _⟩ := id h
    exact ⟨rfl, ⟨h.used _, (Below.refl B w).setCell (p := ⟨b, 0, none⟩) h.1 _⟩, KeptB.set hb _⟩
  · refine (copyCheck_used b w h.cell0).mono ?_
    rintro e w' ⟨rfl, rfl⟩
    exact ⟨rfl, ⟨h, Below.refl B _⟩, KeptB.refl _⟩
set_option maxHeartbeats 2000000 in
set_option maxRecDepth 100000 in
/-- What the walk of WriteString leaves: the bytes behind those that were there; nothing below B turns, and no block that is neither the builder's nor its row's. -/
theorem writeString (B b : Nat) (bs : List Value) (s : ByteArray) (w : World) (h : Lib.IsBuilder 68 5 B b bs w) (hlen : bs.length + s.size ≤ 140737488355328) (hBw : B ≤ w.heap.size) :
    Calls Tryd.prog 34 #[.pointer (some ⟨b, 0, none⟩), .string s] w fun e w' => e = .returned (.tuple #[.int .i64 s.size, .nilIface]) ∧ Lib.IsBuilder 68 5 B b (bs ++ Lib.strCells s) w' ∧ Below B w w' ∧
      ∀ (i : Nat) (cs : Array Value) (t : TypeId), w.heap[i]? = some (.cells cs t (0, 0)) → t ≠ 68 → t ≠ 5 → w'.heap[i]? = some (.cells cs t (0, 0)) := by
  obtain ⟨i0, hi, hz0, hz1, hz2⟩ := info_parts infoByte
  go_enter Tryd.func34, Tryd.ntmps34
  go_wp2_with (fail)
  refine (copyCheck B b bs _ h).mono ?_
  rintro e w1 ⟨rfl, ⟨h1, hb1⟩, hk1⟩
  obtain ⟨hB, v, hbk, hown, hne⟩ := h1
  have c0 : w1.cell? ⟨b, 0, none⟩ = some (.pointer (some ⟨b, 0, none⟩)) := by rw [Lib.cell_of_heap hbk]; rfl
  have c1 : w1.cell? ⟨b, 1, none⟩ = some v := by rw [Lib.cell_of_heap hbk]; rfl
  go_wp2_with (at_builtin; refine Lib.wpList_append_own_string _ rfl _ _ 66 9 rfl B 5 i0 Tryd.underlying66 Tryd.underlying9 hi hz0 hz1 hz2 _ _ _ rfl hown s rfl ?c3 ?c4 ?c5 ?_)
  case c3 => unfold maxLen; omega
  case c4 => omega
  case c5 => have := hb1.size; omega
  intro v' w2 hown' hgrow _
  have hk2 := KeptB.grown hown hgrow
  have hlt : b < w1.heap.size := (Array.getElem?_eq_some_iff.1 hbk).1
  have hb2 : w2.heap[b]? = some (.cells #[.pointer (some ⟨b, 0, none⟩), v] 68 (0, 0)) := by
    rw [hgrow.block b hlt (fun e => hne e.symm)]
    exact hbk
  have d0 : w2.cell? ⟨b, 0, none⟩ = some (.pointer (some ⟨b, 0, none⟩)) := by rw [Lib.cell_of_heap hb2]; rfl
  have d1 : w2.cell? ⟨b, 1, none⟩ = some v := by rw [Lib.cell_of_heap hb2]; rfl
  have f1 : w2.frozen? ⟨b, 1, none⟩ = false := Lib.frozen_of_heap hb2 1
  obtain ⟨ao, n', cap, rfl⟩ : ∃ ao n' cap, v' = .slice ao n' cap := by
    rcases hown'.2 with ⟨hv, _⟩ | ⟨g, cap, cur, hv, _⟩
    · exact ⟨_, _, _, hv⟩
    · exact ⟨_, _, _, hv⟩
  go_wp2
  go_ret2
  refine ⟨rfl, .inr ?_, ?_, (hk1.trans hk2).trans (KeptB.set hb2 _)⟩
  · exact Lib.BuilderAt.put (T := 68) (e := 5) hB hb2 (bs' := bs ++ Lib.strCells s) (by simpa [Lib.strCells_length] using hown') (by decide)
  · exact (hb1.grown hgrow (by have := hb1.size; omega) (fun k hk => (hown.lt k hk).1)).setCell (p := ⟨b, 1, none⟩) hB _
set_option maxHeartbeats 2000000 in
set_option maxRecDepth 100000 in
/-- What String tells. -/
theorem builderString (B b : Nat) (l : List UInt8) (w : World) (h : Lib.IsBuilder 68 5 B b (Lib.byteCells l) w) (h0 : l ≠ []) :
    Calls Tryd.prog 35 #[.pointer (some ⟨b, 0, none⟩)] w fun e w' => e = .returned (.string ⟨l.toArray⟩) ∧ Below B w w' := by
  obtain ⟨p, hB, v, hbk, hown, hne⟩ : ∃ p, Lib.BuilderAt 68 5 B b p (Lib.byteCells l) w := by
    rcases h with h | h
    · exact ⟨_, h⟩
    · exact ⟨_, h⟩
  have hl0 : l.length ≠ 0 := by simpa using h0
  rw [Lib.byteCells_length] at hown
  obtain ⟨g, cap, cur, rfl, hbg, hg, hnc, hcm, hcs, htake⟩ : ∃ g cap cur, v = .slice (some ⟨g, 0, none⟩) l.length cap ∧ B ≤ g ∧ w.heap[g]? = some (.cells cur 5 (0, 0)) ∧ l.length ≤ cap ∧ cap ≤ maxLen ∧ cur.size = cap * 1 ∧ cur.toList.take (l.length * 1) = Lib.byteCells l := by
    rcases hown.2 with ⟨_, hz⟩ | ⟨g, cap, cur, hv, r⟩
    · exact absurd hz hl0
    · exact ⟨g, cap, cur, hv, r⟩
  have c1 : w.drew.cell? ⟨b, 1, none⟩ = some (.slice (some ⟨g, 0, none⟩) l.length cap) := by
    have : w.drew.heap[b]? = some (.cells #[p, .slice (some ⟨g, 0, none⟩) l.length cap] 68 (0, 0)) := hbk
    rw [Lib.cell_of_heap this]; rfl
  have hSD : (Builtin.unsafeSliceData_ #[66] 90 #[.slice (some ⟨g, 0, none⟩) l.length cap]).run Tryd.prog w.drew = .ok (.pointer (some ⟨g, 0, none⟩)) w.drew :=
    Lib.run_unsafeSliceData_row _ _ _ _ _ _ (by omega)
  have hUS : (Builtin.unsafeString_ #[90, 3] 9 #[.pointer (some ⟨g, 0, none⟩), .int .i64 l.length]).run Tryd.prog w.drew = .ok (.string ⟨l.toArray⟩) (w.drew.freeze ⟨g, 0, none⟩ l.length) := by
    refine Lib.run_unsafeString_row w.drew 90 3 9 5 Tryd.underlying90 cells5 g cur.size (by have hg' : w.drew.heap[g]? = some (.cells cur 5 (0, 0)) := hg; simp [World.shape?, hg']) l h0 (by omega) (by unfold maxLen at hcm; omega) ?_
    intro j x hx
    have := hown.cells (g := g) rfl j (.int .u8 x.toNat) (by simp [Lib.byteCells, hx])
    exact this
  go_enter Tryd.func35, Tryd.ntmps35
  go_wp2
  go_region_law (fail)
  all_goals (go_wp2; go_ret; exact ⟨rfl, Lib.below_freeze (Below.drew (Below.refl B w)) (p := ⟨g, 0, none⟩) hbg _⟩)
end Go.Proofs.YtmlkllbaehegjaaDoor
end
section
namespace Go.Proofs.YtmlkllbaehegjaaDoor.PAll
open Go.RowKit Go.Proofs.YtmlkllbaehegjaaDoorW.PrintWords Go.Proofs.YtmlkllbaehegjaaDoorW.PrintLast Go.Proofs.YtmlkllbaehegjaaDoorW.PrintMore
open Go.Proofs.YtmlkllbaehegjaaDoor
set_option linter.unusedVariables false
set_option linter.unusedSimpArgs false
def show_Claim.f (k : Nat) (a0_0 : Int) (a0_1 a0_2 : ByteArray) (l0_3 : List S53) (l0_4 : List S30) : Option ByteArray :=
  (shower_claim.f k [] a0_0 a0_1 a0_2 l0_3 l0_4).bind fun t => show_shower_show.f k t a0_0 a0_1 a0_2 l0_3 l0_4 [] 1 true
/-- What came in is read past what is made. -/
theorem V_came {α : Type} {d : Kd α} (hd : Kd.Heap d) {w0 W : World} {A : Option Addr} {c e base g : Nat} {xs : List α} (h : d.C w0 A xs.length xs) (hc : xs.length ≤ c) (hb : Below w0.heap.size w0 W) (hg : w0.heap.size ≤ g) :
    Kd.V d e W base (fun k => k < w0.heap.size ∧ k ≠ g) (.slice A xs.length c) xs :=
  Kd.V_mk hc (fun W' hW => hd.C (fun k hlt => (hW k ⟨hlt, by omega⟩ (Nat.lt_of_lt_of_le hlt hb.size)).trans (hb.block k hlt)) h)
set_option maxHeartbeats 2000000 in
set_option maxRecDepth 100000 in
theorem show_Claim.calls (k : Nat) (a0_0 : Int) (a0_1 a0_2 : ByteArray) (A0_3 : Option Addr) (c0_3 : Nat) (l0_3 : List S53) (A0_4 : Option Addr) (c0_4 : Nat) (l0_4 : List S30) (r : ByteArray) (w : World) (hG : Laid w) (hr0_3 : Kd.C k53 w A0_3 l0_3.length l0_3) (hc0_3 : l0_3.length ≤ c0_3) (hr0_4 : Kd.C k30 w A0_4 l0_4.length l0_4) (hc0_4 : l0_4.length ≤ c0_4) (h : show_Claim.f k a0_0 a0_1 a0_2 l0_3 l0_4 = some r) :
    Calls Tryd.prog 14 #[.agg #[.int .i64 a0_0, .string a0_1, .string a0_2, .slice A0_3 l0_3.length c0_3, .slice A0_4 l0_4.length c0_4]] w fun e w' => e = .returned (.string r) ∧ Below w.heap.size w w' := by
  unfold show_Claim.f at h
  obtain ⟨t, h1, h2⟩ := Option.bind_eq_some_iff.mp h
  clear h
  have hu30 := Tryd.underlying30
  have hu62 := Tryd.underlying62
  have HG := Aside0.mk hG
  have HR0_3 := Aside0.mk hr0_3
  have HC0_3 := Aside0.mk hc0_3
  have HR0_4 := Aside0.mk hr0_4
  have HC0_4 := Aside0.mk hc0_4
  have H1 := Aside0.mk h1
  have H2 := Aside0.mk h2
  clear hG hr0_3 hc0_3 hr0_4 hc0_4 h1 h2
  go_enter Tryd.func14, Tryd.ntmps14
  go_upto_region 1 with (first | ((with_reducible refine gate_dst (N := 1) rfl ?_); refine box_event ?hg (N := 1) ?hd (cs := #[.int .i64 a0_0, .string a0_1, .string a0_2, .slice A0_3 l0_3.length c0_3, .slice A0_4 l0_4.length c0_4]) (t := 30) ?hr ?_; (case hd => rfl); (case hg => rfl); (case hr => first | (go_simp; done) | (go_simp; rfl)); intro gb hg w3 hbox hb; have HB := Aside0.mk hb; have BK := Aside0.mk hbox; clear hb hbox hg))
  (try simp only [Act.put, List.setIfInBounds_toArray, List.set_cons_zero, List.set_cons_succ])
  go_upto_region 2 with (first | ((with_reducible refine gate_dst (N := 5) rfl ?_); refine box_event ?hg (N := 5) ?hd (cs := #[.slice none 0 0]) (t := 62) ?hr ?_; (case hd => rfl); (case hg => rfl); (case hr => first | (go_simp; done) | (go_simp; rfl)); intro g hg w4 hbox hb; have BK2 := Aside0.mk (blk_below BK.out hb); have HGG : Aside0 (w.heap.size ≤ g) := ⟨by rw [hg]; exact HB.out.size⟩; have HI : Aside0 (OwnS62 w w4 g []) := ⟨⟨none, 0, hbox, HGG.out, Kd.R_nil _ _ _ _ _⟩⟩; have HB2 := Aside0.mk (below_step HB.out hb); clear hb hbox hg HB BK))
  (try simp only [Act.put, List.setIfInBounds_toArray, List.set_cons_zero, List.set_cons_succ])
  have hz0 : w4.cell? ⟨gb, 0, none⟩ = some (.int .i64 a0_0) := (blk_cell BK2.out 0).trans rfl
  have hz1 : w4.cell? ⟨gb, 1, none⟩ = some (.string a0_1) := (blk_cell BK2.out 1).trans rfl
  have hz2 : w4.cell? ⟨gb, 2, none⟩ = some (.string a0_2) := (blk_cell BK2.out 2).trans rfl
  have hz3 : w4.cell? ⟨gb, 3, none⟩ = some (.slice A0_3 l0_3.length c0_3) := (blk_cell BK2.out 3).trans rfl
  have hz4 : w4.cell? ⟨gb, 4, none⟩ = some (.slice A0_4 l0_4.length c0_4) := (blk_cell BK2.out 4).trans rfl
  go_wp2_with (fail)
  refine (shower_claim.calls k g [] a0_0 a0_1 a0_2 _ _ l0_3 _ _ l0_4 t w _ HI.out HB2.out HR0_3.out HC0_3.out HR0_4.out HC0_4.out H1.out).mono ?_
  rintro e w5 ⟨rfl, hI5, hB5, hK5⟩
  have BK5 := Aside0.mk (hK5 gb _ _ BK2.out (by decide) (by decide))
  have HI5 : Aside0 (IsS62 w5 w5 g t) := ⟨by
    obtain ⟨A0, c0, hb, _, hr⟩ := hI5
    exact ⟨A0, c0, hb, trivial, (Kd.R_reads' hr).2.2⟩⟩
  have HB5 := Aside0.mk hB5
  clear hI5 hB5 hK5 HI BK2 HB2 hz0 hz1 hz2 hz3 hz4
  have hz0 : w5.cell? ⟨gb, 0, none⟩ = some (.int .i64 a0_0) := (blk_cell BK5.out 0).trans rfl
  have hz1 : w5.cell? ⟨gb, 1, none⟩ = some (.string a0_1) := (blk_cell BK5.out 1).trans rfl
  have hz2 : w5.cell? ⟨gb, 2, none⟩ = some (.string a0_2) := (blk_cell BK5.out 2).trans rfl
  have hz3 : w5.cell? ⟨gb, 3, none⟩ = some (.slice A0_3 l0_3.length c0_3) := (blk_cell BK5.out 3).trans rfl
  have hz4 : w5.cell? ⟨gb, 4, none⟩ = some (.slice A0_4 l0_4.length c0_4) := (blk_cell BK5.out 4).trans rfl
  go_wp2_with (fail)
  refine (show_shower_show.calls k g t a0_0 a0_1 a0_2 (fun k => k < w.heap.size) _ _ l0_3 (fun k => k < w.heap.size) _ _ l0_4 none 0 [] 1 true r w5 _ (HG.out.below HB5.out) HI5.out (Below.refl _ _) (V_came k53_heap HR0_3.out HC0_3.out HB5.out HGG.out) (V_came k30_heap HR0_4.out HC0_4.out HB5.out HGG.out) (Kd.C_nil _ _) (Nat.le_refl _) (fun _ h _ => by cases h) H2.out).mono ?_
  rintro e w6 ⟨rfl, _, hb6, _⟩
  have HB6 := Aside0.mk (below_step HB5.out hb6)
  clear hb6
  go_wp2_with (fail)
  go_ret
  exact ⟨rfl, HB6.out⟩
def show_Seq.l0 : Nat → ByteArray → List S42 → Int → Option ByteArray
  | 0, _, _, _ => none
  | k + 1, s, l, i => if i < (l.length : Int) then (if 0 ≤ i then ((show_Var.f ((rd_T42 l i).f0) ((rd_T42 l i).f1)).bind fun t => if t.size + 1 ≤ 9223372036854775807 then (if s.size + (t.size + 1) ≤ 140737488355328 then show_Seq.l0 k (s ++ (t ++ (⟨#[10]⟩ : ByteArray))) l (wrap64 (i + 1)) else none) else none) else none) else some s
def show_Seq.l1 : Nat → ByteArray → List S45 → Int → Option ByteArray
  | 0, _, _, _ => none
  | k + 1, s, l, i => if i < (l.length : Int) then (if 0 ≤ i then ((show_Claim.f k ((rd_T45 l i).f1.f0) ((rd_T45 l i).f1.f1) ((rd_T45 l i).f1.f2) ((rd_T45 l i).f1.f3) ((rd_T45 l i).f1.f4)).bind fun t => if ((rd_T45 l i).f0).size + 2 + t.size + 1 ≤ 9223372036854775807 then (if s.size + (((rd_T45 l i).f0).size + 2 + t.size + 1) ≤ 140737488355328 then show_Seq.l1 k (s ++ ((((rd_T45 l i).f0 ++ (⟨#[58, 32]⟩ : ByteArray)) ++ t) ++ (⟨#[10]⟩ : ByteArray))) l (wrap64 (i + 1)) else none) else none) else none) else some s
def show_Seq.f (k : Nat) (l0 : List S42) (l1 : List S45) (a2 : Int) (a3 a4 : ByteArray) (l5 : List S53) (l6 : List S30) : Option ByteArray :=
  (show_Seq.l0 k ⟨#[]⟩ l0 0).bind fun s => (show_Seq.l1 k s l1 0).bind fun s2 => (show_Claim.f k a2 a3 a4 l5 l6).bind fun t => if 3 + t.size + 1 ≤ 9223372036854775807 then (if s2.size + (3 + t.size + 1) ≤ 140737488355328 then some (s2 ++ (((⟨#[124, 45, 32]⟩ : ByteArray) ++ t) ++ (⟨#[10]⟩ : ByteArray))) else none) else none
/-- The builder at g holds s. -/
def Holds (w0 W : World) (g : Nat) (s : ByteArray) : Prop := Lib.IsBuilder 68 5 w0.heap.size g (Lib.byteCells s.data.toList) W
theorem Holds.below {w0 W W1 : World} {g : Nat} {s : ByteArray} (h : Holds w0 W g s) (hb : Below W.heap.size W W1) : Holds w0 W1 g s := by
  have key : ∀ p, Lib.BuilderAt 68 5 w0.heap.size g p (Lib.byteCells s.data.toList) W → Lib.BuilderAt 68 5 w0.heap.size g p (Lib.byteCells s.data.toList) W1 := by
    rintro p ⟨hB, v, hbk, hown, hne⟩
    exact ⟨hB, v, blk_below hbk hb, own_move hown (fun k hk => hb.block k (hown.lt k hk).2), hne⟩
  rcases h with h | h
  · exact .inl (key _ h)
  · exact .inr (key _ h)
theorem writeS (w0 : World) (g : Nat) (s t : ByteArray) (w : World) (h : Holds w0 w g s) (hlen : s.size + t.size ≤ 140737488355328) (hB : Below w0.heap.size w0 w) :
    Calls Tryd.prog 34 #[.pointer (some ⟨g, 0, none⟩), .string t] w fun e w' => e = .returned (.tuple #[.int .i64 t.size, .nilIface]) ∧ Holds w0 w' g (s ++ t) ∧ Below w0.heap.size w0 w' ∧ KeptB w w' := by
  refine (writeString w0.heap.size g _ t w h (by rw [Lib.byteCells_length, Array.length_toList]; exact hlen) hB.size).mono ?_
  rintro e w' ⟨rfl, h1, h2, h3⟩
  refine ⟨rfl, ?_, hB.trans h2, h3⟩
  unfold Holds
  rw [ByteArray.data_append, Array.toList_append, Lib.byteCells_append]
  rw [Lib.strCells_eq] at h1
  exact h1
def show_Seq.T10 : Bool × List (List Nat × List Nat) := (true, [([], []), ([0], [0]), ([1], [1]), ([], []), ([3], [3]), ([4], [4]), ([2, 5], [2, 5]), ([6], [6]), ([7, 5], [7])])
def show_Seq.B10 : List Nat := [0, 1, 3, 0, 8, 24, 63, 127, 255]
set_option maxRecDepth 100000 in
theorem show_Seq.tab10 : rtab .any (opsOf Tryd.f17 10) = show_Seq.T10 := by kernel_rfl
theorem show_Seq.bits10 : waitsOk show_Seq.T10.2 show_Seq.B10 = true := by kernel_rfl
set_option maxHeartbeats 4000000 in
set_option maxRecDepth 100000 in
theorem show_Seq.calls (k : Nat) (A0_0 : Option Addr) (c0_0 : Nat) (l0_0 : List S42) (A0_1 : Option Addr) (c0_1 : Nat) (l0_1 : List S45) (a0_2 : Int) (a0_3 a0_4 : ByteArray) (A0_5 : Option Addr) (c0_5 : Nat) (l0_5 : List S53) (A0_6 : Option Addr) (c0_6 : Nat) (l0_6 : List S30) (r : ByteArray) (w : World) (hG : Laid w) (hr0_0 : Kd.C k42 w A0_0 l0_0.length l0_0) (hc0_0 : l0_0.length ≤ c0_0) (hr0_1 : Kd.C k45 w A0_1 l0_1.length l0_1) (hc0_1 : l0_1.length ≤ c0_1) (hr0_5 : Kd.C k53 w A0_5 l0_5.length l0_5) (hc0_5 : l0_5.length ≤ c0_5) (hr0_6 : Kd.C k30 w A0_6 l0_6.length l0_6) (hc0_6 : l0_6.length ≤ c0_6) (h : show_Seq.f k l0_0 l0_1 a0_2 a0_3 a0_4 l0_5 l0_6 = some r) :
    Calls Tryd.prog 17 #[.agg #[.slice A0_0 l0_0.length c0_0, .slice A0_1 l0_1.length c0_1, .int .i64 a0_2, .string a0_3, .string a0_4, .slice A0_5 l0_5.length c0_5, .slice A0_6 l0_6.length c0_6]] w fun e w' => e = .returned (.string r) ∧ Below w.heap.size w w' := by
  unfold show_Seq.f at h
  obtain ⟨s1, h1, h⟩ := Option.bind_eq_some_iff.mp h
  obtain ⟨s2, h2, h⟩ := Option.bind_eq_some_iff.mp h
  obtain ⟨tg, h3, h4⟩ := Option.bind_eq_some_iff.mp h
  clear h
  by_cases c1 : 3 + tg.size + 1 ≤ 9223372036854775807
  case neg => rw [if_neg c1] at h4; cases h4
  by_cases c2 : s2.size + (3 + tg.size + 1) ≤ 140737488355328
  case neg => rw [if_pos c1, if_neg c2] at h4; cases h4
  rw [if_pos c1, if_pos c2] at h4
  have hu40 := Tryd.underlying40
  have hu42 := Tryd.underlying42
  have hu45 := Tryd.underlying45
  have hu30 := Tryd.underlying30
  have hu68 := Tryd.underlying68
  have HG := Aside0.mk hG
  have HR0 := Aside0.mk hr0_0
  have HC0 := Aside0.mk hc0_0
  have HR1 := Aside0.mk hr0_1
  have HC1 := Aside0.mk hc0_1
  have HR5_ := Aside0.mk hr0_5
  have HC5_ := Aside0.mk hc0_5
  have HR6_ := Aside0.mk hr0_6
  have HC6_ := Aside0.mk hc0_6
  have H1 := Aside0.mk h1
  have H2 := Aside0.mk h2
  have H3 := Aside0.mk h3
  have H4 := Aside0.mk h4
  have C1 := Aside0.mk c1
  have C2 := Aside0.mk c2
  clear hG hr0_0 hc0_0 hr0_1 hc0_1 hr0_5 hc0_5 hr0_6 hc0_6 h1 h2 h3 h4 c1 c2
  go_enter Tryd.func17, Tryd.ntmps17
  go_upto_region 1 with (first | ((with_reducible refine gate_dst (N := 1) rfl ?_); refine box_event ?hg (N := 1) ?hd (cs := #[.slice A0_0 l0_0.length c0_0, .slice A0_1 l0_1.length c0_1, .int .i64 a0_2, .string a0_3, .string a0_4, .slice A0_5 l0_5.length c0_5, .slice A0_6 l0_6.length c0_6]) (t := 40) ?hr ?_; (case hd => rfl); (case hg => rfl); (case hr => first | (go_simp; done) | (go_simp; rfl)); intro gb hg w3 hbox hb; have HB := Aside0.mk hb; have BK := Aside0.mk hbox; clear hb hbox hg))
  (try simp only [Act.put, List.setIfInBounds_toArray, List.set_cons_zero, List.set_cons_succ])
  go_upto_region 2 with (fail)
  have HH : Aside0 (Holds w (w3.alloc (.cells #[.pointer none, .slice none 0 0] 68)) w3.heap.size ⟨#[]⟩) := ⟨.inl ⟨HB.out.size, .slice none 0 0, heap_alloc_new w3 _, World.ownsRow_nil _ _ _ 1, by simp [Value.ownBlock]⟩⟩
  have HB1 : Aside0 (Below w.heap.size w (w3.alloc (.cells #[.pointer none, .slice none 0 0] 68))) := ⟨below_alloc HB.out _⟩
  have BK1 : Aside0 ((w3.alloc (.cells #[.pointer none, .slice none 0 0] 68)).heap[gb]? = _) := ⟨blk_alloc BK.out _⟩
  clear HB BK
  generalize w3.heap.size = g at HH ⊢
  generalize w3.alloc (.cells #[.pointer none, .slice none 0 0] 68) = w1 at HH HB1 BK1 ⊢
  have hz0 : w1.cell? ⟨gb, 0, none⟩ = some (.slice A0_0 l0_0.length c0_0) := (blk_cell BK1.out 0).trans rfl
  go_wp2
  go_loopg [11] k (fun kr v11 w' => ∃ (s : ByteArray) (i : Int), v11 = .int .i64 i ∧ Aside0 (show_Seq.l0 kr s l0_0 i = some s1) ∧ Aside0 (Holds w w' g s) ∧ Aside0 (w'.heap[gb]? = some (.cells #[.slice A0_0 l0_0.length c0_0, .slice A0_1 l0_1.length c0_1, .int .i64 a0_2, .string a0_3, .string a0_4, .slice A0_5 l0_5.length c0_5, .slice A0_6 l0_6.length c0_6] 40 (0, 0))) ∧ Aside0 (Below w.heap.size w w'))
  case atStart => exact ⟨⟨#[]⟩, 0, rfl, H1, HH, BK1, HB1⟩
  case round =>
    clear H1 HH BK1 HB1 hz0
    obtain ⟨s, i, rfl, HA, HH, BK, HB⟩ := hrel
    cases gk with
    | zero => exact absurd HA.out (by simp [show_Seq.l0])
    | succ k3 =>
      have H := HA.out
      clear HA
      simp only [show_Seq.l0] at H
      by_cases c1 : i < (l0_0.length : Int)
      · rw [if_pos c1] at H
        have c1b : decide (i < (l0_0.length : Int)) = true := decide_eq_true c1
        by_cases c2 : 0 ≤ i
        · rw [if_pos c2] at H
          have c2b : decide (0 ≤ i) = true := decide_eq_true c2
          obtain ⟨t, A1, H⟩ := Option.bind_eq_some_iff.mp H
          by_cases c3 : t.size + 1 ≤ 9223372036854775807
          case neg => rw [if_neg c3] at H; cases H
          by_cases c4 : s.size + (t.size + 1) ≤ 140737488355328
          case neg => rw [if_pos c3, if_neg c4] at H; cases H
          rw [if_pos c3, if_pos c4] at H
          have A1 := Aside0.mk A1
          have H := Aside0.mk H
          have HL := Aside0.mk c4
          have c3a := eq_true c3
          have c3b : (9223372036854775807 < t.size + 1) = False := eq_false (Nat.not_lt.2 c3)
          clear c4
          obtain ⟨ad, e3, hx0, hx1⟩ := at_T42 HR0.out i c2 c1
          cases e3
          replace hx0 := (HB.out.cell (World.block_lt_of_cell? w _ hx0)).trans hx0
          replace hx1 := (HB.out.cell (World.block_lt_of_cell? w _ hx1)).trans hx1
          replace c1 := eq_true c1
          replace c2 := eq_true c2
          go_wp2_with (fail)
          refine (show_Var.calls _ _ t _ A1.out).mono ?_
          rintro e w5 ⟨rfl, hb5⟩
          have HB5 := Aside0.mk (below_step (below_alloc HB.out _) hb5)
          have HH5 := Aside0.mk ((HH.out.below (below_alloc (Below.refl _ _) _)).below hb5)
          have BK5 := Aside0.mk (blk_below (blk_alloc BK.out _) hb5)
          clear HB HH BK hb5 hx0 hx1
          go_wp2_with (fail)
          refine (writeS w g s _ _ HH5.out (by rw [ByteArray.size_append]; exact HL.out) HB5.out).mono ?_
          rintro e w6 ⟨rfl, hh6, hb6, hk6⟩
          have HB6 := Aside0.mk hb6
          have HH6 := Aside0.mk hh6
          have BK6 := Aside0.mk (hk6 _ _ _ BK5.out (by decide) (by decide))
          clear HB5 HH5 BK5 hb6 hh6 hk6
          go_wp2_with (fail)
          go_roundg k3
          case measure => omega
          case rel => exact ⟨_, wrap64 (i + 1), (by first | rfl | simp), H, HH6, BK6, HB6⟩
        · rw [if_neg c2] at H
          cases H
      · rw [if_neg c1] at H
        have c1b : decide (i < (l0_0.length : Int)) = false := decide_eq_false c1
        clear c1
        obtain rfl := Option.some.inj H
        clear H
        have hz1 : wr.cell? ⟨gb, 1, none⟩ = some (.slice A0_1 l0_1.length c0_1) := (blk_cell BK.out 1).trans rfl
        go_wp2
        go_loopg [23] k (fun kr v23 w' => ∃ (s : ByteArray) (i : Int), v23 = .int .i64 i ∧ Aside0 (show_Seq.l1 kr s l0_1 i = some s2) ∧ Aside0 (Holds w w' g s) ∧ Aside0 (w'.heap[gb]? = some (.cells #[.slice A0_0 l0_0.length c0_0, .slice A0_1 l0_1.length c0_1, .int .i64 a0_2, .string a0_3, .string a0_4, .slice A0_5 l0_5.length c0_5, .slice A0_6 l0_6.length c0_6] 40 (0, 0))) ∧ Aside0 (Below w.heap.size w w'))
        case atStart => exact ⟨s, 0, rfl, H2, HH, BK, HB⟩
        case round =>
          clear H2 HH BK HB hz1
          obtain ⟨s, i, rfl, HA, HH, BK, HB⟩ := hrel
          cases gk with
          | zero => exact absurd HA.out (by simp [show_Seq.l1])
          | succ k3 =>
            have H := HA.out
            clear HA
            simp only [show_Seq.l1] at H
            by_cases c1 : i < (l0_1.length : Int)
            · rw [if_pos c1] at H
              have c1b : decide (i < (l0_1.length : Int)) = true := decide_eq_true c1
              by_cases c2 : 0 ≤ i
              · rw [if_pos c2] at H
                have c2b : decide (0 ≤ i) = true := decide_eq_true c2
                obtain ⟨t, A1, H⟩ := Option.bind_eq_some_iff.mp H
                by_cases c3 : ((rd_T45 l0_1 i).f0).size + 2 + t.size + 1 ≤ 9223372036854775807
                case neg => rw [if_neg c3] at H; cases H
                by_cases c4 : s.size + (((rd_T45 l0_1 i).f0).size + 2 + t.size + 1) ≤ 140737488355328
                case neg => rw [if_pos c3, if_neg c4] at H; cases H
                rw [if_pos c3, if_pos c4] at H
                have A1 := Aside0.mk A1
                have H := Aside0.mk H
                have HL2 := Aside0.mk c4
                have c5 : ((rd_T45 l0_1 i).f0).size + 2 ≤ 9223372036854775807 := by omega
                have c6 : ((rd_T45 l0_1 i).f0).size + 2 + t.size ≤ 9223372036854775807 := by omega
                have c3a := eq_true c3
                have c3b : (9223372036854775807 < ((rd_T45 l0_1 i).f0).size + 2 + t.size + 1) = False := eq_false (Nat.not_lt.2 c3)
                have c5a := eq_true c5
                have c5b : (9223372036854775807 < ((rd_T45 l0_1 i).f0).size + 2) = False := eq_false (Nat.not_lt.2 c5)
                have c6a := eq_true c6
                have c6b : (9223372036854775807 < ((rd_T45 l0_1 i).f0).size + 2 + t.size) = False := eq_false (Nat.not_lt.2 c6)
                clear c4
                obtain ⟨ad, A4, c4, A5, c5', e3, hx0, hx1, hx2, hx3, hx4, hx5, hl4, hi4, hl5, hi5⟩ := at_T45 HR1.out i c2 c1
                cases e3
                replace hx0 := (HB.out.cell (World.block_lt_of_cell? w _ hx0)).trans hx0
                replace hx1 := (HB.out.cell (World.block_lt_of_cell? w _ hx1)).trans hx1
                replace hx2 := (HB.out.cell (World.block_lt_of_cell? w _ hx2)).trans hx2
                replace hx3 := (HB.out.cell (World.block_lt_of_cell? w _ hx3)).trans hx3
                replace hx4 := (HB.out.cell (World.block_lt_of_cell? w _ hx4)).trans hx4
                replace hx5 := (HB.out.cell (World.block_lt_of_cell? w _ hx5)).trans hx5
                have HR4 := Aside0.mk hi4
                have HC4 := Aside0.mk hl4
                have HR5 := Aside0.mk hi5
                have HC5 := Aside0.mk hl5
                clear hi4 hl4 hi5 hl5
                replace c1 := eq_true c1
                replace c2 := eq_true c2
                go_upto_region 10 with (fail)
                have HB4 : Aside0 (Below w.heap.size w (wr.alloc (.cells #[.string ((rd_T45 l0_1 i).f0), .int .i64 ((rd_T45 l0_1 i).f1.f0), .string ((rd_T45 l0_1 i).f1.f1), .string ((rd_T45 l0_1 i).f1.f2), .slice A4 ((rd_T45 l0_1 i).f1.f3).length c4, .slice A5 ((rd_T45 l0_1 i).f1.f4).length c5'] 45)).drew) := ⟨below_drew1 (below_alloc HB.out _)⟩
                have HH4 : Aside0 (Holds w (wr.alloc (.cells #[.string ((rd_T45 l0_1 i).f0), .int .i64 ((rd_T45 l0_1 i).f1.f0), .string ((rd_T45 l0_1 i).f1.f1), .string ((rd_T45 l0_1 i).f1.f2), .slice A4 ((rd_T45 l0_1 i).f1.f3).length c4, .slice A5 ((rd_T45 l0_1 i).f1.f4).length c5'] 45)).drew g s) := ⟨(HH.out.below (below_alloc (Below.refl _ _) _)).below (below_drew (Below.refl _ _))⟩
                have BK4 : Aside0 ((wr.alloc (.cells #[.string ((rd_T45 l0_1 i).f0), .int .i64 ((rd_T45 l0_1 i).f1.f0), .string ((rd_T45 l0_1 i).f1.f1), .string ((rd_T45 l0_1 i).f1.f2), .slice A4 ((rd_T45 l0_1 i).f1.f3).length c4, .slice A5 ((rd_T45 l0_1 i).f1.f4).length c5'] 45)).drew.heap[gb]? = _) := ⟨blk_alloc BK.out _⟩
                refine start_ (n := 9) (S := fun w' => w'.heap[wr.heap.size]? = some (.cells #[.string ((rd_T45 l0_1 i).f0), .int .i64 ((rd_T45 l0_1 i).f1.f0), .string ((rd_T45 l0_1 i).f1.f1), .string ((rd_T45 l0_1 i).f1.f2), .slice A4 ((rd_T45 l0_1 i).f1.f3).length c4, .slice A5 ((rd_T45 l0_1 i).f1.f4).length c5'] 45 (0, 0))) (ds := []) #[false, false, false, false, false, false, false, false, false] (by kernel_rfl) rfl rfl (heap_alloc_new wr _) (fun hHeld => ?_); refine with_tabW show_Seq.tab10 show_Seq.bits10 (fun HT_ HW_ => ?_)
                clear HB HH BK hx0 hx1 hx2 hx3 hx4 hx5
                generalize (wr.alloc (.cells #[.string ((rd_T45 l0_1 i).f0), .int .i64 ((rd_T45 l0_1 i).f1.f0), .string ((rd_T45 l0_1 i).f1.f1), .string ((rd_T45 l0_1 i).f1.f2), .slice A4 ((rd_T45 l0_1 i).f1.f3).length c4, .slice A5 ((rd_T45 l0_1 i).f1.f4).length c5'] 45)).drew = w4 at HB4 HH4 BK4 hHeld ⊢
                generalize wr.heap.size = g7 at hHeld ⊢
                refine pure_ (i := 0) (N := some 27) (v := ?_) (a' := ?_) #[true, false, false, false, false, false, false, false, false] rfl rfl (any_of HT_.out (by kernel_rfl)) (fun _ _ _ h => h) (Or.inl ⟨by rfl, ?_⟩) ?_ ?_
                rotate_left
                · intro w'
                  go_simp
                  with_reducible rfl
                rotate_left
                · simp only [Act.put, List.setIfInBounds_toArray, List.set_cons_zero, List.set_cons_succ, i64_w, i32_w]
                  rfl
                refine take_ (i := 1) (N := some 28) (v := ?_) (a' := ?_) #[true, true, false, false, false, false, false, false, false] rfl rfl (take_ofW HT_.out HW_.out (by kernel_rfl)) (fun _ _ _ h => h) (Or.inl ⟨by rfl, ?_⟩) hHeld ?_ ?_
                rotate_left
                · intro w' s0
                  have c0 := (blk_cell s0 0).trans rfl
                  go_simp
                  with_reducible rfl
                rotate_left
                · simp only [Act.put, List.setIfInBounds_toArray, List.set_cons_zero, List.set_cons_succ, i64_w, i32_w]
                  rfl
                refine pure_ (i := 2) (N := some 29) (v := ?_) (a' := ?_) #[true, true, true, false, false, false, false, false, false] rfl rfl (any_of HT_.out (by kernel_rfl)) (fun _ _ _ h => h) (Or.inl ⟨by rfl, ?_⟩) ?_ ?_
                rotate_left
                · intro w'
                  go_simp
                  with_reducible rfl
                rotate_left
                · simp only [Act.put, List.setIfInBounds_toArray, List.set_cons_zero, List.set_cons_succ, i64_w, i32_w]
                  rfl
                refine pure_ (i := 3) (N := some 30) (v := ?_) (a' := ?_) #[true, true, true, true, false, false, false, false, false] rfl rfl (any_of HT_.out (by kernel_rfl)) (fun _ _ _ h => h) (Or.inl ⟨by rfl, ?_⟩) ?_ ?_
                rotate_left
                · intro w'
                  go_simp
                  with_reducible rfl
                rotate_left
                · simp only [Act.put, List.setIfInBounds_toArray, List.set_cons_zero, List.set_cons_succ, i64_w, i32_w]
                  rfl
                refine take_ (i := 4) (N := some 31) (v := ?_) (a' := ?_) #[true, true, true, true, true, false, false, false, false] rfl rfl (take_ofW HT_.out HW_.out (by kernel_rfl)) (fun _ _ _ h => h) (Or.inl ⟨by rfl, ?_⟩) hHeld ?_ ?_
                rotate_left
                · intro w' s0
                  have c1 := (blk_cell s0 1).trans rfl
                  have c2 := (blk_cell s0 2).trans rfl
                  have c3 := (blk_cell s0 3).trans rfl
                  have c4 := (blk_cell s0 4).trans rfl
                  have c5 := (blk_cell s0 5).trans rfl
                  go_simp
                  with_reducible rfl
                rotate_left
                · simp only [Act.put, List.setIfInBounds_toArray, List.set_cons_zero, List.set_cons_succ, i64_w, i32_w]
                  rfl
                refine one_ (i := 5) (N := some 32) #[true, true, true, true, true, true, false, false, false] rfl rfl (one_of HT_.out (by kernel_rfl)) (by decide) (fun K hK => ?_)
                refine goes_ Tryd.func14 (by kernel_rfl) rfl #[.agg #[.int .i64 ((rd_T45 l0_1 i).f1.f0), .string ((rd_T45 l0_1 i).f1.f1), .string ((rd_T45 l0_1 i).f1.f2), .slice A4 ((rd_T45 l0_1 i).f1.f3).length c4, .slice A5 ((rd_T45 l0_1 i).f1.f4).length c5']] (by rfl) rfl rfl (by (try simp only [List.map_toArray, List.map_cons, List.map_nil]); first | done | rfl) ?_
                refine (show_Claim.calls k3 _ _ _ _ _ _ _ _ _ t _ (HG.out.below HB4.out) (Kd.C_below HR4.out HB4.out) HC4.out (Kd.C_below HR5.out HB4.out) HC5.out A1.out).mono ?_
                rintro e w5 ⟨rfl, hb5⟩
                refine ⟨_, rfl, ?_⟩
                refine hK.out _ _ (blk_below hHeld hb5) (fun hHeld2 => ?_)
                clear hK K
                have HB5 := Aside0.mk (below_step HB4.out hb5)
                have HH5 := Aside0.mk (HH4.out.below hb5)
                have BK5 := Aside0.mk (blk_below BK4.out hb5)
                clear HB4 HH4 BK4 hb5 hHeld
                refine norm_ (a' := ?_) ?_ ?_
                rotate_left
                · show Act.put _ (some 32) _ = _
                  simp only [Act.put, List.setIfInBounds_toArray, List.set_cons_zero, List.set_cons_succ, i64_w, i32_w]
                  rfl
                refine pure_ (i := 6) (N := some 33) (v := ?_) (a' := ?_) #[true, true, true, true, true, true, true, false, false] rfl rfl (any_of HT_.out (by kernel_rfl)) (fun _ _ _ h => h) (Or.inl ⟨by rfl, ?_⟩) ?_ ?_
                rotate_left
                · intro w'
                  go_simp
                  with_reducible rfl
                rotate_left
                · simp only [Act.put, List.setIfInBounds_toArray, List.set_cons_zero, List.set_cons_succ, i64_w, i32_w]
                  rfl
                refine pure_ (i := 7) (N := some 34) (v := ?_) (a' := ?_) #[true, true, true, true, true, true, true, true, false] rfl rfl (any_of HT_.out (by kernel_rfl)) (fun _ _ _ h => h) (Or.inl ⟨by rfl, ?_⟩) ?_ ?_
                rotate_left
                · intro w'
                  go_simp
                  with_reducible rfl
                rotate_left
                · simp only [Act.put, List.setIfInBounds_toArray, List.set_cons_zero, List.set_cons_succ, i64_w, i32_w]
                  rfl
                refine one_ (i := 8) (N := some 35) #[true, true, true, true, true, true, true, true, true] rfl rfl (one_of HT_.out (by kernel_rfl)) (by decide) (fun K hK => ?_)
                refine goes_ Tryd.func34 (by kernel_rfl) rfl #[.pointer (some ⟨g, 0, none⟩), .string (((((rd_T45 l0_1 i).f0) ++ (⟨#[58, 32]⟩ : ByteArray)) ++ t) ++ (⟨#[10]⟩ : ByteArray))] (by rfl) rfl rfl (by (try simp only [List.map_toArray, List.map_cons, List.map_nil]); first | done | rfl) ?_
                refine (writeS w g s _ _ HH5.out (by simp only [ByteArray.size_append]; exact HL2.out) HB5.out).mono ?_
                rintro e w6 ⟨rfl, hh6, hb6, hk6⟩
                refine ⟨_, rfl, ?_⟩
                refine hK.out _ _ (hk6 _ _ _ hHeld2 (by decide) (by decide)) (fun _ => ?_)
                clear hK K
                have HB6 := Aside0.mk hb6
                have HH6 := Aside0.mk hh6
                have BK6 := Aside0.mk (hk6 _ _ _ BK5.out (by decide) (by decide))
                clear HB5 HH5 BK5 hb6 hh6 hk6 hHeld2
                refine done_ (done_of HT_.out (by kernel_rfl)) ?_
                go_wp2
                go_roundg k3
                case measure => omega
                case rel => exact ⟨_, wrap64 (i + 1), (by first | rfl | simp), H, HH6, BK6, HB6⟩
              · rw [if_neg c2] at H
                cases H
            · rw [if_neg c1] at H
              have c1b : decide (i < (l0_1.length : Int)) = false := decide_eq_false c1
              clear c1
              obtain rfl := Option.some.inj H
              clear H
              have hz2 : wr.cell? ⟨gb, 2, none⟩ = some (.int .i64 a0_2) := (blk_cell BK.out 2).trans rfl
              have hz3 : wr.cell? ⟨gb, 3, none⟩ = some (.string a0_3) := (blk_cell BK.out 3).trans rfl
              have hz4 : wr.cell? ⟨gb, 4, none⟩ = some (.string a0_4) := (blk_cell BK.out 4).trans rfl
              have hz5 : wr.cell? ⟨gb, 5, none⟩ = some (.slice A0_5 l0_5.length c0_5) := (blk_cell BK.out 5).trans rfl
              have hz6 : wr.cell? ⟨gb, 6, none⟩ = some (.slice A0_6 l0_6.length c0_6) := (blk_cell BK.out 6).trans rfl
              have c7 : 3 + tg.size ≤ 9223372036854775807 := by have := C1.out; omega
              have c7a := eq_true c7
              have c7b : (9223372036854775807 < 3 + tg.size) = False := eq_false (Nat.not_lt.2 c7)
              have c8a := eq_true C1.out
              have c8b : (9223372036854775807 < 3 + tg.size + 1) = False := eq_false (Nat.not_lt.2 C1.out)
              go_wp2_with (fail)
              refine (show_Claim.calls k _ _ _ _ _ _ _ _ _ tg _ (HG.out.below HB.out) (Kd.C_below HR5_.out HB.out) HC5_.out (Kd.C_below HR6_.out HB.out) HC6_.out H3.out).mono ?_
              rintro e w5 ⟨rfl, hb5⟩
              have HB5 := Aside0.mk (below_step HB.out hb5)
              have HH5 := Aside0.mk (HH.out.below hb5)
              clear HB HH BK hb5 hz2 hz3 hz4 hz5 hz6
              go_wp2_with (fail)
              refine (writeS w g s _ _ HH5.out (by simp only [ByteArray.size_append]; exact C2.out) HB5.out).mono ?_
              rintro e w6 ⟨rfl, hh6, hb6, _⟩
              obtain ⟨y, hy⟩ : ∃ y : ByteArray, y = s ++ (((⟨#[124, 45, 32]⟩ : ByteArray) ++ tg) ++ (⟨#[10]⟩ : ByteArray)) := ⟨_, rfl⟩
              rw [← hy] at hh6
              have hbs := builderString w.heap.size g y.data.toList _ hh6 (by rw [hy]; simp [ByteArray.data_append])
              rw [show (⟨y.data.toList.toArray⟩ : ByteArray) = y by cases y; simp] at hbs
              have HB6 := Aside0.mk hb6
              have HY := Aside0.mk hy
              have HS := Aside0.mk hbs
              clear HB5 HH5 hb6 hh6 hbs hy
              go_wp2_with (fail)
              refine HS.out.mono ?_
              rintro e w7 ⟨rfl, hb7⟩
              have HB7 := Aside0.mk (HB6.out.trans hb7)
              clear hb7
              go_wp2_with (fail)
              go_ret
              exact ⟨by rw [← Option.some.inj H4.out, ← HY.out]; rfl, HB7.out⟩
end Go.Proofs.YtmlkllbaehegjaaDoor.PAll
end
section
namespace Go.Proofs.YtmlkllbaehegjaaDoor.PAll
open Go.RowKit Go.Proofs.YtmlkllbaehegjaaDoorW.PrintWords Go.Proofs.YtmlkllbaehegjaaDoorW.PrintLast Go.Proofs.YtmlkllbaehegjaaDoorW.PrintMore
attribute [local go_sem] max2_int min2_int max_two min_two max_three min_three max_four min_four
set_option linter.unusedVariables false
set_option linter.unusedSimpArgs false
/-! ### sequiturref14_Claim: function 36 -/
def sequiturref14_Claim.f (k : Nat) (a0_0 : Int) (a0_1 : ByteArray) (a0_2 : ByteArray) (l0_3 : List (S53)) (l0_4 : List (S30)) : Option (ByteArray) := (sequiturref14_names.f k a0_0 a0_1 a0_2 l0_3 l0_4).bind fun t599 => ((sequiturref14_claim.f k a0_0 a0_1 a0_2 l0_3 l0_4 t599 ([] : List ByteArray) 1 true).bind fun t602 => (some t602))
set_option maxHeartbeats 8000000 in
set_option maxRecDepth 100000 in
theorem sequiturref14_Claim.calls (k : Nat) (a0_0 : Int) (a0_1 : ByteArray) (a0_2 : ByteArray) (A0_3 : Option Addr) (c0_3 : Nat) (l0_3 : List (S53)) (A0_4 : Option Addr) (c0_4 : Nat) (l0_4 : List (S30)) (r : ByteArray) (w : World) (hr0_3 : Kd.C k53 w A0_3 l0_3.length l0_3) (hc0_3 : l0_3.length ≤ c0_3) (hr0_4 : Kd.C k30 w A0_4 l0_4.length l0_4) (hc0_4 : l0_4.length ≤ c0_4) (h : sequiturref14_Claim.f k a0_0 a0_1 a0_2 l0_3 l0_4 = some r) :
    Calls Tryd.prog 36 #[.agg #[.int .i64 a0_0, .string a0_1, .string a0_2, .slice A0_3 l0_3.length c0_3, .slice A0_4 l0_4.length c0_4]] w fun e w' => e = .returned (.string r) ∧ Below w.heap.size w w' := by
  have hu30 := Tryd.underlying30; have HR0_3 := am hr0_3; have HC0_3 := am hc0_3; clear hr0_3 hc0_3; have HR0_4 := am hr0_4; have HC0_4 := am hc0_4; clear hr0_4 hc0_4; have HB := am (Below.refl w.heap.size w); have H := h; unfold sequiturref14_Claim.f at H; clear h; obtain ⟨t599, A2, H⟩ := bO H; obtain ⟨t602, A3, H⟩ := bO H; obtain rfl := Option.some.inj H
  go_enter Tryd.func36, Tryd.ntmps36
  try go_wp2_with (first | ((with_reducible refine gate_dst (N := 1) rfl ?_); refine bE 1 #[.int .i64 a0_0, .string a0_1, .string a0_2, .slice A0_3 l0_3.length c0_3, .slice A0_4 l0_4.length c0_4] 30 ?_; intro gb598 w4 BK598 hg hb; have GW598 := bZ hg; have GE598 := bZ hg; replace HB := bH hb; clear hb hg))
  replace BK598 := am (blk_drew BK598.out); replace HB := am (below_drew1 HB.out); refine sS 5 (e5 BK598) fun hHeld => ?_
  generalize w4.drew = w5 at BK598 HB hHeld ⊢
  refine take_ (i := 0) (N := some 3) (v := ?_) (a' := ?_) #[true, false, false, false, false] rfl rfl (by kernel_rfl) (fun _ _ _ h => h) (Or.inl ⟨by rfl, ?_⟩) hHeld ?_ ?_
  rotate_left
  · rintro w' ⟨s0, s1, s2, s3, s4⟩
    go_simp
    with_reducible rfl
  rotate_left
  · simp only [Act.put, List.setIfInBounds_toArray, List.set_cons_zero, List.set_cons_succ, i64_w, i32_w]
    rfl
  refine take_ (i := 1) (N := some 4) (v := ?_) (a' := ?_) #[true, true, false, false, false] rfl rfl (by kernel_rfl) (fun _ _ _ h => h) (Or.inl ⟨by rfl, ?_⟩) hHeld ?_ ?_
  rotate_left
  · rintro w' ⟨s0, s1, s2, s3, s4⟩
    go_simp
    with_reducible rfl
  rotate_left
  · simp only [Act.put, List.setIfInBounds_toArray, List.set_cons_zero, List.set_cons_succ, i64_w, i32_w]
    rfl
  refine one_ (i := 2) (N := some 5) #[true, true, true, false, false] rfl rfl (by kernel_rfl) (by decide) (fun K hK => ?_); refine goS Tryd.func55 #[.agg #[.int .i64 a0_0, .string a0_1, .string a0_2, .slice A0_3 l0_3.length c0_3, .slice A0_4 l0_4.length c0_4]] ?_; (with_reducible refine (sequiturref14_names.calls k a0_0 a0_1 a0_2 _ _ l0_3 _ _ l0_4 t599 _ ?side1 HC0_3.out ?side3 HC0_4.out A2.out).mono ?_); (case side1 => exact cB HR0_3); (case side3 => exact cB HR0_4); rintro e w6 ⟨v600, rfl, ho0, hb⟩; refine ⟨_, rfl, ?_⟩; have HO601 := am (Kd.R_lower ho0 (below_size bB)); replace BK598 := bK BK598 hb; replace HB := bH hb; clear hb ho0; obtain ⟨Ao7, co7, eo7⟩ := Kd.R_slice HO601.out; (first | subst eo7 | (injection eo7 with f1_ f2_ f3_; have f4_ := f1_.symm; have f5_ := f3_.symm; clear f1_ f2_ f3_; subst f4_; subst f5_)); refine hK.out _ _ (e5 BK598) fun hHeld => ?_
  clear hK K; refine nS 5 ?_; refine one_ (i := 3) (N := some 6) #[true, true, true, true, false] rfl rfl (by kernel_rfl) (by decide) (fun K hK => ?_); refine goS Tryd.func54 #[.agg #[.int .i64 a0_0, .string a0_1, .string a0_2, .slice A0_3 l0_3.length c0_3, .slice A0_4 l0_4.length c0_4], .slice Ao7 t599.length co7, .slice none 0 0, .int .i64 1, .bool true] ?_; refine (sequiturref14_claim.calls k a0_0 a0_1 a0_2 _ _ l0_3 _ _ l0_4 _ _ t599 _ _ ([] : List ByteArray) 1 true t602 _ ?side1 HC0_3.out ?side3 HC0_4.out ?side5 ?side6 ?side7 ?side8 A3.out).mono ?_; (case side1 => exact cB HR0_3); (case side3 => exact cB HR0_4); (case side5 => repeat (first | exact (Kd.R_reads' HO601.out).2.2 | (with_reducible refine Kd.C_alloc ?_ _) | (with_reducible refine Kd.C_drewN ?_ _) | (with_reducible refine Kd.C_drew ?_))); (case side6 => exact (Kd.R_reads' HO601.out).2.1)
  (case side7 => exact Kd.C_nil _ _); (case side8 => exact Nat.le_refl _); rintro e w8 ⟨rfl, hb⟩; refine ⟨_, rfl, ?_⟩; replace HO601 := am (Kd.R_below (d6 HO601) hb); replace BK598 := bK BK598 hb; replace HB := bH hb; clear hb; refine hK.out _ _ (e5 BK598) fun hHeld => ?_
  clear hK K; refine nS 6 ?_; refine pure_ (i := 4) (N := some 2) (v := ?_) (a' := ?_) #[true, true, true, true, true] rfl rfl (by kernel_rfl) (fun _ _ _ h => h) (Or.inl ⟨by rfl, ?_⟩) ?_ ?_
  rotate_left
  · intro w'
    go_simp
    with_reducible rfl
  rotate_left
  · simp only [Act.put, List.setIfInBounds_toArray, List.set_cons_zero, List.set_cons_succ, i64_w, i32_w]
    rfl
  refine done_ (by kernel_rfl) ?_
  try go_wp2
  go_ret; exact ⟨eW, bB⟩
end Go.Proofs.YtmlkllbaehegjaaDoor.PAll
end
section
namespace Go.Proofs.YtmlkllbaehegjaaDoor.PAll
open Go.RowKit Go.Proofs.YtmlkllbaehegjaaDoorW.PrintWords Go.Proofs.YtmlkllbaehegjaaDoorW.PrintLast Go.Proofs.YtmlkllbaehegjaaDoorW.PrintMore
attribute [local go_sem] max2_int min2_int max_two min_two max_three min_three max_four min_four   -- for this text's walks alone
set_option linter.unusedVariables false
set_option linter.unusedSimpArgs false
/-! ### sequiturref14_Seq: function 18 -/
mutual
def sequiturref14_Seq.l0 : Nat → ByteArray → Int → List (S42) → List (S45) → Int → ByteArray → ByteArray → List (S53) → List (S30) → Option (ByteArray)
  | 0, _, _, _, _, _, _, _, _, _ => none
  | k + 1, x3, x4, x604000, x604001, x604002, x604003, x604004, x604005, x604006 => if x4 < (x604000.length : Int) then (if 0 ≤ x4 then ((sequiturref14_Var.f ((rd_T42 x604000 x4).f0) ((rd_T42 x604000 x4).f1)).bind fun t605 => (if x3.size + t605.size ≤ 9223372036854775807 then (if (x3 ++ t605).size + 1 ≤ 9223372036854775807 then (sequiturref14_Seq.l0 k ((x3 ++ t605) ++ (⟨#[10]⟩ : ByteArray)) (wrap64 (x4 + 1)) x604000 x604001 x604002 x604003 x604004 x604005 x604006) else (none)) else (none))) else (none)) else (sequiturref14_Seq.l1 k x3 0 x604000 x604001 x604002 x604003 x604004 x604005 x604006)
def sequiturref14_Seq.l1 : Nat → ByteArray → Int → List (S42) → List (S45) → Int → ByteArray → ByteArray → List (S53) → List (S30) → Option (ByteArray)
  | 0, _, _, _, _, _, _, _, _, _ => none
  | k + 1, x3, x5, x604000, x604001, x604002, x604003, x604004, x604005, x604006 => if x5 < (x604001.length : Int) then (if 0 ≤ x5 then (if x3.size + ((rd_T45 x604001 x5).f0).size ≤ 9223372036854775807 then (if (x3 ++ ((rd_T45 x604001 x5).f0)).size + 2 ≤ 9223372036854775807 then ((sequiturref14_Claim.f k ((rd_T45 x604001 x5).f1.f0) ((rd_T45 x604001 x5).f1.f1) ((rd_T45 x604001 x5).f1.f2) ((rd_T45 x604001 x5).f1.f3) ((rd_T45 x604001 x5).f1.f4)).bind fun t608 => (if ((x3 ++ ((rd_T45 x604001 x5).f0)) ++ (⟨#[58, 32]⟩ : ByteArray)).size + t608.size ≤ 9223372036854775807 then (if (((x3 ++ ((rd_T45 x604001 x5).f0)) ++ (⟨#[58, 32]⟩ : ByteArray)) ++ t608).size + 1 ≤ 9223372036854775807 then (sequiturref14_Seq.l1 k ((((x3 ++ ((rd_T45 x604001 x5).f0)) ++ (⟨#[58, 32]⟩ : ByteArray)) ++ t608) ++ (⟨#[10]⟩ : ByteArray)) (wrap64 (x5 + 1)) x604000 x604001 x604002 x604003 x604004 x604005 x604006) else (none)) else (none))) else (none)) else (none)) else (none)) else (if x3.size + 3 ≤ 9223372036854775807 then ((sequiturref14_Claim.f k x604002 x604003 x604004 x604005 x604006).bind fun t609 => (if (x3 ++ (⟨#[124, 45, 32]⟩ : ByteArray)).size + t609.size ≤ 9223372036854775807 then (if ((x3 ++ (⟨#[124, 45, 32]⟩ : ByteArray)) ++ t609).size + 1 ≤ 9223372036854775807 then (some (((x3 ++ (⟨#[124, 45, 32]⟩ : ByteArray)) ++ t609) ++ (⟨#[10]⟩ : ByteArray))) else (none)) else (none))) else (none))
end
def sequiturref14_Seq.f (k : Nat) (l0_0 : List (S42)) (l0_1 : List (S45)) (a0_2 : Int) (a0_3 : ByteArray) (a0_4 : ByteArray) (l0_5 : List (S53)) (l0_6 : List (S30)) : Option (ByteArray) := sequiturref14_Seq.l0 k (⟨#[]⟩ : ByteArray) 0 l0_0 l0_1 a0_2 a0_3 a0_4 l0_5 l0_6
def sequiturref14_Seq.T9 : Bool × List (List Nat × List Nat) := (true, [([], []), ([], []), ([1], [1]), ([], []), ([2, 3], [2, 3]), ([4], [4]), ([5], [5]), ([0, 6], [0, 6]), ([7], [7]), ([], []), ([9], [9]), ([], []), ([10, 11], [10, 11]), ([12], [12]), ([13], [13]), ([14], [14]), ([8, 15], [8, 15]), ([16], [16]), ([17, 15, 0, 1, 2, 3, 4, 5, 6, 7, 8, 9, 10, 11, 12, 13, 14, 15, 16, 17], [0, 17])])
def sequiturref14_Seq.B9 : List Nat := [0, 0, 2, 0, 14, 30, 62, 127, 255, 0, 512, 0, 3584, 7680, 15872, 32256, 65535, 131071, 262143]
theorem sequiturref14_Seq.tab9 : rtab .any (opsOf Tryd.f18 9) = sequiturref14_Seq.T9 := by kernel_rfl
theorem sequiturref14_Seq.bits9 : waitsOk sequiturref14_Seq.T9.2 sequiturref14_Seq.B9 = true := by kernel_rfl
set_option maxHeartbeats 8000000 in
set_option maxRecDepth 100000 in
theorem sequiturref14_Seq.calls (k : Nat) (A0_0 : Option Addr) (c0_0 : Nat) (l0_0 : List (S42)) (A0_1 : Option Addr) (c0_1 : Nat) (l0_1 : List (S45)) (a0_2 : Int) (a0_3 : ByteArray) (a0_4 : ByteArray) (A0_5 : Option Addr) (c0_5 : Nat) (l0_5 : List (S53)) (A0_6 : Option Addr) (c0_6 : Nat) (l0_6 : List (S30)) (r : ByteArray) (w : World) (hr0_0 : Kd.C k42 w A0_0 l0_0.length l0_0) (hc0_0 : l0_0.length ≤ c0_0) (hr0_1 : Kd.C k45 w A0_1 l0_1.length l0_1) (hc0_1 : l0_1.length ≤ c0_1) (hr0_5 : Kd.C k53 w A0_5 l0_5.length l0_5) (hc0_5 : l0_5.length ≤ c0_5) (hr0_6 : Kd.C k30 w A0_6 l0_6.length l0_6) (hc0_6 : l0_6.length ≤ c0_6) (h : sequiturref14_Seq.f k l0_0 l0_1 a0_2 a0_3 a0_4 l0_5 l0_6 = some r) :
    Calls Tryd.prog 18 #[.agg #[.slice A0_0 l0_0.length c0_0, .slice A0_1 l0_1.length c0_1, .int .i64 a0_2, .string a0_3, .string a0_4, .slice A0_5 l0_5.length c0_5, .slice A0_6 l0_6.length c0_6]] w fun e w' => e = .returned (.string r) ∧ Below w.heap.size w w' := by
  have hu40 := Tryd.underlying40; have hu42 := Tryd.underlying42; have hu30 := Tryd.underlying30; have HR0_0 := am hr0_0; have HC0_0 := am hc0_0; clear hr0_0 hc0_0; have HR0_1 := am hr0_1; have HC0_1 := am hc0_1; clear hr0_1 hc0_1; have HR0_5 := am hr0_5; have HC0_5 := am hc0_5; clear hr0_5 hc0_5; have HR0_6 := am hr0_6; have HC0_6 := am hc0_6; clear hr0_6 hc0_6; have HB := am (Below.refl w.heap.size w); have H := h; unfold sequiturref14_Seq.f at H; clear h; have H' := am H; clear H
  go_enter Tryd.func18, Tryd.ntmps18
  go_wp2_with (first | ((with_reducible refine gate_dst (N := 1) rfl ?_); refine bE 1 #[.slice A0_0 l0_0.length c0_0, .slice A0_1 l0_1.length c0_1, .int .i64 a0_2, .string a0_3, .string a0_4, .slice A0_5 l0_5.length c0_5, .slice A0_6 l0_6.length c0_6] 40 ?_; intro gb603 w2 BK603 hg hb; have GW603 := bZ hg; have GE603 := bZ hg; replace HB := bH hb; clear hb hg))
  go_loopg [3, 4] k (fun kq v3 v4 w' => ∃ (x3_1 : ByteArray) (x4_1 : Int), v3 = .string x3_1 ∧ v4 = .int .i64 x4_1 ∧ Aside0 (sequiturref14_Seq.l0 kq x3_1 x4_1 l0_0 l0_1 a0_2 a0_3 a0_4 l0_5 l0_6 = some r) ∧ Aside0 (kq ≤ k) ∧ Aside0 (w'.heap[gb603]? = some (.cells #[(.slice A0_0 l0_0.length c0_0), (.slice A0_1 l0_1.length c0_1), .int .i64 a0_2, .string a0_3, .string a0_4, (.slice A0_5 l0_5.length c0_5), (.slice A0_6 l0_6.length c0_6)] 40 (0, 0))) ∧ Aside0 (Below w.heap.size w w'))
  case atStart => exact ⟨((⟨#[]⟩ : ByteArray)), (0), eS, eS, H', ⟨Nat.le_refl _⟩, ⟨bD BK603⟩, ⟨bB⟩⟩
  case round =>
   clear H'; (try clear c1); (try clear p2); obtain ⟨x3_1, x4_1, rfl, rfl, HA, HK1, BK603, HB⟩ := hrel
   cases gk with
   | zero => exact absurd HA.out (by simp [sequiturref14_Seq.l0])
   | succ k1 =>
    have H := HA.out; clear HA; simp only [sequiturref14_Seq.l0] at H
    by_cases c3 : x4_1 < (l0_0.length : Int)
    ·rw [if_pos c3] at H
     have c3b0 : decide (x4_1 < (l0_0.length : Int)) = true := decide_eq_true c3; clear c3
     by_cases c4 : 0 ≤ x4_1
     ·rw [if_pos c4] at H
      have c4b0 : decide (0 ≤ x4_1) = true := decide_eq_true c4; clear c4; obtain ⟨t605, A5, H⟩ := bO H
      by_cases c6 : x3_1.size + t605.size ≤ 9223372036854775807
      ·rw [if_pos c6] at H
       have c6b0 := eq_true c6; have c6b1 := decide_eq_true c6
       try have c6b2 := eq_false (Nat.not_lt.2 c6)
       by_cases c7 : (x3_1 ++ t605).size + 1 ≤ 9223372036854775807
       ·rw [if_pos c7] at H
        have c7b0 := eq_true c7; have c7b1 := decide_eq_true c7; have c7n : x3_1.size + t605.size + 1 ≤ 9223372036854775807 := by have h_ := c7; simp only [ByteArray.size_append] at h_; first | exact h_ | omega
        have c7b3 := eq_true c7n; have c7b4 : (9223372036854775807 < x3_1.size + t605.size + 1) = False := eq_false (Nat.not_lt.2 c7n)
        try have c7b2 := eq_false (Nat.not_lt.2 c7)
        have H' := am H; clear H; obtain ⟨z8_0, z8_1, z8_2, z8_3, z8_4, z8_5, z8_6, y8_0, y8_1, y8_2, y8_3, y8_4, y8_5, y8_6⟩ := y7 BK603; have p604 : 0 ≤ (x4_1 : Int) := of_decide_eq_true eA; have q604 : x4_1 < (l0_0.length : Int) := of_decide_eq_true eA; obtain ⟨ad604, e604, hx604_0, hx604_1⟩ := at_T42 HR0_0.out x4_1 p604 q604
        cases e604
        replace hx604_0 := cX HB hx604_0; replace hx604_1 := cX HB hx604_1; replace p604 := eq_true p604; replace q604 := eq_true q604
        go_wp2_with (first | ((with_reducible refine gate_callee (f := 16) rfl ?_); refine gL 19 Tryd.func16 #[.agg #[.string ((rd_T42 l0_0 x4_1).f0), .string ((rd_T42 l0_0 x4_1).f1)]] ?_; (with_reducible refine (sequiturref14_Var.calls ((rd_T42 l0_0 x4_1).f0) ((rd_T42 l0_0 x4_1).f1) t605 _ A5.out).mono ?_); rintro e w9 ⟨rfl, hb⟩; refine ⟨_, rfl, ?_⟩; replace BK603 := bK BK603 hb; replace HB := bH hb; clear hb))
        go_roundg k1
        case measure => have := HK1.out; omega
        case rel => exact ⟨((x3_1 ++ t605) ++ (⟨#[10]⟩ : ByteArray)), (wrap64 (x4_1 + 1)), eS, eS, H', ⟨by have := HK1.out; omega⟩, ⟨bD BK603⟩, ⟨bB⟩⟩
       ·rw [if_neg c7] at H
        exact absurd H (by simp)
      ·rw [if_neg c6] at H
       exact absurd H (by simp)
     ·rw [if_neg c4] at H
      exact absurd H (by simp)
    ·rw [if_neg c3] at H
     have c3b0 : decide (x4_1 < (l0_0.length : Int)) = false := decide_eq_false c3; clear c3; have H' := am H; clear H; obtain ⟨z10_0, z10_1, z10_2, z10_3, z10_4, z10_5, z10_6, y10_0, y10_1, y10_2, y10_3, y10_4, y10_5, y10_6⟩ := y7 BK603; go_wp2
     go_loopg [3, 5] k1 (fun kq v3 v5 w' => ∃ (x3_2 : ByteArray) (x5_2 : Int), v3 = .string x3_2 ∧ v5 = .int .i64 x5_2 ∧ Aside0 (sequiturref14_Seq.l1 kq x3_2 x5_2 l0_0 l0_1 a0_2 a0_3 a0_4 l0_5 l0_6 = some r) ∧ Aside0 (kq ≤ k1) ∧ Aside0 (w'.heap[gb603]? = some (.cells #[(.slice A0_0 l0_0.length c0_0), (.slice A0_1 l0_1.length c0_1), .int .i64 a0_2, .string a0_3, .string a0_4, (.slice A0_5 l0_5.length c0_5), (.slice A0_6 l0_6.length c0_6)] 40 (0, 0))) ∧ Aside0 (Below w.heap.size w w'))
     case atStart => exact ⟨(x3_1), (0), eS, eS, H', ⟨Nat.le_refl _⟩, ⟨bD BK603⟩, ⟨bB⟩⟩
     case round =>
      clear H'; (try clear c1); (try clear p2); (try clear c3); (try clear c3b0); (try clear c4); (try clear c4b0); (try clear c6); (try clear c6b0); (try clear c6b1); (try clear c6b2); (try clear p6); (try clear q6); (try clear hx6); (try clear c7); (try clear c7b0); (try clear c7b1); (try clear c7b2); (try clear z10_0 z10_1 z10_2 z10_3 z10_4 z10_5 z10_6); (try clear z8_0 z8_1 z8_2 z8_3 z8_4 z8_5 z8_6); (try clear y10_0 y10_1 y10_2 y10_3 y10_4 y10_5 y10_6); (try clear y8_0 y8_1 y8_2 y8_3 y8_4 y8_5 y8_6); (try clear hx604_0); (try clear hx604_1); (try clear p2); (try clear p604); (try clear q604); obtain ⟨x3_2, x5_2, rfl, rfl, HA, HK2, BK603, HB⟩ := hrel
      cases gk with
      | zero => exact absurd HA.out (by simp [sequiturref14_Seq.l1])
      | succ k2 =>
       have H := HA.out; clear HA; simp only [sequiturref14_Seq.l1] at H
       by_cases c11 : x5_2 < (l0_1.length : Int)
       ·rw [if_pos c11] at H
        have c11b0 : decide (x5_2 < (l0_1.length : Int)) = true := decide_eq_true c11; clear c11
        by_cases c12 : 0 ≤ x5_2
        ·rw [if_pos c12] at H
         have c12b0 : decide (0 ≤ x5_2) = true := decide_eq_true c12; clear c12
         by_cases c13 : x3_2.size + ((rd_T45 l0_1 x5_2).f0).size ≤ 9223372036854775807
         ·rw [if_pos c13] at H
          have c13b0 := eq_true c13; have c13b1 := decide_eq_true c13
          try have c13b2 := eq_false (Nat.not_lt.2 c13)
          by_cases c14 : (x3_2 ++ ((rd_T45 l0_1 x5_2).f0)).size + 2 ≤ 9223372036854775807
          ·rw [if_pos c14] at H
           have c14b0 := eq_true c14; have c14b1 := decide_eq_true c14; have c14n : x3_2.size + ((rd_T45 l0_1 x5_2).f0).size + 2 ≤ 9223372036854775807 := by have h_ := c14; simp only [ByteArray.size_append] at h_; first | exact h_ | omega
           have c14b3 := eq_true c14n; have c14b4 : (9223372036854775807 < x3_2.size + ((rd_T45 l0_1 x5_2).f0).size + 2) = False := eq_false (Nat.not_lt.2 c14n)
           try have c14b2 := eq_false (Nat.not_lt.2 c14)
           obtain ⟨t608, A15, H⟩ := bO H
           by_cases c16 : ((x3_2 ++ ((rd_T45 l0_1 x5_2).f0)) ++ (⟨#[58, 32]⟩ : ByteArray)).size + t608.size ≤ 9223372036854775807
           ·rw [if_pos c16] at H
            have c16b0 := eq_true c16; have c16b1 := decide_eq_true c16; have c16n : x3_2.size + ((rd_T45 l0_1 x5_2).f0).size + 2 + t608.size ≤ 9223372036854775807 := by have h_ := c16; simp only [ByteArray.size_append] at h_; have z0_ : (⟨#[58, 32]⟩ : ByteArray).size = 2 := rfl; first | exact h_ | omega
            have c16b3 := eq_true c16n; have c16b4 : (9223372036854775807 < x3_2.size + ((rd_T45 l0_1 x5_2).f0).size + 2 + t608.size) = False := eq_false (Nat.not_lt.2 c16n)
            try have c16b2 := eq_false (Nat.not_lt.2 c16)
            by_cases c17 : (((x3_2 ++ ((rd_T45 l0_1 x5_2).f0)) ++ (⟨#[58, 32]⟩ : ByteArray)) ++ t608).size + 1 ≤ 9223372036854775807
            ·rw [if_pos c17] at H
             have c17b0 := eq_true c17; have c17b1 := decide_eq_true c17; have c17n : x3_2.size + ((rd_T45 l0_1 x5_2).f0).size + 2 + t608.size + 1 ≤ 9223372036854775807 := by have h_ := c17; simp only [ByteArray.size_append] at h_; have z0_ : (⟨#[58, 32]⟩ : ByteArray).size = 2 := rfl; first | exact h_ | omega
             have c17b3 := eq_true c17n; have c17b4 : (9223372036854775807 < x3_2.size + ((rd_T45 l0_1 x5_2).f0).size + 2 + t608.size + 1) = False := eq_false (Nat.not_lt.2 c17n)
             try have c17b2 := eq_false (Nat.not_lt.2 c17)
             have H' := am H; clear H; obtain ⟨z18_0, z18_1, z18_2, z18_3, z18_4, z18_5, z18_6, y18_0, y18_1, y18_2, y18_3, y18_4, y18_5, y18_6⟩ := y7 BK603
             try go_wp2
             replace BK603 := am (blk_drew BK603.out); replace HB := am (below_drew1 HB.out); have p606 : 0 ≤ (x5_2 : Int) := of_decide_eq_true eA; have q606 : x5_2 < (l0_1.length : Int) := of_decide_eq_true eA; obtain ⟨ad606, A606_4, c606_4, A606_5, c606_5, e606, hx606_0, hx606_1, hx606_2, hx606_3, hx606_4, hx606_5, hl606_4, hi606_4, hl606_5, hi606_5⟩ := at_T45 HR0_1.out x5_2 p606 q606; have hw606_5 := hx606_5; have hw606_4 := hx606_4; have hw606_3 := hx606_3; have hw606_2 := hx606_2; have hw606_1 := hx606_1; have hw606_0 := hx606_0
             cases e606
             replace hx606_0 := cX HB hx606_0; replace hx606_1 := cX HB hx606_1; replace hx606_2 := cX HB hx606_2; replace hx606_3 := cX HB hx606_3; replace hx606_4 := cX HB hx606_4; replace hx606_5 := cX HB hx606_5; have HR606_4 := am hi606_4; have HC606_4 := am hl606_4; clear hi606_4 hl606_4; have HR606_5 := am hi606_5; have HC606_5 := am hl606_5; clear hi606_5 hl606_5; replace p606 := eq_true p606; replace q606 := eq_true q606; have p607 : 0 ≤ (x5_2 : Int) := of_decide_eq_true eA; have q607 : x5_2 < (l0_1.length : Int) := of_decide_eq_true eA; obtain ⟨ad607, A607_4, c607_4, A607_5, c607_5, e607, hx607_0, hx607_1, hx607_2, hx607_3, hx607_4, hx607_5, hl607_4, hi607_4, hl607_5, hi607_5⟩ := at_T45 HR0_1.out x5_2 p607 q607; have hw607_5 := hx607_5; have hw607_4 := hx607_4; have hw607_3 := hx607_3; have hw607_2 := hx607_2; have hw607_1 := hx607_1; have hw607_0 := hx607_0; obtain rfl : ad606 = ad607 := (by injection e607); replace hx607_0 := cX HB hx607_0
             replace hx607_1 := cX HB hx607_1; replace hx607_2 := cX HB hx607_2; replace hx607_3 := cX HB hx607_3; replace hx607_4 := cX HB hx607_4; replace hx607_5 := cX HB hx607_5; have HR607_4 := am hi607_4; have HC607_4 := am hl607_4; clear hi607_4 hl607_4; have HR607_5 := am hi607_5; have HC607_5 := am hl607_5; clear hi607_5 hl607_5; replace p607 := eq_true p607; replace q607 := eq_true q607; have ea_ := Option.some.inj (hx606_4.symm.trans hx607_4)
             injection ea_ with ea_ en_ ec_
             subst ea_; subst ec_; clear en_; have ea_ := Option.some.inj (hx606_5.symm.trans hx607_5)
             injection ea_ with ea_ en_ ec_
             subst ea_; subst ec_; clear en_; refine sS 19 (k7 BK603 (kW8 HB hw606_0 hw606_1 hw606_2 hw606_3 hw606_4 hw606_5 hw607_0 hw607_1 (eW4 HB hw607_2 hw607_3 hw607_4 hw607_5))) fun hHeld => ?_
             refine with_tabW sequiturref14_Seq.tab9 sequiturref14_Seq.bits9 (fun HT_ HW_ => ?_); generalize wr.drew = w19 at BK603 HB HR606_4 HR606_5 HR607_4 HR607_5 hx606_0 hx606_1 hx606_2 hx606_3 hx606_4 hx606_5 hx607_0 hx607_1 hx607_2 hx607_3 hx607_4 hx607_5 hHeld ⊢
             refine pS 0 29 ?_; refine pS 1 30 ?_; refine pS 3 32 ?_; refine pS 9 38 ?_; refine pS 11 40 ?_; refine tS 2 31 ?_; refine pS 4 33 ?_; refine pS 5 34 ?_; refine tS 6 35 ?_; refine pS 7 36 ?_; refine pS 8 37 ?_; refine tS 10 39 ?_; refine pS 12 41 ?_; refine pS 13 42 ?_; refine tS 14 43 ?_; refine oS 15 44 fun K hK => ?_
             refine goS Tryd.func36 #[.agg #[.int .i64 ((rd_T45 l0_1 x5_2).f1.f0), .string ((rd_T45 l0_1 x5_2).f1.f1), .string ((rd_T45 l0_1 x5_2).f1.f2), .slice A606_4 ((rd_T45 l0_1 x5_2).f1.f3).length c606_4, .slice A606_5 ((rd_T45 l0_1 x5_2).f1.f4).length c606_5]] ?_; (with_reducible refine (sequiturref14_Claim.calls k2 ((rd_T45 l0_1 x5_2).f1.f0) ((rd_T45 l0_1 x5_2).f1.f1) ((rd_T45 l0_1 x5_2).f1.f2) _ _ ((rd_T45 l0_1 x5_2).f1.f3) _ _ ((rd_T45 l0_1 x5_2).f1.f4) t608 _ ?side1 HC607_4.out ?side3 HC607_5.out A15.out).mono ?_); (case side1 => exact cB HR607_4); (case side3 => exact cB HR607_5); rintro e w20 ⟨rfl, hb⟩; refine ⟨_, rfl, ?_⟩; replace BK603 := bK BK603 hb; replace HB := bH hb; clear hb; refine hK.out _ _ (k7 BK603 (kW8 HB hw606_0 hw606_1 hw606_2 hw606_3 hw606_4 hw606_5 hw607_0 hw607_1 (eW4 HB hw607_2 hw607_3 hw607_4 hw607_5))) fun hHeld => ?_
             clear hK K; refine nS 44 ?_; refine pS 16 45 ?_; refine pS 17 46 ?_; refine pS 18 3 ?_; refine done_ (done_of HT_.out (by kernel_rfl)) ?_
             try go_wp2
             go_roundg k2
             case measure => have := HK1.out; have := HK2.out; omega
             case rel => exact ⟨((((x3_2 ++ ((rd_T45 l0_1 x5_2).f0)) ++ (⟨#[58, 32]⟩ : ByteArray)) ++ t608) ++ (⟨#[10]⟩ : ByteArray)), (wrap64 (x5_2 + 1)), eS, eS, H', ⟨by have := HK1.out; have := HK2.out; omega⟩, ⟨bD BK603⟩, ⟨bB⟩⟩
            ·rw [if_neg c17] at H
             exact absurd H (by simp)
           ·rw [if_neg c16] at H
            exact absurd H (by simp)
          ·rw [if_neg c14] at H
           exact absurd H (by simp)
         ·rw [if_neg c13] at H
          exact absurd H (by simp)
        ·rw [if_neg c12] at H
         exact absurd H (by simp)
       ·rw [if_neg c11] at H
        have c11b0 : decide (x5_2 < (l0_1.length : Int)) = false := decide_eq_false c11; clear c11
        by_cases c21 : x3_2.size + 3 ≤ 9223372036854775807
        ·rw [if_pos c21] at H
         have c21b0 := eq_true c21; have c21b1 := decide_eq_true c21
         try have c21b2 := eq_false (Nat.not_lt.2 c21)
         obtain ⟨t609, A22, H⟩ := bO H
         by_cases c23 : (x3_2 ++ (⟨#[124, 45, 32]⟩ : ByteArray)).size + t609.size ≤ 9223372036854775807
         ·rw [if_pos c23] at H
          have c23b0 := eq_true c23; have c23b1 := decide_eq_true c23; have c23n : x3_2.size + 3 + t609.size ≤ 9223372036854775807 := by have h_ := c23; simp only [ByteArray.size_append] at h_; have z0_ : (⟨#[124, 45, 32]⟩ : ByteArray).size = 3 := rfl; first | exact h_ | omega
          have c23b3 := eq_true c23n; have c23b4 : (9223372036854775807 < x3_2.size + 3 + t609.size) = False := eq_false (Nat.not_lt.2 c23n)
          try have c23b2 := eq_false (Nat.not_lt.2 c23)
          by_cases c24 : ((x3_2 ++ (⟨#[124, 45, 32]⟩ : ByteArray)) ++ t609).size + 1 ≤ 9223372036854775807
          ·rw [if_pos c24] at H
           have c24b0 := eq_true c24; have c24b1 := decide_eq_true c24; have c24n : x3_2.size + 3 + t609.size + 1 ≤ 9223372036854775807 := by have h_ := c24; simp only [ByteArray.size_append] at h_; have z0_ : (⟨#[124, 45, 32]⟩ : ByteArray).size = 3 := rfl; first | exact h_ | omega
           have c24b3 := eq_true c24n; have c24b4 : (9223372036854775807 < x3_2.size + 3 + t609.size + 1) = False := eq_false (Nat.not_lt.2 c24n)
           try have c24b2 := eq_false (Nat.not_lt.2 c24)
           obtain rfl := Option.some.inj H; obtain ⟨z25_0, z25_1, z25_2, z25_3, z25_4, z25_5, z25_6, y25_0, y25_1, y25_2, y25_3, y25_4, y25_5, y25_6⟩ := y7 BK603
           go_wp2_with (first | ((with_reducible refine gate_callee (f := 36) rfl ?_); refine gL 51 Tryd.func36 #[.agg #[.int .i64 a0_2, .string a0_3, .string a0_4, .slice A0_5 l0_5.length c0_5, .slice A0_6 l0_6.length c0_6]] ?_; (with_reducible refine (sequiturref14_Claim.calls k2 a0_2 a0_3 a0_4 _ _ l0_5 _ _ l0_6 t609 _ ?side1 HC0_5.out ?side3 HC0_6.out A22.out).mono ?_); (case side1 => exact cB HR0_5); (case side3 => exact cB HR0_6); rintro e w26 ⟨rfl, hb⟩; refine ⟨_, rfl, ?_⟩; replace BK603 := bK BK603 hb; replace HB := bH hb; clear hb))
           go_ret; exact ⟨eW, bB⟩
          ·rw [if_neg c24] at H
           exact absurd H (by simp)
         ·rw [if_neg c23] at H
          exact absurd H (by simp)
        ·rw [if_neg c21] at H
         exact absurd H (by simp)
end Go.Proofs.YtmlkllbaehegjaaDoor.PAll
end
section
namespace Go.Proofs.YtmlkllbaehegjaaDoor.PAll
open Go.RowKit Go.Proofs.YtmlkllbaehegjaaDoorW.PrintWords Go.Proofs.YtmlkllbaehegjaaDoorW.PrintLast Go.Proofs.YtmlkllbaehegjaaDoorW.PrintMore
attribute [local go_sem] max2_int min2_int max_two min_two max_three min_three max_four min_four
set_option linter.unusedVariables false
set_option linter.unusedSimpArgs false
/-! ### show_Term: function 21 -/
def show_Term.f (k : Nat) (a0_0 : Int) (a0_1 : ByteArray) (a0_2 : Int) (l0_3 : List (S53)) : Option (ByteArray) := (show_text.f k a0_0 a0_1 a0_2 l0_3 ([] : List ByteArray)).bind fun t314 => (some t314)
set_option maxHeartbeats 8000000 in
set_option maxRecDepth 100000 in
theorem show_Term.calls (k : Nat) (a0_0 : Int) (a0_1 : ByteArray) (a0_2 : Int) (A0_3 : Option Addr) (c0_3 : Nat) (l0_3 : List (S53)) (r : ByteArray) (w : World) (hG : Laid w) (hr0_3 : Kd.C k53 w A0_3 l0_3.length l0_3) (hc0_3 : l0_3.length ≤ c0_3) (h : show_Term.f k a0_0 a0_1 a0_2 l0_3 = some r) :
    Calls Tryd.prog 21 #[.agg #[.int .i64 a0_0, .string a0_1, .int .i64 a0_2, .slice A0_3 l0_3.length c0_3]] w fun e w' => e = .returned (.string r) ∧ Below w.heap.size w w' := by
  have hu53 := Tryd.underlying53; have HR0_3 := am hr0_3; have HC0_3 := am hc0_3; clear hr0_3 hc0_3; have HG := am hG; clear hG; have HB := am (Below.refl w.heap.size w); have H := h; unfold show_Term.f at H; clear h; obtain ⟨t314, A2, H⟩ := bO H; obtain rfl := Option.some.inj H
  go_enter Tryd.func21, Tryd.ntmps21
  go_wp2_with (first | ((with_reducible refine gate_dst (N := 1) rfl ?_); refine bE 1 #[.int .i64 a0_0, .string a0_1, .int .i64 a0_2, .slice A0_3 l0_3.length c0_3] 53 ?_; intro gb313 w3 BK313 hg hb; have GW313 := bZ hg; have GE313 := bZ hg; replace HB := bH hb; clear hb hg; obtain ⟨z4_0, z4_1, z4_2, z4_3, y4_0, y4_1, y4_2, y4_3⟩ := y4 BK313) | ((with_reducible refine gate_callee (f := 38) rfl ?_); refine gL 4 Tryd.func38 #[.agg #[.int .i64 a0_0, .string a0_1, .int .i64 a0_2, .slice A0_3 l0_3.length c0_3], .slice none 0 0] ?_; (refine (show_text.calls k a0_0 a0_1 a0_2 _ _ l0_3 _ _ ([] : List ByteArray) t314 _ ?side1 ?side2 HC0_3.out ?side4 ?side5 A2.out).mono ?_); (case side1 => exact Laid.below HG.out bB); (case side2 => exact cB HR0_3); (case side4 => exact Kd.C_nil _ _); (case side5 => exact Nat.le_refl _); rintro e w5 ⟨rfl, hb⟩; refine ⟨_, rfl, ?_⟩; replace BK313 := bK BK313 hb; replace HB := bH hb; clear hb))
  go_ret; exact ⟨eW, bB⟩
end Go.Proofs.YtmlkllbaehegjaaDoor.PAll
end
