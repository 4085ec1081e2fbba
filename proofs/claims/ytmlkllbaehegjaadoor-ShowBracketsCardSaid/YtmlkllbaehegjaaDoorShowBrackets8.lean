-- Words of the kit's print, walks printed by a program of this session (wip/prt) in shorter words, and texts of this session, merged (pack.py).
import Derived.Test.YtmlkllbaehegjaaDoorShowBrackets3
import Derived.Test.YtmlkllbaehegjaaDoorShowBrackets7
section
/- Plain laws: how great a term and a claim are; Big, Size, Depth, Right (chapter 8), named. -/
namespace Go.Proofs.YtmlkllbaehegjaaDoor.PAll
open Go.RowKit
open Go.Proofs.YtmlkllbaehegjaaDoor
mutual
def wT : S53 → Nat
  | ⟨_, _, _, l⟩ => 1 + wTs l
def wTs : List S53 → Nat
  | [] => 0
  | t :: r => wT t + wTs r
end
mutual
def wC : S30 → Nat
  | ⟨_, _, _, l, c⟩ => 1 + wTs l + wCs c
def wCs : List S30 → Nat
  | [] => 0
  | t :: r => wC t + wCs r
end
theorem wT_eq (t : S53) : wT t = 1 + wTs t.f3 := by cases t; simp [wT]
theorem wC_eq (c : S30) : wC c = 1 + wTs c.f3 + wCs c.f4 := by cases c; simp [wC]
theorem wTs_drop {l : List S53} {i : Nat} (hi : i < l.length) : wTs (l.drop i) = wT l[i] + wTs (l.drop (i + 1)) := by rw [List.drop_eq_getElem_cons hi, wTs]
theorem wCs_drop {l : List S30} {i : Nat} (hi : i < l.length) : wCs (l.drop i) = wC l[i] + wCs (l.drop (i + 1)) := by rw [List.drop_eq_getElem_cons hi, wCs]
theorem wT_pos (t : S53) : 1 ≤ wT t := by rw [wT_eq]; omega
theorem wC_pos (c : S30) : 1 ≤ wC c := by rw [wC_eq]; omega
theorem wT_mem : ∀ {l : List S53} {i : Nat} (hi : i < l.length), wT l[i] ≤ wTs l
  | t :: r, 0, _ => by simp [wTs]
  | t :: r, i + 1, hi => by
    have := wT_mem (l := r) (i := i) (by simpa using hi)
    simp [wTs]
    omega
theorem wC_mem : ∀ {l : List S30} {i : Nat} (hi : i < l.length), wC l[i] ≤ wCs l
  | t :: r, 0, _ => by simp [wCs]
  | t :: r, i + 1, hi => by
    have := wC_mem (l := r) (i := i) (by simpa using hi)
    simp [wCs]
    omega
theorem wTs_len : ∀ (l : List S53), l.length ≤ wTs l
  | [] => by simp [wTs]
  | t :: r => by
    have := wTs_len r
    have := wT_pos t
    simp [wTs]
    omega
theorem wCs_len : ∀ (l : List S30), l.length ≤ wCs l
  | [] => by simp [wCs]
  | t :: r => by
    have := wCs_len r
    have := wC_pos t
    simp [wCs]
    omega
theorem rdT {l : List S53} {i : Nat} (hi : i < l.length) : rd_T53 l (i : Int) = l[i] := by simp [rd_T53, hi]
theorem rdC {l : List S30} {i : Nat} (hi : i < l.length) : rd_T30 l (i : Int) = l[i] := by simp [rd_T30, hi]
theorem wrapN {x : Int} {n : Nat} (h : x = (n : Int)) (hn : n < 9223372036854775808) : wrap64 x = (n : Int) := by
  subst h
  exact IntWalk.wrap64_in _ (by omega)
/-! ### sequiturbase_Size -/
theorem sequiturbase_Size_ev : ∀ (N : Nat) (t : S53), wT t ≤ N → ∀ m : Nat, m ≤ 100000 → Ev (fun k => sequiturbase_Size.f k t.f0 t.f1 t.f2 t.f3 (m : Int)) ((min (wT t) (m + 1) : Nat) : Int)
  | 0, t, h, m, hm => by
    have := wT_pos t
    omega
  | N + 1, t, h, m, hm => by
    rw [wT_eq] at h
    have loop : ∀ (j i n : Nat), i + j = t.f3.length → i < n → n ≤ m + 1 → Ev (fun k => sequiturbase_Size.l0 k (m : Int) (n : Int) (i : Int) t.f0 t.f1 t.f2 t.f3) ((min (n + wTs (t.f3.drop i)) (m + 1) : Nat) : Int) := by
      intro j
      induction j with
      | zero =>
        intro i n hi hin hn
        refine Ev.step ?_
        simp only [sequiturbase_Size.l0]
        rw [List.drop_eq_nil_of_le (by omega), wTs, Nat.add_zero, Nat.min_eq_left hn]
        exact Ev.neg (by omega) (Ev.const _)
      | succ j ih =>
        intro i n hi hin hn
        have hlt : i < t.f3.length := by omega
        refine Ev.step ?_
        simp only [sequiturbase_Size.l0]
        refine Ev.pos (by omega) ?_
        by_cases hm2 : n ≤ m
        · refine Ev.pos (by omega) (Ev.pos (by omega) ?_)
          have hw := wT_mem hlt
          rw [rdT hlt, wrapN (x := (m : Int) - (n : Int)) (n := m - n) (by omega) (by omega)]
          refine Ev.bind (sequiturbase_Size_ev N t.f3[i] (by omega) (m - n) (by omega)) ?_
          have hp := wT_pos t.f3[i]
          rw [wrapN (x := (n : Int) + ((min (wT t.f3[i]) (m - n + 1) : Nat) : Int)) (n := n + min (wT t.f3[i]) (m - n + 1)) (by omega) (by omega), wrapN (x := (i : Int) + 1) (n := i + 1) (by omega) (by omega)]
          refine (ih (i + 1) (n + min (wT t.f3[i]) (m - n + 1)) (by omega) (by omega) (by omega)).eq ?_
          rw [wTs_drop hlt]
          congr 1
          omega
        · refine Ev.neg (by omega) ((Ev.const _).eq ?_)
          congr 1
          omega
    refine Ev.step ?_
    simp only [sequiturbase_Size.f]
    have := loop t.f3.length 0 1 (by omega) (by omega) (by omega)
    rw [List.drop_zero, ← wT_eq] at this
    exact this
/-! ### sequiturbase_weight -/
theorem sequiturbase_weight_ev : ∀ (N : Nat) (c : S30), wC c ≤ N → ∀ m : Nat, m ≤ 100000 → Ev (fun k => sequiturbase_weight.f k c.f0 c.f1 c.f2 c.f3 c.f4 (m : Int)) ((min (wC c) (m + 1) : Nat) : Int)
  | 0, c, h, m, hm => by
    have := wC_pos c
    omega
  | N + 1, c, h, m, hm => by
    rw [wC_eq] at h
    have loop1 : ∀ (j i n : Nat), i + j = c.f4.length → i < n → n ≤ m + 1 → Ev (fun k => sequiturbase_weight.l1 k (m : Int) (n : Int) (i : Int) c.f0 c.f1 c.f2 c.f3 c.f4) ((min (n + wCs (c.f4.drop i)) (m + 1) : Nat) : Int) := by
      intro j
      induction j with
      | zero =>
        intro i n hi hin hn
        refine Ev.step ?_
        simp only [sequiturbase_weight.l1]
        rw [List.drop_eq_nil_of_le (by omega), wCs, Nat.add_zero, Nat.min_eq_left hn]
        exact Ev.neg (by omega) (Ev.const _)
      | succ j ih =>
        intro i n hi hin hn
        have hlt : i < c.f4.length := by omega
        refine Ev.step ?_
        simp only [sequiturbase_weight.l1]
        refine Ev.pos (by omega) ?_
        by_cases hm2 : n ≤ m
        · refine Ev.pos (by omega) (Ev.pos (by omega) ?_)
          have hw := wC_mem hlt
          rw [rdC hlt, wrapN (x := (m : Int) - (n : Int)) (n := m - n) (by omega) (by omega)]
          refine Ev.bind (sequiturbase_weight_ev N c.f4[i] (by omega) (m - n) (by omega)) ?_
          have hp := wC_pos c.f4[i]
          rw [wrapN (x := (n : Int) + ((min (wC c.f4[i]) (m - n + 1) : Nat) : Int)) (n := n + min (wC c.f4[i]) (m - n + 1)) (by omega) (by omega), wrapN (x := (i : Int) + 1) (n := i + 1) (by omega) (by omega)]
          refine (ih (i + 1) (n + min (wC c.f4[i]) (m - n + 1)) (by omega) (by omega) (by omega)).eq ?_
          rw [wCs_drop hlt]
          congr 1
          omega
        · refine Ev.neg (by omega) ((Ev.const _).eq ?_)
          congr 1
          omega
    have behind : ∀ n : Nat, 1 ≤ n → n ≤ m + 1 → Ev (fun k => sequiturbase_weight.j1 k (m : Int) (n : Int) c.f0 c.f1 c.f2 c.f3 c.f4) ((min (n + wCs c.f4) (m + 1) : Nat) : Int) := by
      intro n h1 hn
      refine Ev.step ?_
      simp only [sequiturbase_weight.j1]
      have := loop1 c.f4.length 0 n (by omega) (by omega) hn
      rw [List.drop_zero] at this
      exact this
    have loop : ∀ (j i n : Nat), i + j = c.f3.length → i < n → n ≤ m + 1 → Ev (fun k => sequiturbase_weight.l0 k (m : Int) (n : Int) (i : Int) c.f0 c.f1 c.f2 c.f3 c.f4) ((min (n + wTs (c.f3.drop i) + wCs c.f4) (m + 1) : Nat) : Int) := by
      intro j
      induction j with
      | zero =>
        intro i n hi hin hn
        refine Ev.step ?_
        simp only [sequiturbase_weight.l0]
        rw [List.drop_eq_nil_of_le (by omega), wTs, Nat.add_zero]
        exact Ev.neg (by omega) (behind n (by omega) hn)
      | succ j ih =>
        intro i n hi hin hn
        have hlt : i < c.f3.length := by omega
        refine Ev.step ?_
        simp only [sequiturbase_weight.l0]
        refine Ev.pos (by omega) ?_
        by_cases hm2 : n ≤ m
        · refine Ev.pos (by omega) (Ev.pos (by omega) ?_)
          rw [rdT hlt, wrapN (x := (m : Int) - (n : Int)) (n := m - n) (by omega) (by omega)]
          refine Ev.bind (sequiturbase_Size_ev _ c.f3[i] (Nat.le_refl _) (m - n) (by omega)) ?_
          have hp := wT_pos c.f3[i]
          rw [wrapN (x := (n : Int) + ((min (wT c.f3[i]) (m - n + 1) : Nat) : Int)) (n := n + min (wT c.f3[i]) (m - n + 1)) (by omega) (by omega), wrapN (x := (i : Int) + 1) (n := i + 1) (by omega) (by omega)]
          refine (ih (i + 1) (n + min (wT c.f3[i]) (m - n + 1)) (by omega) (by omega) (by omega)).eq ?_
          rw [wTs_drop hlt]
          congr 1
          omega
        · refine Ev.neg (by omega) ((behind n (by omega) hn).eq ?_)
          congr 1
          omega
    refine Ev.step ?_
    simp only [sequiturbase_weight.f]
    have := loop c.f3.length 0 1 (by omega) (by omega) (by omega)
    rw [List.drop_zero, ← wC_eq] at this
    exact this
/-! ### sequiturref08_size -/
theorem sequiturref08_size_ev : ∀ (N : Nat) (t : S53), wT t ≤ N → ∀ m : Nat, m ≤ 100000 → Ev (fun k => sequiturref08_size.f k t.f0 t.f1 t.f2 t.f3 (m : Int)) ((min (wT t) (m + 1) : Nat) : Int)
  | 0, t, h, m, hm => by
    have := wT_pos t
    omega
  | N + 1, t, h, m, hm => by
    rw [wT_eq] at h
    have loop : ∀ (j i n : Nat), i + j = t.f3.length → i < n → n ≤ m + 1 → Ev (fun k => sequiturref08_size.l0 k (m : Int) (n : Int) (i : Int) t.f0 t.f1 t.f2 t.f3) ((min (n + wTs (t.f3.drop i)) (m + 1) : Nat) : Int) := by
      intro j
      induction j with
      | zero =>
        intro i n hi hin hn
        refine Ev.step ?_
        simp only [sequiturref08_size.l0]
        rw [List.drop_eq_nil_of_le (by omega), wTs, Nat.add_zero, Nat.min_eq_left hn]
        exact Ev.neg (by omega) (Ev.const _)
      | succ j ih =>
        intro i n hi hin hn
        have hlt : i < t.f3.length := by omega
        refine Ev.step ?_
        simp only [sequiturref08_size.l0]
        refine Ev.pos (by omega) ?_
        by_cases hm2 : n ≤ m
        · refine Ev.pos (by omega) (Ev.pos (by omega) ?_)
          have hw := wT_mem hlt
          rw [rdT hlt, wrapN (x := (m : Int) - (n : Int)) (n := m - n) (by omega) (by omega)]
          refine Ev.bind (sequiturref08_size_ev N t.f3[i] (by omega) (m - n) (by omega)) ?_
          have hp := wT_pos t.f3[i]
          rw [wrapN (x := (n : Int) + ((min (wT t.f3[i]) (m - n + 1) : Nat) : Int)) (n := n + min (wT t.f3[i]) (m - n + 1)) (by omega) (by omega), wrapN (x := (i : Int) + 1) (n := i + 1) (by omega) (by omega)]
          refine (ih (i + 1) (n + min (wT t.f3[i]) (m - n + 1)) (by omega) (by omega) (by omega)).eq ?_
          rw [wTs_drop hlt]
          congr 1
          omega
        · refine Ev.neg (by omega) ((Ev.const _).eq ?_)
          congr 1
          omega
    refine Ev.step ?_
    simp only [sequiturref08_size.f]
    have := loop t.f3.length 0 1 (by omega) (by omega) (by omega)
    rw [List.drop_zero, ← wT_eq] at this
    exact this
/-! ### sequiturref08_weigh -/
theorem sequiturref08_weigh_ev : ∀ (N : Nat) (c : S30), wC c ≤ N → ∀ m : Nat, m ≤ 100000 → Ev (fun k => sequiturref08_weigh.f k c.f0 c.f1 c.f2 c.f3 c.f4 (m : Int)) ((min (wC c) (m + 1) : Nat) : Int)
  | 0, c, h, m, hm => by
    have := wC_pos c
    omega
  | N + 1, c, h, m, hm => by
    rw [wC_eq] at h
    have loop1 : ∀ (j i n : Nat), i + j = c.f4.length → i < n → n ≤ m + 1 → Ev (fun k => sequiturref08_weigh.l1 k (m : Int) (n : Int) (i : Int) c.f0 c.f1 c.f2 c.f3 c.f4) ((min (n + wCs (c.f4.drop i)) (m + 1) : Nat) : Int) := by
      intro j
      induction j with
      | zero =>
        intro i n hi hin hn
        refine Ev.step ?_
        simp only [sequiturref08_weigh.l1]
        rw [List.drop_eq_nil_of_le (by omega), wCs, Nat.add_zero, Nat.min_eq_left hn]
        exact Ev.neg (by omega) (Ev.const _)
      | succ j ih =>
        intro i n hi hin hn
        have hlt : i < c.f4.length := by omega
        refine Ev.step ?_
        simp only [sequiturref08_weigh.l1]
        refine Ev.pos (by omega) ?_
        by_cases hm2 : n ≤ m
        · refine Ev.pos (by omega) (Ev.pos (by omega) ?_)
          have hw := wC_mem hlt
          rw [rdC hlt, wrapN (x := (m : Int) - (n : Int)) (n := m - n) (by omega) (by omega)]
          refine Ev.bind (sequiturref08_weigh_ev N c.f4[i] (by omega) (m - n) (by omega)) ?_
          have hp := wC_pos c.f4[i]
          rw [wrapN (x := (n : Int) + ((min (wC c.f4[i]) (m - n + 1) : Nat) : Int)) (n := n + min (wC c.f4[i]) (m - n + 1)) (by omega) (by omega), wrapN (x := (i : Int) + 1) (n := i + 1) (by omega) (by omega)]
          refine (ih (i + 1) (n + min (wC c.f4[i]) (m - n + 1)) (by omega) (by omega) (by omega)).eq ?_
          rw [wCs_drop hlt]
          congr 1
          omega
        · refine Ev.neg (by omega) ((Ev.const _).eq ?_)
          congr 1
          omega
    have behind : ∀ n : Nat, 1 ≤ n → n ≤ m + 1 → Ev (fun k => sequiturref08_weigh.j1 k (m : Int) (n : Int) c.f0 c.f1 c.f2 c.f3 c.f4) ((min (n + wCs c.f4) (m + 1) : Nat) : Int) := by
      intro n h1 hn
      refine Ev.step ?_
      simp only [sequiturref08_weigh.j1]
      have := loop1 c.f4.length 0 n (by omega) (by omega) hn
      rw [List.drop_zero] at this
      exact this
    have loop : ∀ (j i n : Nat), i + j = c.f3.length → i < n → n ≤ m + 1 → Ev (fun k => sequiturref08_weigh.l0 k (m : Int) (n : Int) (i : Int) c.f0 c.f1 c.f2 c.f3 c.f4) ((min (n + wTs (c.f3.drop i) + wCs c.f4) (m + 1) : Nat) : Int) := by
      intro j
      induction j with
      | zero =>
        intro i n hi hin hn
        refine Ev.step ?_
        simp only [sequiturref08_weigh.l0]
        rw [List.drop_eq_nil_of_le (by omega), wTs, Nat.add_zero]
        exact Ev.neg (by omega) (behind n (by omega) hn)
      | succ j ih =>
        intro i n hi hin hn
        have hlt : i < c.f3.length := by omega
        refine Ev.step ?_
        simp only [sequiturref08_weigh.l0]
        refine Ev.pos (by omega) ?_
        by_cases hm2 : n ≤ m
        · refine Ev.pos (by omega) (Ev.pos (by omega) ?_)
          rw [rdT hlt, wrapN (x := (m : Int) - (n : Int)) (n := m - n) (by omega) (by omega)]
          refine Ev.bind (sequiturref08_size_ev _ c.f3[i] (Nat.le_refl _) (m - n) (by omega)) ?_
          have hp := wT_pos c.f3[i]
          rw [wrapN (x := (n : Int) + ((min (wT c.f3[i]) (m - n + 1) : Nat) : Int)) (n := n + min (wT c.f3[i]) (m - n + 1)) (by omega) (by omega), wrapN (x := (i : Int) + 1) (n := i + 1) (by omega) (by omega)]
          refine (ih (i + 1) (n + min (wT c.f3[i]) (m - n + 1)) (by omega) (by omega) (by omega)).eq ?_
          rw [wTs_drop hlt]
          congr 1
          omega
        · refine Ev.neg (by omega) ((behind n (by omega) hn).eq ?_)
          congr 1
          omega
    refine Ev.step ?_
    simp only [sequiturref08_weigh.f]
    have := loop c.f3.length 0 1 (by omega) (by omega) (by omega)
    rw [List.drop_zero, ← wC_eq] at this
    exact this
end Go.Proofs.YtmlkllbaehegjaaDoor.PAll
end
section
/- Plain laws: chapter 8's Right tells an error at every claim; at OK the claim is of the right form. Plain. -/
namespace Go.Proofs.YtmlkllbaehegjaaDoor.PAll
open Go.RowKit
open Go.Proofs.YtmlkllbaehegjaaDoor
/-- From some number of rounds on F tells something, of which Q holds. -/
def Tot {α : Type} (F : Nat → Option α) (Q : α → Prop) : Prop := ∃ r, Ev F r ∧ Q r
theorem Tot.of {α : Type} {F : Nat → Option α} {Q : α → Prop} {r : α} (h : Ev F r) (q : Q r) : Tot F Q := ⟨r, h, q⟩
theorem Tot.const {α : Type} {Q : α → Prop} {r : α} (q : Q r) : Tot (fun _ => some r) Q := ⟨r, Ev.const r, q⟩
theorem Tot.step {α : Type} {F : Nat → Option α} {Q : α → Prop} (h : Tot (fun k => F (k + 1)) Q) : Tot F Q := by
  obtain ⟨r, h, q⟩ := h
  exact ⟨r, Ev.step h, q⟩
theorem Tot.ite {α : Type} {c : Prop} [Decidable c] {F G : Nat → Option α} {Q : α → Prop} (h : c → Tot F Q) (g : ¬ c → Tot G Q) : Tot (fun k => if c then F k else G k) Q := by
  by_cases hc : c
  · obtain ⟨r, h, q⟩ := h hc
    exact ⟨r, Ev.pos hc h, q⟩
  · obtain ⟨r, h, q⟩ := g hc
    exact ⟨r, Ev.neg hc h, q⟩
theorem Tot.bind {α β : Type} {F : Nat → Option α} {G : Nat → α → Option β} {R : α → Prop} {Q : β → Prop} (h : Tot F R) (g : ∀ a, R a → Tot (fun k => G k a) Q) : Tot (fun k => (F k).bind (G k)) Q := by
  obtain ⟨a, ha, ra⟩ := h
  obtain ⟨r, hr, q⟩ := g a ra
  exact ⟨r, Ev.bind ha hr, q⟩
theorem Tot.mono {α : Type} {F : Nat → Option α} {Q R : α → Prop} (h : Tot F Q) (hi : ∀ r, Q r → R r) : Tot F R := by
  obtain ⟨r, h, q⟩ := h
  exact ⟨r, h, hi r q⟩
mutual
/-- A term of the right form. -/
def RT : S53 → Prop
  | ⟨op, _, num, l⟩ => 1 ≤ op ∧ op ≤ 8 ∧ (op = 2 → 0 ≤ num) ∧ (op = 5 → l.length = 2) ∧ (op = 6 → l.length = 2) ∧ (op = 7 → l.length = 1) ∧ (op = 8 → l.length = 1) ∧ RTs l
def RTs : List S53 → Prop
  | [] => True
  | t :: r => RT t ∧ RTs r
end
mutual
/-- A claim of the right form. -/
def RC : S30 → Prop
  | ⟨op, _, _, l, c⟩ => 1 ≤ op ∧ op ≤ 12 ∧ (op = 4 → l.length = 2) ∧ (op = 5 → l.length = 2) ∧ (op = 6 → c.length = 1) ∧ (op = 11 → c.length = 1) ∧ (op = 12 → c.length = 1) ∧ (7 ≤ op → op ≤ 10 → c.length = 2) ∧ RTs l ∧ RCs c
def RCs : List S30 → Prop
  | [] => True
  | t :: r => RC t ∧ RCs r
end
mutual
/-- All names of at most 100 bytes. -/
def NT : S53 → Prop
  | ⟨_, name, _, l⟩ => name.size ≤ 100 ∧ NTs l
def NTs : List S53 → Prop
  | [] => True
  | t :: r => NT t ∧ NTs r
end
mutual
def NC : S30 → Prop
  | ⟨_, name, sort, l, c⟩ => name.size ≤ 100 ∧ sort.size ≤ 100 ∧ NTs l ∧ NCs c
def NCs : List S30 → Prop
  | [] => True
  | t :: r => NC t ∧ NCs r
end
theorem RTs_snoc {l : List S53} {i : Nat} (hi : i < l.length) (h : RTs (l.drop (i + 1))) (h1 : RT l[i]) : RTs (l.drop i) := by rw [List.drop_eq_getElem_cons hi]; exact ⟨h1, h⟩
theorem RCs_snoc {l : List S30} {i : Nat} (hi : i < l.length) (h : RCs (l.drop (i + 1))) (h1 : RC l[i]) : RCs (l.drop i) := by rw [List.drop_eq_getElem_cons hi]; exact ⟨h1, h⟩
theorem NTs_snoc {l : List S53} {i : Nat} (hi : i < l.length) (h : NTs (l.drop (i + 1))) (h1 : NT l[i]) : NTs (l.drop i) := by rw [List.drop_eq_getElem_cons hi]; exact ⟨h1, h⟩
theorem NCs_snoc {l : List S30} {i : Nat} (hi : i < l.length) (h : NCs (l.drop (i + 1))) (h1 : NC l[i]) : NCs (l.drop i) := by rw [List.drop_eq_getElem_cons hi]; exact ⟨h1, h⟩
theorem tall_tot : ∀ (N : Nat) (t : S53), wT t ≤ N → N ≤ 100000 → ∀ m : Nat, m ≤ 100 → Tot (fun k => sequiturref08_tall.f k t.f0 t.f1 t.f2 t.f3 (m : Int)) (fun v => 0 ≤ v ∧ v ≤ (m : Int) + 1)
  | 0, t, h, _, m, hm => by
    have := wT_pos t
    omega
  | N + 1, t, h, hN, m, hm => by
    rw [wT_eq] at h
    have hlen := wTs_len t.f3
    have loop : ∀ (j i : Nat) (b : Int), i + j = t.f3.length → 0 ≤ b → b ≤ (m : Int) → 1 < m → Tot (fun k => sequiturref08_tall.l0 k (m : Int) b (i : Int) t.f0 t.f1 t.f2 t.f3) (fun v => 0 ≤ v ∧ v ≤ (m : Int) + 1) := by
      intro j
      induction j with
      | zero =>
        intro i b hi h0 hb _
        refine Tot.step ?_
        simp only [sequiturref08_tall.l0]
        refine Tot.ite (fun h => by omega) (fun _ => Tot.const ?_)
        rw [IntWalk.wrap64_in _ (by omega)]
        omega
      | succ j ih =>
        intro i b hi h0 hb h1
        have hlt : i < t.f3.length := by omega
        have hw := wT_mem hlt
        refine Tot.step ?_
        simp only [sequiturref08_tall.l0]
        refine Tot.ite (fun _ => Tot.ite (fun _ => ?_) (fun h => by omega)) (fun h => by omega)
        rw [rdT hlt, wrapN (x := (m : Int) - 1) (n := m - 1) (by omega) (by omega), wrapN (x := (i : Int) + 1) (n := i + 1) (by omega) (by omega)]
        refine Tot.bind (tall_tot N t.f3[i] (by omega) (by omega) (m - 1) (by omega)) (fun a ha => ?_)
        exact Tot.ite (fun _ => ih (i + 1) a (by omega) ha.1 (by omega) h1) (fun _ => ih (i + 1) b (by omega) h0 hb h1)
    refine Tot.step ?_
    simp only [sequiturref08_tall.f]
    exact Tot.ite (fun _ => Tot.const (by omega)) (fun h1 => loop t.f3.length 0 0 (by omega) (by omega) (by omega) (by omega))
theorem deep_tot : ∀ (N : Nat) (t : S30), wC t ≤ N → N ≤ 100000 → ∀ m : Nat, m ≤ 100 → Tot (fun k => sequiturref08_deep.f k t.f0 t.f1 t.f2 t.f3 t.f4 (m : Int)) (fun v => 0 ≤ v ∧ v ≤ (m : Int) + 1)
  | 0, t, h, _, m, hm => by
    have := wC_pos t
    omega
  | N + 1, t, h, hN, m, hm => by
    rw [wC_eq] at h
    have hlen := wCs_len t.f4
    have loop : ∀ (j i : Nat) (b : Int), i + j = t.f4.length → 0 ≤ b → b ≤ (m : Int) → 1 < m → Tot (fun k => sequiturref08_deep.l0 k (m : Int) b (i : Int) t.f0 t.f1 t.f2 t.f3 t.f4) (fun v => 0 ≤ v ∧ v ≤ (m : Int) + 1) := by
      intro j
      induction j with
      | zero =>
        intro i b hi h0 hb _
        refine Tot.step ?_
        simp only [sequiturref08_deep.l0]
        refine Tot.ite (fun h => by omega) (fun _ => Tot.const ?_)
        rw [IntWalk.wrap64_in _ (by omega)]
        omega
      | succ j ih =>
        intro i b hi h0 hb h1
        have hlt : i < t.f4.length := by omega
        have hw := wC_mem hlt
        refine Tot.step ?_
        simp only [sequiturref08_deep.l0]
        refine Tot.ite (fun _ => Tot.ite (fun _ => ?_) (fun h => by omega)) (fun h => by omega)
        rw [rdC hlt, wrapN (x := (m : Int) - 1) (n := m - 1) (by omega) (by omega), wrapN (x := (i : Int) + 1) (n := i + 1) (by omega) (by omega)]
        refine Tot.bind (deep_tot N t.f4[i] (by omega) (by omega) (m - 1) (by omega)) (fun a ha => ?_)
        exact Tot.ite (fun _ => ih (i + 1) a (by omega) ha.1 (by omega) h1) (fun _ => ih (i + 1) b (by omega) h0 hb h1)
    refine Tot.step ?_
    simp only [sequiturref08_deep.f]
    exact Tot.ite (fun _ => Tot.const (by omega)) (fun h1 => loop t.f4.length 0 0 (by omega) (by omega) (by omega) (by omega))
theorem RT_of {t : S53} (h : 1 ≤ t.f0 ∧ t.f0 ≤ 8 ∧ (t.f0 = 2 → 0 ≤ t.f2) ∧ (t.f0 = 5 → t.f3.length = 2) ∧ (t.f0 = 6 → t.f3.length = 2) ∧ (t.f0 = 7 → t.f3.length = 1) ∧ (t.f0 = 8 → t.f3.length = 1) ∧ RTs t.f3) : RT t := by cases t; exact h
theorem RT_to {t : S53} (h : RT t) : 1 ≤ t.f0 ∧ t.f0 ≤ 8 ∧ (t.f0 = 2 → 0 ≤ t.f2) ∧ (t.f0 = 5 → t.f3.length = 2) ∧ (t.f0 = 6 → t.f3.length = 2) ∧ (t.f0 = 7 → t.f3.length = 1) ∧ (t.f0 = 8 → t.f3.length = 1) ∧ RTs t.f3 := by cases t; exact h
theorem parts_tot : ∀ (N : Nat) (t : S53), wT t ≤ N → N ≤ 100000 → Tot (fun k => sequiturref08_termParts.f k t.f0 t.f1 t.f2 t.f3) (fun v => v = 0 → RT t)
  | 0, t, h, _ => by
    have := wT_pos t
    omega
  | N + 1, t, h, hN => by
    rw [wT_eq] at h
    have hlen := wTs_len t.f3
    have loop : ∀ (j i : Nat), i + j = t.f3.length → Tot (fun k => sequiturref08_termParts.l0 k (i : Int) t.f0 t.f1 t.f2 t.f3) (fun v => v = 0 → RTs (t.f3.drop i)) := by
      intro j
      induction j with
      | zero =>
        intro i hi
        refine Tot.step ?_
        simp only [sequiturref08_termParts.l0]
        refine Tot.ite (fun h => by omega) (fun _ => Tot.const (fun _ => ?_))
        rw [List.drop_eq_nil_of_le (by omega)]
        exact trivial
      | succ j ih =>
        intro i hi
        have hlt : i < t.f3.length := by omega
        have hw := wT_mem hlt
        refine Tot.step ?_
        simp only [sequiturref08_termParts.l0]
        refine Tot.ite (fun _ => Tot.ite (fun _ => ?_) (fun h => by omega)) (fun h => by omega)
        rw [rdT hlt, wrapN (x := (i : Int) + 1) (n := i + 1) (by omega) (by omega)]
        refine Tot.bind (parts_tot N t.f3[i] (by omega) (by omega)) (fun a ha => ?_)
        exact Tot.ite (fun h0 => (ih (i + 1) (by omega)).mono (fun r hr h => RTs_snoc hlt (hr h) (ha h0))) (fun h0 => Tot.const (fun h => absurd h h0))
    have j6 : ∀ b : Bool, Tot (fun k => sequiturref08_termParts.j6 k b t.f0 t.f1 t.f2 t.f3) (fun v => v = 0 → b = false ∧ RTs t.f3) := by
      intro b
      refine Tot.step ?_
      simp only [sequiturref08_termParts.j6]
      refine Tot.ite (fun _ => Tot.const (fun h => by cases h)) (fun hb => ?_)
      have := loop t.f3.length 0 (by omega)
      rw [List.drop_zero] at this
      exact this.mono (fun r hr h => ⟨by simpa using hb, hr h⟩)
    have j5 : ∀ w : Int, Tot (fun k => sequiturref08_termParts.j5 k w t.f0 t.f1 t.f2 t.f3) (fun v => v = 0 → (t.f0 ≠ 3 → (t.f3.length : Int) = w) ∧ RTs t.f3) := by
      intro w
      refine Tot.step ?_
      simp only [sequiturref08_termParts.j5]
      refine Tot.ite (fun h3 => Tot.ite (fun _ => (j6 true).mono (fun r hr h => ?_)) (fun _ => (j6 false).mono (fun r hr h => ?_))) (fun h3 => (j6 _).mono (fun r hr h => ?_))
      · exact absurd (hr h).1 (by simp)
      · exact ⟨fun hn => absurd h3 hn, (hr h).2⟩
      · exact ⟨fun _ => by simpa using (hr h).1, (hr h).2⟩
    have j4 : ∀ (w : Int) (b : Bool), Tot (fun k => sequiturref08_termParts.j4 k w b t.f0 t.f1 t.f2 t.f3) (fun v => v = 0 → (t.f0 ≠ 3 → (t.f3.length : Int) = if b = true then 1 else w) ∧ RTs t.f3) := by
      intro w b
      refine Tot.step ?_
      simp only [sequiturref08_termParts.j4]
      refine Tot.ite (fun hb => (j5 1).mono (fun r hr h => ?_)) (fun hb => (j5 w).mono (fun r hr h => ?_))
      · rw [if_pos hb]; exact hr h
      · rw [if_neg hb]; exact hr h
    have j3 : ∀ b : Bool, (b = decide (t.f0 = 5 ∨ t.f0 = 6)) → Tot (fun k => sequiturref08_termParts.j3 k 0 t.f0 b t.f0 t.f1 t.f2 t.f3) (fun v => v = 0 → (t.f0 = 5 → t.f3.length = 2) ∧ (t.f0 = 6 → t.f3.length = 2) ∧ (t.f0 = 7 → t.f3.length = 1) ∧ (t.f0 = 8 → t.f3.length = 1) ∧ RTs t.f3) := by
      intro b hb
      refine Tot.step ?_
      simp only [sequiturref08_termParts.j3]
      refine Tot.ite (fun h1 => (j5 2).mono (fun r hr h => ?_)) (fun h1 => Tot.ite (fun h7 => (j4 0 _).mono (fun r hr h => ?_)) (fun h7 => (j4 0 _).mono (fun r hr h => ?_)))
      · obtain ⟨q1, q2⟩ := hr h
        have hb2 : t.f0 = 5 ∨ t.f0 = 6 := by rw [h1] at hb; exact of_decide_eq_true hb.symm
        have q3 := q1 (by omega)
        exact ⟨fun _ => by omega, fun _ => by omega, fun _ => by omega, fun _ => by omega, q2⟩
      · obtain ⟨q1, q2⟩ := hr h
        have q3 := q1 (by omega)
        rw [if_pos (by simpa using h7)] at q3
        exact ⟨fun _ => by omega, fun _ => by omega, fun _ => by omega, fun _ => by omega, q2⟩
      · obtain ⟨q1, q2⟩ := hr h
        have hb2 : ¬ (t.f0 = 5 ∨ t.f0 = 6) := by
          have h1' : b = false := by simpa using h1
          rw [h1'] at hb
          exact of_decide_eq_false hb.symm
        refine ⟨fun _ => by omega, fun _ => by omega, fun _ => by omega, fun h8 => ?_, q2⟩
        have q3 := q1 (by omega)
        rw [if_pos (by simpa using h8)] at q3
        omega
    have j2 : ∀ b : Bool, Tot (fun k => sequiturref08_termParts.j2 k b t.f0 t.f1 t.f2 t.f3) (fun v => v = 0 → b = false ∧ (t.f0 = 5 → t.f3.length = 2) ∧ (t.f0 = 6 → t.f3.length = 2) ∧ (t.f0 = 7 → t.f3.length = 1) ∧ (t.f0 = 8 → t.f3.length = 1) ∧ RTs t.f3) := by
      intro b
      refine Tot.step ?_
      simp only [sequiturref08_termParts.j2]
      refine Tot.ite (fun _ => Tot.const (fun h => by cases h)) (fun hb => Tot.ite (fun h5 => (j3 _ (by simp [h5])).mono (fun r hr h => ⟨by simpa using hb, hr h⟩)) (fun h5 => (j3 _ (by simp [h5]; rfl)).mono (fun r hr h => ⟨by simpa using hb, hr h⟩)))
    have yes : 1 ≤ t.f0 → t.f0 ≤ 8 → (t.f0 = 2 → 0 ≤ t.f2) → ∀ b : Bool, Tot (fun k => sequiturref08_termParts.j2 k b t.f0 t.f1 t.f2 t.f3) (fun v => v = 0 → RT t) := fun a1 a2 a3 b => (j2 b).mono (fun r hr h => RT_of ⟨a1, a2, a3, (hr h).2⟩)
    have j1 : ∀ a b : Bool, Tot (fun k => sequiturref08_termParts.j1 k a b t.f0 t.f1 t.f2 t.f3) (fun v => v = 0 → RT t) := by
      intro a b
      have no : Tot (fun k => sequiturref08_termParts.j2 k true t.f0 t.f1 t.f2 t.f3) (fun v => v = 0 → RT t) := (j2 true).mono (fun r hr h => absurd (hr h).1 (by simp))
      have low : 1 ≤ t.f0 → t.f0 ≤ 8 → t.f0 = 2 → Tot (fun k => sequiturref08_termParts.j2 k (decide (t.f2 < 0)) t.f0 t.f1 t.f2 t.f3) (fun v => v = 0 → RT t) := fun a1 a2 _ => (j2 _).mono (fun r hr h => RT_of ⟨a1, a2, fun _ => by have := of_decide_eq_false (hr h).1; omega, (hr h).2⟩)
      refine Tot.step ?_
      simp only [sequiturref08_termParts.j1]
      refine Tot.ite (fun _ => no) (fun g1 => Tot.ite (fun _ => no) (fun g2 => ?_))
      have a1 : 1 ≤ t.f0 := by omega
      have a2 : t.f0 ≤ 8 := by omega
      have rest : Tot (fun k => if b = true then (if t.f0 = 2 then (sequiturref08_termParts.j2 k (decide (t.f2 < 0)) t.f0 t.f1 t.f2 t.f3) else (sequiturref08_termParts.j2 k false t.f0 t.f1 t.f2 t.f3)) else (if t.f2 = 0 then (if t.f0 = 2 then (sequiturref08_termParts.j2 k (decide (t.f2 < 0)) t.f0 t.f1 t.f2 t.f3) else (sequiturref08_termParts.j2 k false t.f0 t.f1 t.f2 t.f3)) else (sequiturref08_termParts.j2 k true t.f0 t.f1 t.f2 t.f3))) (fun v => v = 0 → RT t) :=
        Tot.ite (fun _ => Tot.ite (fun h2 => low a1 a2 h2) (fun h2 => yes a1 a2 (fun e => absurd e h2) false)) (fun _ => Tot.ite (fun _ => Tot.ite (fun h2 => low a1 a2 h2) (fun h2 => yes a1 a2 (fun e => absurd e h2) false)) (fun _ => no))
      exact Tot.ite (fun _ => rest) (fun _ => Tot.ite (fun _ => rest) (fun _ => no))
    have j0 : ∀ a : Bool, Tot (fun k => sequiturref08_termParts.j0 k a t.f0 t.f1 t.f2 t.f3) (fun v => v = 0 → RT t) := by
      intro a
      refine Tot.step ?_
      simp only [sequiturref08_termParts.j0]
      exact Tot.ite (fun _ => j1 _ _) (fun _ => Tot.ite (fun _ => j1 _ _) (fun _ => j1 _ _))
    refine Tot.step ?_
    simp only [sequiturref08_termParts.f]
    exact Tot.ite (fun _ => j0 _) (fun _ => j0 _)
theorem termRight_tot (t : S53) (h : wT t ≤ 100000) : Tot (fun k => sequiturref08_TermRight.f k t.f0 t.f1 t.f2 t.f3) (fun v => v = 0 → RT t) := by
  simp only [sequiturref08_TermRight.f]
  refine Tot.bind (tall_tot _ t (Nat.le_refl _) h 65 (by omega)) (fun a _ => Tot.ite (fun _ => Tot.const (fun h => by cases h)) (fun _ => ?_))
  refine Tot.bind (Tot.of (sequiturref08_size_ev _ t (Nat.le_refl _) 4096 (by omega)) trivial) (fun b (_ : True) => Tot.ite (fun _ => Tot.const (fun h => by cases h)) (fun _ => ?_))
  exact Tot.bind (parts_tot _ t (Nat.le_refl _) h) (fun c hc => Tot.const hc)
theorem RC_of {t : S30} (h : 1 ≤ t.f0 ∧ t.f0 ≤ 12 ∧ (t.f0 = 4 → t.f3.length = 2) ∧ (t.f0 = 5 → t.f3.length = 2) ∧ (t.f0 = 6 → t.f4.length = 1) ∧ (t.f0 = 11 → t.f4.length = 1) ∧ (t.f0 = 12 → t.f4.length = 1) ∧ (7 ≤ t.f0 → t.f0 ≤ 10 → t.f4.length = 2) ∧ RTs t.f3 ∧ RCs t.f4) : RC t := by cases t; exact h
theorem RC_to {t : S30} (h : RC t) : 1 ≤ t.f0 ∧ t.f0 ≤ 12 ∧ (t.f0 = 4 → t.f3.length = 2) ∧ (t.f0 = 5 → t.f3.length = 2) ∧ (t.f0 = 6 → t.f4.length = 1) ∧ (t.f0 = 11 → t.f4.length = 1) ∧ (t.f0 = 12 → t.f4.length = 1) ∧ (7 ≤ t.f0 → t.f0 ≤ 10 → t.f4.length = 2) ∧ RTs t.f3 ∧ RCs t.f4 := by cases t; exact h
/-- What an Op wants. -/
def Wants (op : Int) (r : Int × Int) : Prop := (op = 4 → r.1 = 2) ∧ (op = 5 → r.1 = 2) ∧ (op = 6 → r.2 = 1) ∧ (op = 11 → r.2 = 1) ∧ (op = 12 → r.2 = 1) ∧ (7 ≤ op → op ≤ 10 → r.2 = 2)
theorem wants_tot (op : Int) : Tot (fun k => sequiturref08_wants.f k op) (Wants op) := by
  have j2 : ∀ b : Bool, b = decide (7 ≤ op ∧ op ≤ 10) → ¬ (op = 4 ∨ op = 5 ∨ op = 6 ∨ op = 11 ∨ op = 12) → Tot (fun k => sequiturref08_wants.j2 k b) (Wants op) := by
    intro b hb h
    refine Tot.step ?_
    simp only [sequiturref08_wants.j2]
    refine Tot.ite (fun h1 => Tot.const ?_) (fun h1 => Tot.const ?_)
    · exact ⟨fun _ => by omega, fun _ => by omega, fun _ => by omega, fun _ => by omega, fun _ => by omega, fun _ _ => rfl⟩
    · have h1' : b = false := by simpa using h1
      rw [h1'] at hb
      have := of_decide_eq_false hb.symm
      exact ⟨fun _ => by omega, fun _ => by omega, fun _ => by omega, fun _ => by omega, fun _ => by omega, fun _ _ => by omega⟩
  have j1 : ∀ b : Bool, b = decide (op = 6 ∨ op = 11 ∨ op = 12) → ¬ (op = 4 ∨ op = 5) → Tot (fun k => sequiturref08_wants.j1 k op b) (Wants op) := by
    intro b hb h
    refine Tot.step ?_
    simp only [sequiturref08_wants.j1]
    refine Tot.ite (fun h1 => Tot.const ?_) (fun h1 => ?_)
    · rw [h1] at hb
      have := of_decide_eq_true hb.symm
      exact ⟨fun _ => by omega, fun _ => by omega, fun _ => rfl, fun _ => rfl, fun _ => rfl, fun _ _ => by omega⟩
    · have h1' : b = false := by simpa using h1
      rw [h1'] at hb
      have := of_decide_eq_false hb.symm
      have e : ∀ n : Int, 7 ≤ n → n ≤ 10 → op = n → (op == n) = decide (7 ≤ op ∧ op ≤ 10) := fun n h7 h10 e => by subst e; simp [h7, h10]
      refine Tot.ite (fun h => j2 _ (e 7 (by omega) (by omega) h) (by omega)) (fun h => Tot.ite (fun h => j2 _ (e 8 (by omega) (by omega) h) (by omega)) (fun h => Tot.ite (fun h => j2 _ (e 9 (by omega) (by omega) h) (by omega)) (fun h => j2 _ ?_ (by omega))))
      by_cases h10 : op = 10
      · exact e 10 (by omega) (by omega) h10
      · rw [beq_eq_false_iff_ne.mpr h10]
        exact (decide_eq_false (by omega)).symm
  have j0 : ∀ b : Bool, b = decide (op = 4 ∨ op = 5) → Tot (fun k => sequiturref08_wants.j0 k op b) (Wants op) := by
    intro b hb
    refine Tot.step ?_
    simp only [sequiturref08_wants.j0]
    refine Tot.ite (fun h1 => Tot.const ?_) (fun h1 => ?_)
    · rw [h1] at hb
      have := of_decide_eq_true hb.symm
      exact ⟨fun _ => rfl, fun _ => rfl, fun _ => by omega, fun _ => by omega, fun _ => by omega, fun _ _ => by omega⟩
    · have h1' : b = false := by simpa using h1
      rw [h1'] at hb
      have := of_decide_eq_false hb.symm
      have e : ∀ n : Int, n = 6 ∨ n = 11 ∨ n = 12 → op = n → (op == n) = decide (op = 6 ∨ op = 11 ∨ op = 12) := fun n hn e => by subst e; simp [hn]
      refine Tot.ite (fun h => j1 _ (e 6 (by omega) h) (by omega)) (fun h => Tot.ite (fun h => j1 _ (e 11 (by omega) h) (by omega)) (fun h => j1 _ ?_ (by omega)))
      by_cases h12 : op = 12
      · exact e 12 (by omega) h12
      · rw [beq_eq_false_iff_ne.mpr h12]
        exact (decide_eq_false (by omega)).symm
  simp only [sequiturref08_wants.f]
  refine Tot.ite (fun h => j0 _ (by simp [h])) (fun h => j0 _ ?_)
  by_cases h5 : op = 5
  · simp [h5]
  · rw [beq_eq_false_iff_ne.mpr h5]
    exact (decide_eq_false (by omega)).symm
theorem cparts_tot : ∀ (N : Nat) (t : S30), wC t ≤ N → N ≤ 100000 → Tot (fun k => sequiturref08_parts.f k t.f0 t.f1 t.f2 t.f3 t.f4) (fun v => v = 0 → RC t)
  | 0, t, h, _ => by
    have := wC_pos t
    omega
  | N + 1, t, h, hN => by
    rw [wC_eq] at h
    have hlen3 := wTs_len t.f3
    have hlen4 := wCs_len t.f4
    have loop1 : ∀ (j i : Nat), i + j = t.f4.length → Tot (fun k => sequiturref08_parts.l1 k (i : Int) t.f0 t.f1 t.f2 t.f3 t.f4) (fun v => v = 0 → RCs (t.f4.drop i)) := by
      intro j
      induction j with
      | zero =>
        intro i hi
        refine Tot.step ?_
        simp only [sequiturref08_parts.l1]
        refine Tot.ite (fun h => by omega) (fun _ => Tot.const (fun _ => ?_))
        rw [List.drop_eq_nil_of_le (by omega)]
        exact trivial
      | succ j ih =>
        intro i hi
        have hlt : i < t.f4.length := by omega
        have hw := wC_mem hlt
        refine Tot.step ?_
        simp only [sequiturref08_parts.l1]
        refine Tot.ite (fun _ => Tot.ite (fun _ => ?_) (fun h => by omega)) (fun h => by omega)
        rw [rdC hlt, wrapN (x := (i : Int) + 1) (n := i + 1) (by omega) (by omega)]
        refine Tot.bind (cparts_tot N t.f4[i] (by omega) (by omega)) (fun a ha => ?_)
        exact Tot.ite (fun h0 => (ih (i + 1) (by omega)).mono (fun r hr h => RCs_snoc hlt (hr h) (ha h0))) (fun h0 => Tot.const (fun h => absurd h h0))
    have loop : ∀ (j i : Nat), i + j = t.f3.length → Tot (fun k => sequiturref08_parts.l0 k (i : Int) t.f0 t.f1 t.f2 t.f3 t.f4) (fun v => v = 0 → RTs (t.f3.drop i) ∧ RCs t.f4) := by
      intro j
      induction j with
      | zero =>
        intro i hi
        refine Tot.step ?_
        simp only [sequiturref08_parts.l0]
        refine Tot.ite (fun h => by omega) (fun _ => ?_)
        have := loop1 t.f4.length 0 (by omega)
        rw [List.drop_zero] at this
        refine this.mono (fun r hr h => ⟨?_, hr h⟩)
        rw [List.drop_eq_nil_of_le (by omega)]
        exact trivial
      | succ j ih =>
        intro i hi
        have hlt : i < t.f3.length := by omega
        have hw := wT_mem hlt
        refine Tot.step ?_
        simp only [sequiturref08_parts.l0]
        refine Tot.ite (fun _ => Tot.ite (fun _ => ?_) (fun h => by omega)) (fun h => by omega)
        rw [rdT hlt, wrapN (x := (i : Int) + 1) (n := i + 1) (by omega) (by omega)]
        refine Tot.bind (termRight_tot t.f3[i] (by omega)) (fun a ha => ?_)
        exact Tot.ite (fun h0 => (ih (i + 1) (by omega)).mono (fun r hr h => ⟨RTs_snoc hlt (hr h).1 (ha h0), (hr h).2⟩)) (fun h0 => Tot.const (fun h => absurd h h0))
    have j3 : ∀ b : Bool, Tot (fun k => sequiturref08_parts.j3 k b t.f0 t.f1 t.f2 t.f3 t.f4) (fun v => v = 0 → b = false ∧ RTs t.f3 ∧ RCs t.f4) := by
      intro b
      refine Tot.step ?_
      simp only [sequiturref08_parts.j3]
      refine Tot.ite (fun _ => Tot.const (fun h => by cases h)) (fun hb => ?_)
      have := loop t.f3.length 0 (by omega)
      rw [List.drop_zero] at this
      exact this.mono (fun r hr h => ⟨by simpa using hb, hr h⟩)
    have j2 : ∀ a b : Int, Tot (fun k => sequiturref08_parts.j2 k a b t.f0 t.f1 t.f2 t.f3 t.f4) (fun v => v = 0 → (t.f3.length : Int) = a ∧ (t.f4.length : Int) = b ∧ RTs t.f3 ∧ RCs t.f4) := by
      intro a b
      refine Tot.step ?_
      simp only [sequiturref08_parts.j2]
      refine Tot.ite (fun h1 => (j3 _).mono (fun r hr h => ⟨h1, by simpa using (hr h).1, (hr h).2⟩)) (fun _ => (j3 true).mono (fun r hr h => absurd (hr h).1 (by simp)))
    have j1 : ∀ b : Bool, 1 ≤ t.f0 ∧ t.f0 ≤ 12 ∨ b = true → Tot (fun k => sequiturref08_parts.j1 k b t.f0 t.f1 t.f2 t.f3 t.f4) (fun v => v = 0 → RC t) := by
      intro b ho
      refine Tot.step ?_
      simp only [sequiturref08_parts.j1]
      refine Tot.ite (fun _ => Tot.const (fun h => by cases h)) (fun hb => ?_)
      obtain ⟨o1, o2⟩ : 1 ≤ t.f0 ∧ t.f0 ≤ 12 := by
        rcases ho with ho | ho
        · exact ho
        · exact absurd ho hb
      refine Tot.bind (wants_tot t.f0) (fun w hw => ?_)
      obtain ⟨w1, w2, w3, w4, w5, w6⟩ := hw
      refine Tot.ite (fun h3 => Tot.ite (fun _ => Tot.const (fun h => by cases h)) (fun _ => (j2 _ _).mono (fun r hr h => ?_))) (fun h3 => (j2 _ _).mono (fun r hr h => ?_))
      · obtain ⟨q1, q2, q3, q4⟩ := hr h
        exact RC_of ⟨o1, o2, fun _ => by omega, fun _ => by omega, fun _ => by omega, fun _ => by omega, fun _ => by omega, fun _ _ => by omega, q3, q4⟩
      · obtain ⟨q1, q2, q3, q4⟩ := hr h
        exact RC_of ⟨o1, o2, fun e => by have := w1 e; omega, fun e => by have := w2 e; omega, fun e => by have := w3 e; omega, fun e => by have := w4 e; omega, fun e => by have := w5 e; omega, fun e f => by have := w6 e f; omega, q3, q4⟩
    have j0 : ∀ b : Bool, Tot (fun k => sequiturref08_parts.j0 k b t.f0 t.f1 t.f2 t.f3 t.f4) (fun v => v = 0 → RC t) := by
      intro b
      refine Tot.step ?_
      simp only [sequiturref08_parts.j0]
      refine Tot.ite (fun _ => j1 _ (.inr rfl)) (fun g1 => Tot.ite (fun _ => j1 _ (.inr rfl)) (fun g2 => ?_))
      have ho : 1 ≤ t.f0 ∧ t.f0 ≤ 12 := by omega
      exact Tot.ite (fun _ => j1 _ (.inl ho)) (fun _ => Tot.ite (fun _ => j1 _ (.inl ho)) (fun _ => Tot.ite (fun _ => j1 _ (.inl ho)) (fun _ => j1 _ (.inr rfl))))
    refine Tot.step ?_
    simp only [sequiturref08_parts.f]
    exact Tot.ite (fun _ => j0 _) (fun _ => j0 _)
theorem right_tot (t : S30) (h : wC t ≤ 100000) : Tot (fun k => sequiturref08_Right.f k t.f0 t.f1 t.f2 t.f3 t.f4) (fun v => v = 0 → RC t) := by
  simp only [sequiturref08_Right.f, sequiturref08_Depth.f, sequiturref08_Size.f]
  refine Tot.bind (Tot.bind (deep_tot _ t (Nat.le_refl _) h 65 (by omega)) (fun a _ => Tot.const trivial)) (fun a (_ : True) => Tot.ite (fun _ => Tot.const (fun h => by cases h)) (fun _ => ?_))
  refine Tot.bind (R := fun _ => True) (Tot.bind (Tot.of (sequiturref08_weigh_ev _ t (Nat.le_refl _) 4096 (by omega)) trivial) (fun b (_ : True) => Tot.ite (fun _ => Tot.const trivial) (fun _ => Tot.const trivial))) (fun b (_ : True) => Tot.ite (fun _ => Tot.const (fun h => by cases h)) (fun _ => ?_))
  exact Tot.bind (cparts_tot _ t (Nat.le_refl _) h) (fun c hc => Tot.const hc)
theorem NT_of {t : S53} (h : t.f1.size ≤ 100 ∧ NTs t.f3) : NT t := by cases t; exact h
theorem NC_of {t : S30} (h : t.f1.size ≤ 100 ∧ t.f2.size ≤ 100 ∧ NTs t.f3 ∧ NCs t.f4) : NC t := by cases t; exact h
theorem NT_to {t : S53} (h : NT t) : t.f1.size ≤ 100 ∧ NTs t.f3 := by cases t; exact h
theorem NC_to {t : S30} (h : NC t) : t.f1.size ≤ 100 ∧ t.f2.size ≤ 100 ∧ NTs t.f3 ∧ NCs t.f4 := by cases t; exact h
theorem short_tot : ∀ (N : Nat) (t : S53), wT t ≤ N → N ≤ 100000 → Tot (fun k => sequiturlaw14_short.f k t.f0 t.f1 t.f2 t.f3) (fun v => v = true → NT t)
  | 0, t, h, _ => by
    have := wT_pos t
    omega
  | N + 1, t, h, hN => by
    rw [wT_eq] at h
    have hlen := wTs_len t.f3
    have loop : ∀ (j i : Nat), i + j = t.f3.length → Tot (fun k => sequiturlaw14_short.l0 k t.f3 (t.f3.length : Int) (i : Int) t.f0 t.f1 t.f2 t.f3) (fun v => v = true → t.f1.size ≤ 100 ∧ NTs (t.f3.drop i)) := by
      intro j
      induction j with
      | zero =>
        intro i hi
        refine Tot.step ?_
        simp only [sequiturlaw14_short.l0]
        refine Tot.ite (fun h => by omega) (fun _ => Tot.const (fun h => ⟨by have := of_decide_eq_true h; omega, ?_⟩))
        rw [List.drop_eq_nil_of_le (by omega)]
        exact trivial
      | succ j ih =>
        intro i hi
        have hlt : i < t.f3.length := by omega
        have hw := wT_mem hlt
        refine Tot.step ?_
        simp only [sequiturlaw14_short.l0]
        refine Tot.ite (fun _ => Tot.ite (fun _ => Tot.ite (fun _ => ?_) (fun h => by omega)) (fun h => by omega)) (fun h => by omega)
        rw [rdT hlt, wrapN (x := (i : Int) + 1) (n := i + 1) (by omega) (by omega)]
        refine Tot.bind (short_tot N t.f3[i] (by omega) (by omega)) (fun a ha => ?_)
        exact Tot.ite (fun h0 => (ih (i + 1) (by omega)).mono (fun r hr h => ⟨(hr h).1, NTs_snoc hlt (hr h).2 (ha h0)⟩)) (fun h0 => Tot.const (fun h => by cases h))
    refine Tot.step ?_
    simp only [sequiturlaw14_short.f]
    have := loop t.f3.length 0 (by omega)
    rw [List.drop_zero] at this
    exact this.mono (fun r hr h => NT_of (hr h))
theorem named_tot : ∀ (N : Nat) (t : S30), wC t ≤ N → N ≤ 100000 → Tot (fun k => sequiturlaw14_named.f k t.f0 t.f1 t.f2 t.f3 t.f4) (fun v => v = true → NC t)
  | 0, t, h, _ => by
    have := wC_pos t
    omega
  | N + 1, t, h, hN => by
    rw [wC_eq] at h
    have hlen3 := wTs_len t.f3
    have hlen4 := wCs_len t.f4
    have loop1 : ∀ (j i : Nat), i + j = t.f4.length → Tot (fun k => sequiturlaw14_named.l1 k t.f4 (t.f4.length : Int) (i : Int) t.f0 t.f1 t.f2 t.f3 t.f4) (fun v => v = true → t.f1.size ≤ 100 ∧ t.f2.size ≤ 100 ∧ NCs (t.f4.drop i)) := by
      intro j
      induction j with
      | zero =>
        intro i hi
        refine Tot.step ?_
        simp only [sequiturlaw14_named.l1]
        refine Tot.ite (fun h => by omega) (fun _ => Tot.ite (fun h1 => Tot.const (fun h => ⟨by omega, by have := of_decide_eq_true h; omega, ?_⟩)) (fun _ => Tot.const (fun h => by cases h)))
        rw [List.drop_eq_nil_of_le (by omega)]
        exact trivial
      | succ j ih =>
        intro i hi
        have hlt : i < t.f4.length := by omega
        have hw := wC_mem hlt
        refine Tot.step ?_
        simp only [sequiturlaw14_named.l1]
        refine Tot.ite (fun _ => Tot.ite (fun _ => Tot.ite (fun _ => ?_) (fun h => by omega)) (fun h => by omega)) (fun h => by omega)
        rw [rdC hlt, wrapN (x := (i : Int) + 1) (n := i + 1) (by omega) (by omega)]
        refine Tot.bind (named_tot N t.f4[i] (by omega) (by omega)) (fun a ha => ?_)
        exact Tot.ite (fun h0 => (ih (i + 1) (by omega)).mono (fun r hr h => ⟨(hr h).1, (hr h).2.1, NCs_snoc hlt (hr h).2.2 (ha h0)⟩)) (fun h0 => Tot.const (fun h => by cases h))
    have loop : ∀ (j i : Nat), i + j = t.f3.length → Tot (fun k => sequiturlaw14_named.l0 k t.f3 (t.f3.length : Int) (i : Int) t.f0 t.f1 t.f2 t.f3 t.f4) (fun v => v = true → t.f1.size ≤ 100 ∧ t.f2.size ≤ 100 ∧ NTs (t.f3.drop i) ∧ NCs t.f4) := by
      intro j
      induction j with
      | zero =>
        intro i hi
        refine Tot.step ?_
        simp only [sequiturlaw14_named.l0]
        refine Tot.ite (fun h => by omega) (fun _ => ?_)
        have := loop1 t.f4.length 0 (by omega)
        rw [List.drop_zero] at this
        refine this.mono (fun r hr h => ⟨(hr h).1, (hr h).2.1, ?_, (hr h).2.2⟩)
        rw [List.drop_eq_nil_of_le (by omega)]
        exact trivial
      | succ j ih =>
        intro i hi
        have hlt : i < t.f3.length := by omega
        refine Tot.step ?_
        simp only [sequiturlaw14_named.l0]
        refine Tot.ite (fun _ => Tot.ite (fun _ => Tot.ite (fun _ => ?_) (fun h => by omega)) (fun h => by omega)) (fun h => by omega)
        have hw := wT_mem hlt
        rw [rdT hlt, wrapN (x := (i : Int) + 1) (n := i + 1) (by omega) (by omega)]
        refine Tot.bind (short_tot _ t.f3[i] (Nat.le_refl _) (by omega)) (fun a ha => ?_)
        exact Tot.ite (fun h0 => (ih (i + 1) (by omega)).mono (fun r hr h => ⟨(hr h).1, (hr h).2.1, NTs_snoc hlt (hr h).2.2.1 (ha h0), (hr h).2.2.2⟩)) (fun h0 => Tot.const (fun h => by cases h))
    refine Tot.step ?_
    simp only [sequiturlaw14_named.f]
    have := loop t.f3.length 0 (by omega)
    rw [List.drop_zero] at this
    exact this.mono (fun r hr h => NC_of (hr h))
/-- A claim that may be shown: at most so many parts, of the right form, with short names. -/
theorem plain_tot (t : S30) (most : Nat) (hm : most ≤ 1000) : Tot (fun k => sequiturlaw14_Plain.f k t.f0 t.f1 t.f2 t.f3 t.f4 (most : Int)) (fun v => v = true → wC t ≤ most ∧ RC t ∧ NC t) := by
  simp only [sequiturlaw14_Plain.f, sequiturbase_Big.f]
  refine Tot.bind (Tot.bind (Tot.of (Q := fun v => v = ((min (wC t) (most + 1) : Nat) : Int)) (sequiturbase_weight_ev _ t (Nat.le_refl _) most (by omega)) rfl) (fun b hb => Tot.const (Q := fun r => r = false → wC t ≤ most) (fun h => by have := of_decide_eq_false h; omega))) (fun b hb => ?_)
  refine Tot.ite (fun _ => Tot.const (fun h => by cases h)) (fun h1 => ?_)
  have hw := hb (by simpa using h1)
  refine Tot.bind (right_tot t (by omega)) (fun e he => Tot.ite (fun h0 => ?_) (fun _ => Tot.const (fun h => by cases h)))
  exact Tot.bind (named_tot _ t (Nat.le_refl _) (by omega)) (fun c hc => Tot.const (fun h => ⟨hw, he h0, hc h⟩))
end Go.Proofs.YtmlkllbaehegjaaDoor.PAll
end
section
namespace Go.Proofs.YtmlkllbaehegjaaDoor.PAll
open Go.RowKit Go.Proofs.YtmlkllbaehegjaaDoorW.PrintWords Go.Proofs.YtmlkllbaehegjaaDoorW.PrintLast Go.Proofs.YtmlkllbaehegjaaDoorW.PrintMore
attribute [local go_sem] max2_int min2_int max_two min_two max_three min_three max_four min_four
set_option linter.unusedVariables false
set_option linter.unusedSimpArgs false
/-! ### show_arg: function 57 -/
def show_arg.f (a0_0 : Int) (a0_1 : ByteArray) (a0_2 : Int) (l0_3 : List (S53)) (a1 : Int) : Option (Int × ByteArray × Int × (List (S53))) := if a1 < (l0_3.length : Int) then (if 0 ≤ a1 then (some ((rd_T53 l0_3 a1).f0, (rd_T53 l0_3 a1).f1, (rd_T53 l0_3 a1).f2, (rd_T53 l0_3 a1).f3)) else (none)) else (some (0, (⟨#[]⟩ : ByteArray), 0, ([] : List (S53))))
set_option maxHeartbeats 8000000 in
set_option maxRecDepth 100000 in
theorem show_arg.calls (a0_0 : Int) (a0_1 : ByteArray) (a0_2 : Int) (P0_3_ : Nat → Prop) (A0_3 : Option Addr) (c0_3 : Nat) (l0_3 : List (S53)) (a1 : Int) (r1 : Int) (r2 : ByteArray) (r3 : Int) (r4 : List (S53)) (w : World) (hs0_3 : Kd.V k53 53 w w.heap.size (fun k_ => P0_3_ k_) (.slice A0_3 l0_3.length c0_3) l0_3) (h : show_arg.f a0_0 a0_1 a0_2 l0_3 a1 = some (r1, r2, r3, r4)) :
    Calls Tryd.prog 57 #[.agg #[.int .i64 a0_0, .string a0_1, .int .i64 a0_2, .slice A0_3 l0_3.length c0_3], .int .i64 a1] w fun e w' => ∃ v3_ : Value, e = .returned (.agg #[.int .i64 r1, .string r2, .int .i64 r3, v3_]) ∧ Kd.V k53 53 w' w.heap.size (fun k_ => (P0_3_ k_ ∨ w.heap.size ≤ k_)) v3_ r4 ∧ Below w.heap.size w w' := by
  have hu53 := Tryd.underlying53; have HO0_3 := am (show Kd.V k53 53 w w.heap.size (fun k_ => (P0_3_ k_ ∨ w.heap.size ≤ k_)) (.slice A0_3 l0_3.length c0_3) l0_3 from Kd.V_mono hs0_3 (fun k_ hk => .inl hk)); have HB := am (Below.refl w.heap.size w); have H := h; unfold show_arg.f at H; clear h
  by_cases c3 : a1 < (l0_3.length : Int)
  ·rw [if_pos c3] at H
   have c3b0 : decide (a1 < (l0_3.length : Int)) = true := decide_eq_true c3; clear c3
   by_cases c4 : 0 ≤ a1
   ·rw [if_pos c4] at H
    have c4b0 : decide (0 ≤ a1) = true := decide_eq_true c4; clear c4; simp only [Option.some.injEq, Prod.mk.injEq] at H; obtain ⟨rfl, rfl, rfl, rfl⟩ := H
    go_enter Tryd.func57, Tryd.ntmps57
    go_wp2_with (first | ((with_reducible refine gate_dst (N := 2) rfl ?_); refine bE 2 #[.int .i64 a0_0, .string a0_1, .int .i64 a0_2, .slice A0_3 l0_3.length c0_3] 53 ?_; intro gb101 w5 BK101 hg hb; replace HO0_3 := vE HO0_3 hg hb; have GW101 := bZ hg; have GE101 := bZ hg; replace HB := bH hb; clear hb hg) | ((with_reducible refine gate_dst (N := 4) rfl ?_); refine bE 4 #[.int .i64 0, .string (⟨#[]⟩ : ByteArray), .int .i64 0, .slice none 0 0] 53 ?_; intro gb102 w6 BK102 hg hb; replace HO0_3 := vE HO0_3 hg hb; have GW102 := bZ hg; have GE102 := bZ hg; replace HB := bH hb; have NB101_102 := bN BK101 hg; have NB102_101 := bM BK101 hg; replace BK101 := bK BK101 hb; clear hb hg; have hnb7 := NB101_102.out; have hnc7 := NB102_101.out; obtain ⟨z8_0, z8_1, z8_2, z8_3, y8_0, y8_1, y8_2, y8_3⟩ := y4 BK101; have p103 : 0 ≤ (a1 : Int) := of_decide_eq_true eA; have q103 : a1 < (l0_3.length : Int) := of_decide_eq_true eA; obtain ⟨ad103, A103_3, c103_3, e103, hx103_0, hx103_1, hx103_2, hx103_3, hl103_3, hi103_3⟩ := at_T53 (Kd.V_reads' HO0_3.out).2.2 a1 p103 q103; cases e103; obtain ⟨ce103, hce103, hMe103, hcc103⟩ := Kd.V_get HO0_3.out z53 a1 p103 (by first | exact q103 | exact of_decide_eq_true eA | (have e_ := (Kd.V_reads' HO0_3.out).1; omega)); obtain ⟨ua103_3, uc103_3, rfl, ul103_3, ge103_3⟩ := k53_openF hMe103; have hv103_3 := hcc103 3 _ rfl; rw [add_field _ _ 3 (by omega)] at hv103_3; replace hv103_3 := Option.some.inj (hv103_3.symm.trans hx103_3); injection hv103_3 with hva_ hvn_ hvc_; rw [hva_] at ge103_3; rw [hvc_] at ul103_3; have HL103_3 := am (show Kd.V k53 53 _ w.heap.size _ _ ((rd_T53 l0_3 a1).f3) from Kd.V_mk ul103_3 ge103_3); clear hva_ hvn_ hvc_ ge103_3 ul103_3; clear hcc103 hce103; have HR103_3 := am hi103_3; have HC103_3 := am hl103_3; clear hi103_3 hl103_3; replace p103 := eq_true p103; replace q103 := eq_true q103; obtain ⟨z9_0, z9_1, z9_2, z9_3, y9_0, y9_1, y9_2, y9_3⟩ := y4 BK102))
    refine bodyPost_ret (results_cell_row rfl _ _ gb102 53 #[.int .i64 ((rd_T53 l0_3 a1).f0), .string ((rd_T53 l0_3 a1).f1), .int .i64 ((rd_T53 l0_3 a1).f2), .slice A103_3 ((rd_T53 l0_3 a1).f3).length c103_3] (0, 0) _ rfl (d10 BK102) Tryd.underlying53 rfl (by kernel_rfl)) rfl ?_
    exact ⟨_, eW, by (with_reducible repeat (first | apply Kd.V_alloc | apply Kd.V_drewN | apply Kd.V_drew)); exact Kd.V_mono (Kd.V_far (p := ⟨gb102, 3, none⟩) (Kd.V_far (p := ⟨gb102, 2, none⟩) (Kd.V_far (p := ⟨gb102, 1, none⟩) (Kd.V_far (p := ⟨gb102, 0, none⟩) (Kd.V_mono HL103_3.out (fun k_ hk => (⟨hk, hk.2⟩ : _ ∧ k_ ≠ gb102))) (fun _ hk => hk.2) (.int .i64 ((rd_T53 l0_3 a1).f0))) (fun _ hk => hk.2) (.string ((rd_T53 l0_3 a1).f1))) (fun _ hk => hk.2) (.int .i64 ((rd_T53 l0_3 a1).f2))) (fun _ hk => hk.2) (.slice A103_3 ((rd_T53 l0_3 a1).f3).length c103_3)) (fun _ hk => hk.1.1.1), bB⟩
   ·rw [if_neg c4] at H
    exact absurd H (by simp)
  ·rw [if_neg c3] at H
   have c3b0 : decide (a1 < (l0_3.length : Int)) = false := decide_eq_false c3; clear c3; simp only [Option.some.injEq, Prod.mk.injEq] at H; obtain ⟨rfl, rfl, rfl, rfl⟩ := H
   go_enter Tryd.func57, Tryd.ntmps57
   go_wp2_with (first | ((with_reducible refine gate_dst (N := 2) rfl ?_); refine bE 2 #[.int .i64 a0_0, .string a0_1, .int .i64 a0_2, .slice A0_3 l0_3.length c0_3] 53 ?_; intro gb101 w10 BK101 hg hb; replace HO0_3 := vE HO0_3 hg hb; have GW101 := bZ hg; have GE101 := bZ hg; replace HB := bH hb; clear hb hg) | ((with_reducible refine gate_dst (N := 4) rfl ?_); refine bE 4 #[.int .i64 0, .string (⟨#[]⟩ : ByteArray), .int .i64 0, .slice none 0 0] 53 ?_; intro gb102 w11 BK102 hg hb; replace HO0_3 := vE HO0_3 hg hb; have GW102 := bZ hg; have GE102 := bZ hg; replace HB := bH hb; have NB101_102 := bN BK101 hg; have NB102_101 := bM BK101 hg; replace BK101 := bK BK101 hb; clear hb hg; have hnb12 := NB101_102.out; have hnc12 := NB102_101.out; obtain ⟨z13_0, z13_1, z13_2, z13_3, y13_0, y13_1, y13_2, y13_3⟩ := y4 BK101; obtain ⟨z14_0, z14_1, z14_2, z14_3, y14_0, y14_1, y14_2, y14_3⟩ := y4 BK102))
   refine bodyPost_ret (results_cell_row rfl _ _ gb102 53 #[.int .i64 0, .string (⟨#[]⟩ : ByteArray), .int .i64 0, .slice none 0 0] (0, 0) _ rfl (d15 BK102) Tryd.underlying53 rfl (by kernel_rfl)) rfl ?_
   exact ⟨_, eW, d18, bB⟩
/-! ### show_sum: function 59 -/
def show_sum.f (a0_0 : Int) (a0_1 : ByteArray) (a0_2 : Int) (l0_3 : List (S53)) : Option (Bool) := if a0_0 = 5 then (some true) else (some (a0_0 == 6))
set_option maxHeartbeats 8000000 in
set_option maxRecDepth 100000 in
theorem show_sum.calls (a0_0 : Int) (a0_1 : ByteArray) (a0_2 : Int) (A0_3 : Option Addr) (c0_3 : Nat) (l0_3 : List (S53)) (r : Bool) (w : World) (hr0_3 : Kd.C k53 w A0_3 l0_3.length l0_3) (hc0_3 : l0_3.length ≤ c0_3) (h : show_sum.f a0_0 a0_1 a0_2 l0_3 = some r) :
    Calls Tryd.prog 59 #[.agg #[.int .i64 a0_0, .string a0_1, .int .i64 a0_2, .slice A0_3 l0_3.length c0_3]] w fun e w' => e = .returned (.bool r) ∧ Below w.heap.size w w' := by
  have hu53 := Tryd.underlying53; have HR0_3 := am hr0_3; have HC0_3 := am hc0_3; clear hr0_3 hc0_3; have HB := am (Below.refl w.heap.size w); have H := h; unfold show_sum.f at H; clear h
  by_cases c2 : a0_0 = 5
  ·rw [if_pos c2] at H
   have c2b0 := beq_iff_eq.mpr c2; have c2b1 := bne_eq_false_iff_eq.mpr c2; clear c2; obtain rfl := Option.some.inj H
   go_enter Tryd.func59, Tryd.ntmps59
   go_wp2_with (first | ((with_reducible refine gate_dst (N := 1) rfl ?_); refine bE 1 #[.int .i64 a0_0, .string a0_1, .int .i64 a0_2, .slice A0_3 l0_3.length c0_3] 53 ?_; intro gb104 w3 BK104 hg hb; have GW104 := bZ hg; have GE104 := bZ hg; replace HB := bH hb; clear hb hg; obtain ⟨z4_0, z4_1, z4_2, z4_3, y4_0, y4_1, y4_2, y4_3⟩ := y4 BK104))
   go_ret; exact ⟨eW, bB⟩
  ·rw [if_neg c2] at H
   have c2b0 := beq_eq_false_iff_ne.mpr c2; have c2b1 := bne_iff_ne.mpr c2; obtain rfl := Option.some.inj H
   go_enter Tryd.func59, Tryd.ntmps59
   go_wp2_with (first | ((with_reducible refine gate_dst (N := 1) rfl ?_); refine bE 1 #[.int .i64 a0_0, .string a0_1, .int .i64 a0_2, .slice A0_3 l0_3.length c0_3] 53 ?_; intro gb104 w5 BK104 hg hb; have GW104 := bZ hg; have GE104 := bZ hg; replace HB := bH hb; clear hb hg; obtain ⟨z6_0, z6_1, z6_2, z6_3, y6_0, y6_1, y6_2, y6_3⟩ := y4 BK104))
   go_ret; exact ⟨eW, bB⟩
end Go.Proofs.YtmlkllbaehegjaaDoor.PAll
end
