/- alive: the chapter's examples. -/
-- Words of the kit's print, walks printed by a program of this session (wip/prt) in shorter words, and texts of this session, merged (pack.py).
import Derived.Deep.RegionHeld3
import Derived.Test.YtmlkllbaehegjaaDoorShowBrackets15
namespace Go.Proofs.YtmlkllbaehegjaaDoor.PAll
open Go.RowKit Go.Proofs.YtmlkllbaehegjaaDoorW.PrintWords Go.Proofs.YtmlkllbaehegjaaDoorW.PrintLast Go.Proofs.YtmlkllbaehegjaaDoorW.PrintMore
open Go.Proofs.YtmlkllbaehegjaaDoor
set_option linter.unusedVariables false
set_option linter.unusedSimpArgs false
/-- A block of one element, of two. -/
theorem C_block1 {α : Type} {d : Kd α} {w : World} {b e : Nat} {x : α} {c : List Value} (hb : w.heap[b]? = some (.cells c.toArray e (0, 0))) (hk : d.K w x c) (hl : c.length = d.sz) : d.C w (some ⟨b, 0, none⟩) 1 [x] := by
  refine ⟨rfl, by omega, fun _ => ⟨_, rfl, fun j p hj => ?_⟩⟩
  cases j with
  | zero =>
    cases hj
    refine ⟨c, hl, hk, fun i u hu => ?_⟩
    rw [show (⟨b, 0, none⟩ : Addr).add (0 * d.sz + i) = ⟨b, i, none⟩ by simp [Addr.add]; try omega]
    rw [blk_cell hb i]
    simpa using hu
  | succ j => simp at hj
theorem C_block2 {α : Type} {d : Kd α} {w : World} {b e : Nat} {x y : α} {c c' : List Value} (hb : w.heap[b]? = some (.cells (c ++ c').toArray e (0, 0))) (hk : d.K w x c) (hl : c.length = d.sz) (hk' : d.K w y c') (hl' : c'.length = d.sz) : d.C w (some ⟨b, 0, none⟩) 2 [x, y] := by
  refine ⟨rfl, by omega, fun _ => ⟨_, rfl, fun j p hj => ?_⟩⟩
  match j, hj with
  | 0, hj =>
    cases hj
    refine ⟨c, hl, hk, fun i u hu => ?_⟩
    rw [show (⟨b, 0, none⟩ : Addr).add (0 * d.sz + i) = ⟨b, i, none⟩ by simp [Addr.add]; try omega]
    rw [blk_cell hb i]
    obtain ⟨hlt, _⟩ := List.getElem?_eq_some_iff.1 hu
    simpa [List.getElem?_append_left hlt] using hu
  | 1, hj =>
    cases hj
    refine ⟨c', hl', hk', fun i u hu => ?_⟩
    rw [show (⟨b, 0, none⟩ : Addr).add (1 * d.sz + i) = ⟨b, c.length + i, none⟩ by simp [Addr.add, hl]; try omega]
    rw [blk_cell hb (c.length + i)]
    simpa [List.getElem?_append_right] using hu
  | j + 2, hj => simp at hj
theorem heap_new' {W : World} {o : Obj} {g : Nat} (h : g = W.heap.size) : (W.alloc o).heap[g]? = some o := by subst h; exact heap_alloc_new W o
def tx : S53 := ⟨1, ⟨#[120]⟩, 0, []⟩
def ty : S53 := ⟨1, ⟨#[121]⟩, 0, []⟩
def tn1 : S53 := ⟨4, ⟨#[]⟩, -1, []⟩
def tmul : S53 := ⟨8, ⟨#[]⟩, 2, [tx]⟩
def tadd : S53 := ⟨5, ⟨#[]⟩, 0, [ty, tn1]⟩
def tb : S53 := ⟨2, ⟨#[]⟩, 0, []⟩
def cp : S30 := ⟨3, ⟨#[112]⟩, ⟨#[]⟩, [], []⟩
def cq : S30 := ⟨3, ⟨#[113]⟩, ⟨#[]⟩, [tb], []⟩
def call : S30 := ⟨11, ⟨#[120]⟩, ⟨#[65]⟩, [], [cq]⟩
set_option maxRecDepth 100000 in
theorem ev1 : show_Term.f 40 6 ⟨#[]⟩ 0 [tmul, tadd] = some ⟨#[50, 32, 42, 32, 120, 32, 45, 32, 40, 121, 32, 43, 32, 40, 45, 49, 41, 41]⟩ := by kernel_rfl
set_option maxRecDepth 100000 in
theorem ev2 : show_Claim.f 100 7 ⟨#[]⟩ ⟨#[]⟩ [] [cp, call] = some ⟨#[112, 32, 38, 32, 33, 120, 58, 32, 65, 46, 32, 113, 40, 120, 41]⟩ := by kernel_rfl
set_option maxRecDepth 100000 in
theorem ev3 : show_Claim.f 100 7 ⟨#[]⟩ ⟨#[]⟩ [] [call, cp] = some ⟨#[40, 33, 120, 58, 32, 65, 46, 32, 113, 40, 120, 41, 41, 32, 38, 32, 112]⟩ := by kernel_rfl
def T5 : Bool × List (List Nat × List Nat) := (true, [([], []), ([], []), ([0, 1], [0, 1]), ([2], [2]), ([], []), ([], []), ([4, 5], [4, 5]), ([6], [6]), ([], []), ([], []), ([8, 3, 0, 1, 2, 3, 8, 9], [3, 8]), ([9, 7, 10, 0, 1, 2, 3, 4, 5, 6, 7, 8, 9, 10], [7, 9])])
def B5 : List Nat := [0, 0, 3, 7, 0, 0, 48, 112, 0, 0, 783, 2047]
set_option maxRecDepth 100000 in
theorem tab5 : rtab .any (opsOf Tryd.f7 5) = T5 := by kernel_rfl
theorem bits5 : waitsOk T5.2 B5 = true := by kernel_rfl
set_option maxHeartbeats 4000000 in
set_option maxRecDepth 100000 in
theorem law14_alive.walk (w : World) (hG : Laid w) :
    Calls Tryd.prog 7 #[] w fun e w' => e = .returned (.bool true) ∧ Below w.heap.size w w' := by
  have hu30 := Tryd.underlying30
  have hu53 := Tryd.underlying53
  have HG := Aside0.mk hG
  clear hG
  go_enter Tryd.func7, Tryd.ntmps7
  go_upto_region 4 with (fail)
  go_cut [3, 4, 6] (fun v3 v4 v6 wc => ∃ gT gP gA bT bA, v3 = .pointer (some ⟨gT, 0, none⟩) ∧ v4 = .pointer (some ⟨gP, 0, none⟩) ∧ v6 = .pointer (some ⟨gA, 0, none⟩) ∧ Aside0 (Below w.heap.size w wc) ∧
    Aside0 (wc.heap[gT]? = some (.cells #[.int .i64 6, .string ⟨#[]⟩, .int .i64 0, .slice (some ⟨bT, 0, none⟩) 2 2] 53 (0, 0))) ∧
    Aside0 (k53.C wc (some ⟨bT, 0, none⟩) 2 [tmul, tadd]) ∧
    Aside0 (wc.heap[gP]? = some (.cells #[.int .i64 3, .string ⟨#[112]⟩, .string ⟨#[]⟩, .slice none 0 0, .slice none 0 0] 30 (0, 0))) ∧
    Aside0 (wc.heap[gA]? = some (.cells #[.int .i64 11, .string ⟨#[120]⟩, .string ⟨#[65]⟩, .slice none 0 0, .slice (some ⟨bA, 0, none⟩) 1 1] 30 (0, 0))) ∧
    Aside0 (k30.C wc (some ⟨bA, 0, none⟩) 1 [cq]))
  case first =>
    go_wp2
    go_meet
    case rel =>
      refine ⟨_, _, _, w.heap.size + 4, w.heap.size + 9, rfl, rfl, rfl, ⟨?_⟩, ⟨?_⟩, ⟨?_⟩, ⟨?_⟩, ⟨?_⟩, ⟨?_⟩⟩
      · repeat (first | exact Below.refl _ _ | apply below_alloc)
      · repeat (first | exact heap_new' (by simp) | refine blk_alloc ?_ _)
      · exact C_block2 (e := 53) (c := [.int .i64 8, .string ⟨#[]⟩, .int .i64 2, .slice (some ⟨w.heap.size + 2, 0, none⟩) 1 1]) (c' := [.int .i64 5, .string ⟨#[]⟩, .int .i64 0, .slice (some ⟨w.heap.size + 3, 0, none⟩) 2 2])
          (by repeat (first | exact heap_new' (by simp) | refine blk_alloc ?_ _))
          (k53_mk _ tmul (A3 := some ⟨w.heap.size + 2, 0, none⟩) (c3 := 1) (by decide) (C_block1 (e := 53) (c := [.int .i64 1, .string ⟨#[120]⟩, .int .i64 0, .slice none 0 0]) (by repeat (first | exact heap_new' (by simp) | refine blk_alloc ?_ _)) (k53_mk _ tx (by decide) (Kd.C_nil _ _)) rfl)) rfl
          (k53_mk _ tadd (A3 := some ⟨w.heap.size + 3, 0, none⟩) (c3 := 2) (by decide) (C_block2 (e := 53) (c := [.int .i64 1, .string ⟨#[121]⟩, .int .i64 0, .slice none 0 0]) (c' := [.int .i64 4, .string ⟨#[]⟩, .int .i64 (-1), .slice none 0 0]) (by repeat (first | exact heap_new' (by simp) | refine blk_alloc ?_ _)) (k53_mk _ ty (by decide) (Kd.C_nil _ _)) rfl (k53_mk _ tn1 (by decide) (Kd.C_nil _ _)) rfl)) rfl
      · repeat (first | exact heap_new' (by simp) | refine blk_alloc ?_ _)
      · repeat (first | exact heap_new' (by simp) | refine blk_alloc ?_ _)
      · exact C_block1 (e := 30) (c := [.int .i64 3, .string ⟨#[113]⟩, .string ⟨#[]⟩, .slice (some ⟨w.heap.size + 6, 0, none⟩) 1 1, .slice none 0 0])
          (by repeat (first | exact heap_new' (by simp) | refine blk_alloc ?_ _))
          (k30_mk _ cq (A3 := some ⟨w.heap.size + 6, 0, none⟩) (c3 := 1) (by decide) (C_block1 (e := 53) (c := [.int .i64 2, .string ⟨#[]⟩, .int .i64 0, .slice none 0 0]) (by repeat (first | exact heap_new' (by simp) | refine blk_alloc ?_ _)) (k53_mk _ tb (by decide) (Kd.C_nil _ _)) rfl) (by decide) (Kd.C_nil _ _)) rfl
  case rest =>
  obtain ⟨gT, gP, gA, bT, bA, rfl, rfl, rfl, HB, HT, HTA, HP, HA, HAS⟩ := hcut
  go_upto_region 5 with (fail)
  go_cut [7, 8] (fun v7 v8 wd => ∃ g7 g8 a7 a8, v7 = .pointer (some ⟨g7, 0, none⟩) ∧ v8 = .pointer (some ⟨g8, 0, none⟩) ∧ Aside0 (Below wc.heap.size wc wd) ∧
    Aside0 (wd.heap[g7]? = some (.cells #[.int .i64 7, .string ⟨#[]⟩, .string ⟨#[]⟩, .slice none 0 0, .slice (some ⟨a7, 0, none⟩) 2 2] 30 (0, 0))) ∧
    Aside0 (wd.heap[g8]? = some (.cells #[.int .i64 7, .string ⟨#[]⟩, .string ⟨#[]⟩, .slice none 0 0, .slice (some ⟨a8, 0, none⟩) 2 2] 30 (0, 0))) ∧
    Aside0 (wd.heap[a7]? = some (.cells #[.int .i64 3, .string ⟨#[112]⟩, .string ⟨#[]⟩, .slice none 0 0, .slice none 0 0, .int .i64 11, .string ⟨#[120]⟩, .string ⟨#[65]⟩, .slice none 0 0, .slice (some ⟨bA, 0, none⟩) 1 1] 30 (0, 0))) ∧
    Aside0 (wd.heap[a8]? = some (.cells #[.int .i64 11, .string ⟨#[120]⟩, .string ⟨#[65]⟩, .slice none 0 0, .slice (some ⟨bA, 0, none⟩) 1 1, .int .i64 3, .string ⟨#[112]⟩, .string ⟨#[]⟩, .slice none 0 0, .slice none 0 0] 30 (0, 0))))
  case first =>
    clear HT HTA HB HAS
    refine start_ (n := 12) (S := fun w' => w'.heap[gP]? = some (.cells #[.int .i64 3, .string ⟨#[112]⟩, .string ⟨#[]⟩, .slice none 0 0, .slice none 0 0] 30 (0, 0)) ∧ w'.heap[gA]? = some (.cells #[.int .i64 11, .string ⟨#[120]⟩, .string ⟨#[65]⟩, .slice none 0 0, .slice (some ⟨bA, 0, none⟩) 1 1] 30 (0, 0))) (ds := []) #[false, false, false, false, false, false, false, false, false, false, false, false] (by kernel_rfl) rfl rfl ⟨HP.out, HA.out⟩ (fun hHeld => ?_); refine with_tabW tab5 bits5 (fun HT_ HW_ => ?_)
    refine take_ (i := 0) (N := some 27) (v := ?_) (a' := ?_) #[true, false, false, false, false, false, false, false, false, false, false, false] rfl rfl (take_ofW HT_.out HW_.out (by kernel_rfl)) (fun _ _ _ h => h) (Or.inl ⟨by rfl, ?_⟩) hHeld ?_ ?_
    rotate_left
    · rintro w' ⟨s0, s1⟩
      have c0 := (blk_cell s0 0).trans rfl
      have c1 := (blk_cell s0 1).trans rfl
      have c2 := (blk_cell s0 2).trans rfl
      have c3 := (blk_cell s0 3).trans rfl
      have c4 := (blk_cell s0 4).trans rfl
      go_simp
      with_reducible rfl
    rotate_left
    · simp only [Act.put, List.setIfInBounds_toArray, List.set_cons_zero, List.set_cons_succ]
      rfl
    refine take_ (i := 1) (N := some 28) (v := ?_) (a' := ?_) #[true, true, false, false, false, false, false, false, false, false, false, false] rfl rfl (take_ofW HT_.out HW_.out (by kernel_rfl)) (fun _ _ _ h => h) (Or.inl ⟨by rfl, ?_⟩) hHeld ?_ ?_
    rotate_left
    · rintro w' ⟨s0, s1⟩
      have c0 := (blk_cell s1 0).trans rfl
      have c1 := (blk_cell s1 1).trans rfl
      have c2 := (blk_cell s1 2).trans rfl
      have c3 := (blk_cell s1 3).trans rfl
      have c4 := (blk_cell s1 4).trans rfl
      go_simp
      with_reducible rfl
    rotate_left
    · simp only [Act.put, List.setIfInBounds_toArray, List.set_cons_zero, List.set_cons_succ]
      rfl
    refine take_ (i := 4) (N := some 31) (v := ?_) (a' := ?_) #[true, true, false, false, true, false, false, false, false, false, false, false] rfl rfl (take_ofW HT_.out HW_.out (by kernel_rfl)) (fun _ _ _ h => h) (Or.inl ⟨by rfl, ?_⟩) hHeld ?_ ?_
    rotate_left
    · rintro w' ⟨s0, s1⟩
      have c0 := (blk_cell s1 0).trans rfl
      have c1 := (blk_cell s1 1).trans rfl
      have c2 := (blk_cell s1 2).trans rfl
      have c3 := (blk_cell s1 3).trans rfl
      have c4 := (blk_cell s1 4).trans rfl
      go_simp
      with_reducible rfl
    rotate_left
    · simp only [Act.put, List.setIfInBounds_toArray, List.set_cons_zero, List.set_cons_succ]
      rfl
    refine take_ (i := 5) (N := some 32) (v := ?_) (a' := ?_) #[true, true, false, false, true, true, false, false, false, false, false, false] rfl rfl (take_ofW HT_.out HW_.out (by kernel_rfl)) (fun _ _ _ h => h) (Or.inl ⟨by rfl, ?_⟩) hHeld ?_ ?_
    rotate_left
    · rintro w' ⟨s0, s1⟩
      have c0 := (blk_cell s0 0).trans rfl
      have c1 := (blk_cell s0 1).trans rfl
      have c2 := (blk_cell s0 2).trans rfl
      have c3 := (blk_cell s0 3).trans rfl
      have c4 := (blk_cell s0 4).trans rfl
      go_simp
      with_reducible rfl
    rotate_left
    · simp only [Act.put, List.setIfInBounds_toArray, List.set_cons_zero, List.set_cons_succ]
      rfl
    have HBd : Aside0 (Below wc.heap.size wc wc.drew) := ⟨below_drew (Below.refl _ _)⟩
    clear HP HA
    generalize wc.drew = wd at HBd hHeld ⊢
    have hlP : gP < wd.heap.size := blk_lt hHeld.1
    have hlA : gA < wd.heap.size := blk_lt hHeld.2
    refine join_ 1 #[true, true, true, true, true, true, true, true, true, true, true, false] (fun s : Nat × Nat × Nat × Nat => [(7, .pointer (some ⟨s.2.2.1, 0, none⟩)), (8, .pointer (some ⟨s.2.2.2, 0, none⟩)), (29, .slice (some ⟨s.1, 0, none⟩) 2 2), (30, .agg #[.int .i64 7, .string ⟨#[]⟩, .string ⟨#[]⟩, .slice none 0 0, .slice (some ⟨s.1, 0, none⟩) 2 2]), (33, .slice (some ⟨s.2.1, 0, none⟩) 2 2), (34, .agg #[.int .i64 7, .string ⟨#[]⟩, .string ⟨#[]⟩, .slice none 0 0, .slice (some ⟨s.2.1, 0, none⟩) 2 2])]) (fun s w' => w'.heap[gP]? = some (.cells #[.int .i64 3, .string ⟨#[112]⟩, .string ⟨#[]⟩, .slice none 0 0, .slice none 0 0] 30 (0, 0)) ∧ w'.heap[gA]? = some (.cells #[.int .i64 11, .string ⟨#[120]⟩, .string ⟨#[65]⟩, .slice none 0 0, .slice (some ⟨bA, 0, none⟩) 1 1] 30 (0, 0)) ∧ Below wd.heap.size wd w' ∧ w'.heap[s.1]? = some (.cells #[.int .i64 3, .string ⟨#[112]⟩, .string ⟨#[]⟩, .slice none 0 0, .slice none 0 0, .int .i64 11, .string ⟨#[120]⟩, .string ⟨#[65]⟩, .slice none 0 0, .slice (some ⟨bA, 0, none⟩) 1 1] 30 (0, 0)) ∧ w'.heap[s.2.1]? = some (.cells #[.int .i64 11, .string ⟨#[120]⟩, .string ⟨#[65]⟩, .slice none 0 0, .slice (some ⟨bA, 0, none⟩) 1 1, .int .i64 3, .string ⟨#[112]⟩, .string ⟨#[]⟩, .slice none 0 0, .slice none 0 0] 30 (0, 0)) ∧ w'.heap[s.2.2.1]? = some (.cells #[.int .i64 7, .string ⟨#[]⟩, .string ⟨#[]⟩, .slice none 0 0, .slice (some ⟨s.1, 0, none⟩) 2 2] 30 (0, 0)) ∧ w'.heap[s.2.2.2]? = some (.cells #[.int .i64 0, .string ⟨#[]⟩, .string ⟨#[]⟩, .slice none 0 0, .slice none 0 0] 30 (0, 0)) ∧ wd.heap.size ≤ s.1 ∧ wd.heap.size ≤ s.2.1 ∧ wd.heap.size ≤ s.2.2.1 ∧ wd.heap.size ≤ s.2.2.2 ∧ s.1 ≠ s.2.2.1 ∧ s.1 ≠ s.2.2.2 ∧ s.2.1 ≠ s.2.2.1 ∧ s.2.1 ≠ s.2.2.2 ∧ s.2.2.1 ≠ s.2.2.2) ?_ (fun hC2_6_8_9s => ?_)
    · rintro ⟨a7, a8, g7, g8⟩ w' ⟨S, T, B, h2, h6, h8, h9, n2, n6, n8, n9, d2_8, d2_9, d6_8, d6_9, d8_9⟩
      have hHeld_ := True.intro
      refine norm_ (a' := ?_) ?_ ?_
      rotate_left
      · simp only [putAll, Act.put, List.setIfInBounds_toArray, List.set_cons_zero, List.set_cons_succ]
        rfl
      refine one_ (i := 11) (N := none) #[true, true, true, true, true, true, true, true, true, true, true, true] rfl rfl (one_of HT_.out (by kernel_rfl)) (by decide) (fun K hK => ?_)
      · clear hHeld_
        have y0 := (blk_cell h9 0).trans rfl
        have y1 := (blk_cell h9 1).trans rfl
        have y2 := (blk_cell h9 2).trans rfl
        have y3 := (blk_cell h9 3).trans rfl
        have y4 := (blk_cell h9 4).trans rfl
        have x0 := blk_frozen h9 0
        have x1 := blk_frozen h9 1
        have x2 := blk_frozen h9 2
        have x3 := blk_frozen h9 3
        have x4 := blk_frozen h9 4
        go_simp
        refine hK.out _ _ ⟨blk_far (blk_far (blk_far (blk_far (blk_far (S) (Nat.ne_of_lt (Nat.lt_of_lt_of_le hlP n9)) _) (Nat.ne_of_lt (Nat.lt_of_lt_of_le hlP n9)) _) (Nat.ne_of_lt (Nat.lt_of_lt_of_le hlP n9)) _) (Nat.ne_of_lt (Nat.lt_of_lt_of_le hlP n9)) _) (Nat.ne_of_lt (Nat.lt_of_lt_of_le hlP n9)) _, blk_far (blk_far (blk_far (blk_far (blk_far (T) (Nat.ne_of_lt (Nat.lt_of_lt_of_le hlA n9)) _) (Nat.ne_of_lt (Nat.lt_of_lt_of_le hlA n9)) _) (Nat.ne_of_lt (Nat.lt_of_lt_of_le hlA n9)) _) (Nat.ne_of_lt (Nat.lt_of_lt_of_le hlA n9)) _) (Nat.ne_of_lt (Nat.lt_of_lt_of_le hlA n9)) _⟩ (fun hHeld_ => ?_)
        refine done_ (done_of HT_.out (by kernel_rfl)) ?_
        clear hK
        go_wp2
        go_meet
        case rel => exact ⟨_, _, a7, a8, rfl, rfl, ⟨below_step HBd.out (below_set (below_set (below_set (below_set (below_set (B) n9) n9) n9) n9) n9)⟩, ⟨blk_far (blk_far (blk_far (blk_far (blk_far (h8) (d8_9) _) (d8_9) _) (d8_9) _) (d8_9) _) (d8_9) _⟩, ⟨blk_put (blk_put (blk_put (blk_put (blk_put (h9) 0 _ rfl) 1 _ rfl) 2 _ rfl) 3 _ rfl) 4 _ rfl⟩, ⟨blk_far (blk_far (blk_far (blk_far (blk_far (h2) (d2_9) _) (d2_9) _) (d2_9) _) (d2_9) _) (d2_9) _⟩, ⟨blk_far (blk_far (blk_far (blk_far (blk_far (h6) (d6_9) _) (d6_9) _) (d6_9) _) (d6_9) _) (d6_9) _⟩⟩
    refine join_ 2 #[true, true, true, true, true, true, true, true, true, true, false, false] (fun s : Nat × Nat × Nat × Nat => [(7, .pointer (some ⟨s.2.2.1, 0, none⟩)), (8, .pointer (some ⟨s.2.2.2, 0, none⟩)), (29, .slice (some ⟨s.1, 0, none⟩) 2 2), (30, .agg #[.int .i64 7, .string ⟨#[]⟩, .string ⟨#[]⟩, .slice none 0 0, .slice (some ⟨s.1, 0, none⟩) 2 2]), (33, .slice (some ⟨s.2.1, 0, none⟩) 2 2), (34, .agg #[.int .i64 7, .string ⟨#[]⟩, .string ⟨#[]⟩, .slice none 0 0, .slice (some ⟨s.2.1, 0, none⟩) 2 2])]) (fun s w' => w'.heap[gP]? = some (.cells #[.int .i64 3, .string ⟨#[112]⟩, .string ⟨#[]⟩, .slice none 0 0, .slice none 0 0] 30 (0, 0)) ∧ w'.heap[gA]? = some (.cells #[.int .i64 11, .string ⟨#[120]⟩, .string ⟨#[65]⟩, .slice none 0 0, .slice (some ⟨bA, 0, none⟩) 1 1] 30 (0, 0)) ∧ Below wd.heap.size wd w' ∧ w'.heap[s.1]? = some (.cells #[.int .i64 3, .string ⟨#[112]⟩, .string ⟨#[]⟩, .slice none 0 0, .slice none 0 0, .int .i64 11, .string ⟨#[120]⟩, .string ⟨#[65]⟩, .slice none 0 0, .slice (some ⟨bA, 0, none⟩) 1 1] 30 (0, 0)) ∧ w'.heap[s.2.1]? = some (.cells #[.int .i64 11, .string ⟨#[120]⟩, .string ⟨#[65]⟩, .slice none 0 0, .slice (some ⟨bA, 0, none⟩) 1 1, .int .i64 3, .string ⟨#[112]⟩, .string ⟨#[]⟩, .slice none 0 0, .slice none 0 0] 30 (0, 0)) ∧ w'.heap[s.2.2.1]? = some (.cells #[.int .i64 0, .string ⟨#[]⟩, .string ⟨#[]⟩, .slice none 0 0, .slice none 0 0] 30 (0, 0)) ∧ w'.heap[s.2.2.2]? = some (.cells #[.int .i64 0, .string ⟨#[]⟩, .string ⟨#[]⟩, .slice none 0 0, .slice none 0 0] 30 (0, 0)) ∧ wd.heap.size ≤ s.1 ∧ wd.heap.size ≤ s.2.1 ∧ wd.heap.size ≤ s.2.2.1 ∧ wd.heap.size ≤ s.2.2.2 ∧ s.1 ≠ s.2.2.1 ∧ s.1 ≠ s.2.2.2 ∧ s.2.1 ≠ s.2.2.1 ∧ s.2.1 ≠ s.2.2.2 ∧ s.2.2.1 ≠ s.2.2.2) ?_ (fun hC2_6_8_9 => ?_)
    · rintro ⟨a7, a8, g7, g8⟩ w' ⟨S, T, B, h2, h6, h8, h9, n2, n6, n8, n9, d2_8, d2_9, d6_8, d6_9, d8_9⟩
      have hHeld_ := True.intro
      refine norm_ (a' := ?_) ?_ ?_
      rotate_left
      · simp only [putAll, Act.put, List.setIfInBounds_toArray, List.set_cons_zero, List.set_cons_succ]
        rfl
      refine one_ (i := 10) (N := none) #[true, true, true, true, true, true, true, true, true, true, true, false] rfl rfl (one_of HT_.out (by kernel_rfl)) (by decide) (fun K hK => ?_)
      · clear hHeld_
        have y0 := (blk_cell h8 0).trans rfl
        have y1 := (blk_cell h8 1).trans rfl
        have y2 := (blk_cell h8 2).trans rfl
        have y3 := (blk_cell h8 3).trans rfl
        have y4 := (blk_cell h8 4).trans rfl
        have x0 := blk_frozen h8 0
        have x1 := blk_frozen h8 1
        have x2 := blk_frozen h8 2
        have x3 := blk_frozen h8 3
        have x4 := blk_frozen h8 4
        go_simp
        refine hK.out _ _ ⟨blk_far (blk_far (blk_far (blk_far (blk_far (S) (Nat.ne_of_lt (Nat.lt_of_lt_of_le hlP n8)) _) (Nat.ne_of_lt (Nat.lt_of_lt_of_le hlP n8)) _) (Nat.ne_of_lt (Nat.lt_of_lt_of_le hlP n8)) _) (Nat.ne_of_lt (Nat.lt_of_lt_of_le hlP n8)) _) (Nat.ne_of_lt (Nat.lt_of_lt_of_le hlP n8)) _, blk_far (blk_far (blk_far (blk_far (blk_far (T) (Nat.ne_of_lt (Nat.lt_of_lt_of_le hlA n8)) _) (Nat.ne_of_lt (Nat.lt_of_lt_of_le hlA n8)) _) (Nat.ne_of_lt (Nat.lt_of_lt_of_le hlA n8)) _) (Nat.ne_of_lt (Nat.lt_of_lt_of_le hlA n8)) _) (Nat.ne_of_lt (Nat.lt_of_lt_of_le hlA n8)) _⟩ (fun hHeld_ => ?_)
        exact norm_ (by simp only [putAll, Act.put, List.setIfInBounds_toArray, List.set_cons_zero, List.set_cons_succ]) (hC2_6_8_9s (a7, a8, g7, g8) _ ⟨hHeld_.1, hHeld_.2, below_set (below_set (below_set (below_set (below_set (B) n8) n8) n8) n8) n8, blk_far (blk_far (blk_far (blk_far (blk_far (h2) (d2_8) _) (d2_8) _) (d2_8) _) (d2_8) _) (d2_8) _, blk_far (blk_far (blk_far (blk_far (blk_far (h6) (d6_8) _) (d6_8) _) (d6_8) _) (d6_8) _) (d6_8) _, blk_put (blk_put (blk_put (blk_put (blk_put (h8) 0 _ rfl) 1 _ rfl) 2 _ rfl) 3 _ rfl) 4 _ rfl, blk_far (blk_far (blk_far (blk_far (blk_far (h9) (Ne.symm d8_9) _) (Ne.symm d8_9) _) (Ne.symm d8_9) _) (Ne.symm d8_9) _) (Ne.symm d8_9) _, n2, n6, n8, n9, d2_8, d2_9, d6_8, d6_9, d8_9⟩)
    refine join_ 3 #[true, true, true, true, true, true, false, false, true, true, true, false] (fun s : Nat × Nat × Nat × Nat => [(7, .pointer (some ⟨s.2.2.1, 0, none⟩)), (8, .pointer (some ⟨s.2.2.2, 0, none⟩)), (29, .slice (some ⟨s.1, 0, none⟩) 2 2), (30, .agg #[.int .i64 7, .string ⟨#[]⟩, .string ⟨#[]⟩, .slice none 0 0, .slice (some ⟨s.1, 0, none⟩) 2 2])]) (fun s w' => w'.heap[gP]? = some (.cells #[.int .i64 3, .string ⟨#[112]⟩, .string ⟨#[]⟩, .slice none 0 0, .slice none 0 0] 30 (0, 0)) ∧ w'.heap[gA]? = some (.cells #[.int .i64 11, .string ⟨#[120]⟩, .string ⟨#[65]⟩, .slice none 0 0, .slice (some ⟨bA, 0, none⟩) 1 1] 30 (0, 0)) ∧ Below wd.heap.size wd w' ∧ w'.heap[s.1]? = some (.cells #[.int .i64 3, .string ⟨#[112]⟩, .string ⟨#[]⟩, .slice none 0 0, .slice none 0 0, .int .i64 11, .string ⟨#[120]⟩, .string ⟨#[65]⟩, .slice none 0 0, .slice (some ⟨bA, 0, none⟩) 1 1] 30 (0, 0)) ∧ w'.heap[s.2.2.1]? = some (.cells #[.int .i64 7, .string ⟨#[]⟩, .string ⟨#[]⟩, .slice none 0 0, .slice (some ⟨s.1, 0, none⟩) 2 2] 30 (0, 0)) ∧ w'.heap[s.2.2.2]? = some (.cells #[.int .i64 0, .string ⟨#[]⟩, .string ⟨#[]⟩, .slice none 0 0, .slice none 0 0] 30 (0, 0)) ∧ wd.heap.size ≤ s.1 ∧ wd.heap.size ≤ s.2.2.1 ∧ wd.heap.size ≤ s.2.2.2 ∧ s.1 ≠ s.2.2.1 ∧ s.1 ≠ s.2.2.2 ∧ s.2.2.1 ≠ s.2.2.2) ?_ (fun hC2_8_9s => ?_)
    · rintro ⟨a7, a8, g7, g8⟩ w' ⟨S, T, B, h2, h8, h9, n2, n8, n9, d2_8, d2_9, d8_9⟩
      have hHeld_ := True.intro
      refine norm_ (a' := ?_) ?_ ?_
      rotate_left
      · simp only [putAll, Act.put, List.setIfInBounds_toArray, List.set_cons_zero, List.set_cons_succ]
        rfl
      refine one_ (i := 6) (N := some 33) #[true, true, true, true, true, true, true, false, true, true, true, false] rfl rfl (one_of HT_.out (by kernel_rfl)) (by decide) (fun K hK => ?_)
      · clear hHeld_
        go_simp
        refine hK.out _ _ ⟨blk_alloc S _, blk_alloc T _⟩ (fun hHeld_ => ?_)
        refine pure_ (i := 7) (N := some 34) (v := ?_) (a' := ?_) #[true, true, true, true, true, true, true, true, true, true, true, false] rfl rfl (any_of HT_.out (by kernel_rfl)) (fun _ _ _ h => h) (Or.inl ⟨by rfl, ?_⟩) ?_ ?_
        rotate_left
        · intro w'
          go_simp
          with_reducible rfl
        rotate_left
        · simp only [Act.put, List.setIfInBounds_toArray, List.set_cons_zero, List.set_cons_succ]
          rfl
        exact norm_ (by simp only [putAll, Act.put, List.setIfInBounds_toArray, List.set_cons_zero, List.set_cons_succ]) (hC2_6_8_9s (a7, w'.heap.size, g7, g8) _ ⟨hHeld_.1, hHeld_.2, below_alloc B _, blk_alloc h2 _, heap_new' rfl, blk_alloc h8 _, blk_alloc h9 _, n2, B.size, n8, n9, d2_8, d2_9, Ne.symm (Nat.ne_of_lt (blk_lt h8)), Ne.symm (Nat.ne_of_lt (blk_lt h9)), d8_9⟩)
    refine join_ 3 #[true, true, true, true, true, true, true, true, true, false, false, false] (fun s : Nat × Nat × Nat × Nat => [(7, .pointer (some ⟨s.2.2.1, 0, none⟩)), (29, .slice (some ⟨s.1, 0, none⟩) 2 2), (30, .agg #[.int .i64 7, .string ⟨#[]⟩, .string ⟨#[]⟩, .slice none 0 0, .slice (some ⟨s.1, 0, none⟩) 2 2]), (33, .slice (some ⟨s.2.1, 0, none⟩) 2 2), (34, .agg #[.int .i64 7, .string ⟨#[]⟩, .string ⟨#[]⟩, .slice none 0 0, .slice (some ⟨s.2.1, 0, none⟩) 2 2])]) (fun s w' => w'.heap[gP]? = some (.cells #[.int .i64 3, .string ⟨#[112]⟩, .string ⟨#[]⟩, .slice none 0 0, .slice none 0 0] 30 (0, 0)) ∧ w'.heap[gA]? = some (.cells #[.int .i64 11, .string ⟨#[120]⟩, .string ⟨#[65]⟩, .slice none 0 0, .slice (some ⟨bA, 0, none⟩) 1 1] 30 (0, 0)) ∧ Below wd.heap.size wd w' ∧ w'.heap[s.1]? = some (.cells #[.int .i64 3, .string ⟨#[112]⟩, .string ⟨#[]⟩, .slice none 0 0, .slice none 0 0, .int .i64 11, .string ⟨#[120]⟩, .string ⟨#[65]⟩, .slice none 0 0, .slice (some ⟨bA, 0, none⟩) 1 1] 30 (0, 0)) ∧ w'.heap[s.2.1]? = some (.cells #[.int .i64 11, .string ⟨#[120]⟩, .string ⟨#[65]⟩, .slice none 0 0, .slice (some ⟨bA, 0, none⟩) 1 1, .int .i64 3, .string ⟨#[112]⟩, .string ⟨#[]⟩, .slice none 0 0, .slice none 0 0] 30 (0, 0)) ∧ w'.heap[s.2.2.1]? = some (.cells #[.int .i64 0, .string ⟨#[]⟩, .string ⟨#[]⟩, .slice none 0 0, .slice none 0 0] 30 (0, 0)) ∧ wd.heap.size ≤ s.1 ∧ wd.heap.size ≤ s.2.1 ∧ wd.heap.size ≤ s.2.2.1 ∧ s.1 ≠ s.2.2.1 ∧ s.2.1 ≠ s.2.2.1) ?_ (fun hC2_6_8 => ?_)
    · rintro ⟨a7, a8, g7, g8⟩ w' ⟨S, T, B, h2, h6, h8, n2, n6, n8, d2_8, d6_8⟩
      have hHeld_ := True.intro
      refine norm_ (a' := ?_) ?_ ?_
      rotate_left
      · simp only [putAll, Act.put, List.setIfInBounds_toArray, List.set_cons_zero, List.set_cons_succ]
        rfl
      refine one_ (i := 9) (N := some 8) #[true, true, true, true, true, true, true, true, true, true, false, false] rfl rfl (one_of HT_.out (by kernel_rfl)) (by decide) (fun K hK => ?_)
      · clear hHeld_
        go_simp
        refine hK.out _ _ ⟨blk_alloc S _, blk_alloc T _⟩ (fun hHeld_ => ?_)
        exact norm_ (by simp only [putAll, Act.put, List.setIfInBounds_toArray, List.set_cons_zero, List.set_cons_succ]) (hC2_6_8_9 (a7, a8, g7, w'.heap.size) _ ⟨hHeld_.1, hHeld_.2, below_alloc B _, blk_alloc h2 _, blk_alloc h6 _, blk_alloc h8 _, heap_new' rfl, n2, n6, n8, B.size, d2_8, Nat.ne_of_lt (blk_lt h2), d6_8, Nat.ne_of_lt (blk_lt h6), Nat.ne_of_lt (blk_lt h8)⟩)
    refine join_ 3 #[true, true, true, true, true, true, true, true, false, true, false, false] (fun s : Nat × Nat × Nat × Nat => [(8, .pointer (some ⟨s.2.2.2, 0, none⟩)), (29, .slice (some ⟨s.1, 0, none⟩) 2 2), (30, .agg #[.int .i64 7, .string ⟨#[]⟩, .string ⟨#[]⟩, .slice none 0 0, .slice (some ⟨s.1, 0, none⟩) 2 2]), (33, .slice (some ⟨s.2.1, 0, none⟩) 2 2), (34, .agg #[.int .i64 7, .string ⟨#[]⟩, .string ⟨#[]⟩, .slice none 0 0, .slice (some ⟨s.2.1, 0, none⟩) 2 2])]) (fun s w' => w'.heap[gP]? = some (.cells #[.int .i64 3, .string ⟨#[112]⟩, .string ⟨#[]⟩, .slice none 0 0, .slice none 0 0] 30 (0, 0)) ∧ w'.heap[gA]? = some (.cells #[.int .i64 11, .string ⟨#[120]⟩, .string ⟨#[65]⟩, .slice none 0 0, .slice (some ⟨bA, 0, none⟩) 1 1] 30 (0, 0)) ∧ Below wd.heap.size wd w' ∧ w'.heap[s.1]? = some (.cells #[.int .i64 3, .string ⟨#[112]⟩, .string ⟨#[]⟩, .slice none 0 0, .slice none 0 0, .int .i64 11, .string ⟨#[120]⟩, .string ⟨#[65]⟩, .slice none 0 0, .slice (some ⟨bA, 0, none⟩) 1 1] 30 (0, 0)) ∧ w'.heap[s.2.1]? = some (.cells #[.int .i64 11, .string ⟨#[120]⟩, .string ⟨#[65]⟩, .slice none 0 0, .slice (some ⟨bA, 0, none⟩) 1 1, .int .i64 3, .string ⟨#[112]⟩, .string ⟨#[]⟩, .slice none 0 0, .slice none 0 0] 30 (0, 0)) ∧ w'.heap[s.2.2.2]? = some (.cells #[.int .i64 0, .string ⟨#[]⟩, .string ⟨#[]⟩, .slice none 0 0, .slice none 0 0] 30 (0, 0)) ∧ wd.heap.size ≤ s.1 ∧ wd.heap.size ≤ s.2.1 ∧ wd.heap.size ≤ s.2.2.2 ∧ s.1 ≠ s.2.2.2 ∧ s.2.1 ≠ s.2.2.2) ?_ (fun hC2_6_9 => ?_)
    · rintro ⟨a7, a8, g7, g8⟩ w' ⟨S, T, B, h2, h6, h9, n2, n6, n9, d2_9, d6_9⟩
      have hHeld_ := True.intro
      refine norm_ (a' := ?_) ?_ ?_
      rotate_left
      · simp only [putAll, Act.put, List.setIfInBounds_toArray, List.set_cons_zero, List.set_cons_succ]
        rfl
      refine one_ (i := 8) (N := some 7) #[true, true, true, true, true, true, true, true, true, true, false, false] rfl rfl (one_of HT_.out (by kernel_rfl)) (by decide) (fun K hK => ?_)
      · clear hHeld_
        go_simp
        refine hK.out _ _ ⟨blk_alloc S _, blk_alloc T _⟩ (fun hHeld_ => ?_)
        exact norm_ (by simp only [putAll, Act.put, List.setIfInBounds_toArray, List.set_cons_zero, List.set_cons_succ]) (hC2_6_8_9 (a7, a8, w'.heap.size, g8) _ ⟨hHeld_.1, hHeld_.2, below_alloc B _, blk_alloc h2 _, blk_alloc h6 _, heap_new' rfl, blk_alloc h9 _, n2, n6, B.size, n9, Nat.ne_of_lt (blk_lt h2), d2_9, Nat.ne_of_lt (blk_lt h6), d6_9, Ne.symm (Nat.ne_of_lt (blk_lt h9))⟩)
    refine join_ 4 #[true, true, true, true, true, true, false, false, true, true, false, false] (fun s : Nat × Nat × Nat × Nat => [(7, .pointer (some ⟨s.2.2.1, 0, none⟩)), (8, .pointer (some ⟨s.2.2.2, 0, none⟩)), (29, .slice (some ⟨s.1, 0, none⟩) 2 2), (30, .agg #[.int .i64 7, .string ⟨#[]⟩, .string ⟨#[]⟩, .slice none 0 0, .slice (some ⟨s.1, 0, none⟩) 2 2])]) (fun s w' => w'.heap[gP]? = some (.cells #[.int .i64 3, .string ⟨#[112]⟩, .string ⟨#[]⟩, .slice none 0 0, .slice none 0 0] 30 (0, 0)) ∧ w'.heap[gA]? = some (.cells #[.int .i64 11, .string ⟨#[120]⟩, .string ⟨#[65]⟩, .slice none 0 0, .slice (some ⟨bA, 0, none⟩) 1 1] 30 (0, 0)) ∧ Below wd.heap.size wd w' ∧ w'.heap[s.1]? = some (.cells #[.int .i64 3, .string ⟨#[112]⟩, .string ⟨#[]⟩, .slice none 0 0, .slice none 0 0, .int .i64 11, .string ⟨#[120]⟩, .string ⟨#[65]⟩, .slice none 0 0, .slice (some ⟨bA, 0, none⟩) 1 1] 30 (0, 0)) ∧ w'.heap[s.2.2.1]? = some (.cells #[.int .i64 0, .string ⟨#[]⟩, .string ⟨#[]⟩, .slice none 0 0, .slice none 0 0] 30 (0, 0)) ∧ w'.heap[s.2.2.2]? = some (.cells #[.int .i64 0, .string ⟨#[]⟩, .string ⟨#[]⟩, .slice none 0 0, .slice none 0 0] 30 (0, 0)) ∧ wd.heap.size ≤ s.1 ∧ wd.heap.size ≤ s.2.2.1 ∧ wd.heap.size ≤ s.2.2.2 ∧ s.1 ≠ s.2.2.1 ∧ s.1 ≠ s.2.2.2 ∧ s.2.2.1 ≠ s.2.2.2) ?_ (fun hC2_8_9 => ?_)
    · rintro ⟨a7, a8, g7, g8⟩ w' ⟨S, T, B, h2, h8, h9, n2, n8, n9, d2_8, d2_9, d8_9⟩
      have hHeld_ := True.intro
      refine norm_ (a' := ?_) ?_ ?_
      rotate_left
      · simp only [putAll, Act.put, List.setIfInBounds_toArray, List.set_cons_zero, List.set_cons_succ]
        rfl
      refine two_ (i := 6) (j := 10) (Ni := some 33) (Nj := none) #[true, true, true, true, true, true, true, false, true, true, false, false] #[true, true, true, true, true, true, false, false, true, true, true, false] rfl rfl rfl rfl (two_of HT_.out (by kernel_rfl)) (by decide) (by decide) (fun K hK => ?_) (fun K hK => ?_)
      · clear hHeld_
        go_simp
        refine hK.out _ _ ⟨blk_alloc S _, blk_alloc T _⟩ (fun hHeld_ => ?_)
        refine pure_ (i := 7) (N := some 34) (v := ?_) (a' := ?_) #[true, true, true, true, true, true, true, true, true, true, false, false] rfl rfl (any_of HT_.out (by kernel_rfl)) (fun _ _ _ h => h) (Or.inl ⟨by rfl, ?_⟩) ?_ ?_
        rotate_left
        · intro w'
          go_simp
          with_reducible rfl
        rotate_left
        · simp only [Act.put, List.setIfInBounds_toArray, List.set_cons_zero, List.set_cons_succ]
          rfl
        exact norm_ (by simp only [putAll, Act.put, List.setIfInBounds_toArray, List.set_cons_zero, List.set_cons_succ]) (hC2_6_8_9 (a7, w'.heap.size, g7, g8) _ ⟨hHeld_.1, hHeld_.2, below_alloc B _, blk_alloc h2 _, heap_new' rfl, blk_alloc h8 _, blk_alloc h9 _, n2, B.size, n8, n9, d2_8, d2_9, Ne.symm (Nat.ne_of_lt (blk_lt h8)), Ne.symm (Nat.ne_of_lt (blk_lt h9)), d8_9⟩)
      · clear hHeld_
        have y0 := (blk_cell h8 0).trans rfl
        have y1 := (blk_cell h8 1).trans rfl
        have y2 := (blk_cell h8 2).trans rfl
        have y3 := (blk_cell h8 3).trans rfl
        have y4 := (blk_cell h8 4).trans rfl
        have x0 := blk_frozen h8 0
        have x1 := blk_frozen h8 1
        have x2 := blk_frozen h8 2
        have x3 := blk_frozen h8 3
        have x4 := blk_frozen h8 4
        go_simp
        refine hK.out _ _ ⟨blk_far (blk_far (blk_far (blk_far (blk_far (S) (Nat.ne_of_lt (Nat.lt_of_lt_of_le hlP n8)) _) (Nat.ne_of_lt (Nat.lt_of_lt_of_le hlP n8)) _) (Nat.ne_of_lt (Nat.lt_of_lt_of_le hlP n8)) _) (Nat.ne_of_lt (Nat.lt_of_lt_of_le hlP n8)) _) (Nat.ne_of_lt (Nat.lt_of_lt_of_le hlP n8)) _, blk_far (blk_far (blk_far (blk_far (blk_far (T) (Nat.ne_of_lt (Nat.lt_of_lt_of_le hlA n8)) _) (Nat.ne_of_lt (Nat.lt_of_lt_of_le hlA n8)) _) (Nat.ne_of_lt (Nat.lt_of_lt_of_le hlA n8)) _) (Nat.ne_of_lt (Nat.lt_of_lt_of_le hlA n8)) _) (Nat.ne_of_lt (Nat.lt_of_lt_of_le hlA n8)) _⟩ (fun hHeld_ => ?_)
        exact norm_ (by simp only [putAll, Act.put, List.setIfInBounds_toArray, List.set_cons_zero, List.set_cons_succ]) (hC2_8_9s (a7, 0, g7, g8) _ ⟨hHeld_.1, hHeld_.2, below_set (below_set (below_set (below_set (below_set (B) n8) n8) n8) n8) n8, blk_far (blk_far (blk_far (blk_far (blk_far (h2) (d2_8) _) (d2_8) _) (d2_8) _) (d2_8) _) (d2_8) _, blk_put (blk_put (blk_put (blk_put (blk_put (h8) 0 _ rfl) 1 _ rfl) 2 _ rfl) 3 _ rfl) 4 _ rfl, blk_far (blk_far (blk_far (blk_far (blk_far (h9) (Ne.symm d8_9) _) (Ne.symm d8_9) _) (Ne.symm d8_9) _) (Ne.symm d8_9) _) (Ne.symm d8_9) _, n2, n8, n9, d2_8, d2_9, d8_9⟩)
    refine join_ 4 #[true, true, false, false, true, true, true, true, true, true, false, false] (fun s : Nat × Nat × Nat × Nat => [(7, .pointer (some ⟨s.2.2.1, 0, none⟩)), (8, .pointer (some ⟨s.2.2.2, 0, none⟩)), (33, .slice (some ⟨s.2.1, 0, none⟩) 2 2), (34, .agg #[.int .i64 7, .string ⟨#[]⟩, .string ⟨#[]⟩, .slice none 0 0, .slice (some ⟨s.2.1, 0, none⟩) 2 2])]) (fun s w' => w'.heap[gP]? = some (.cells #[.int .i64 3, .string ⟨#[112]⟩, .string ⟨#[]⟩, .slice none 0 0, .slice none 0 0] 30 (0, 0)) ∧ w'.heap[gA]? = some (.cells #[.int .i64 11, .string ⟨#[120]⟩, .string ⟨#[65]⟩, .slice none 0 0, .slice (some ⟨bA, 0, none⟩) 1 1] 30 (0, 0)) ∧ Below wd.heap.size wd w' ∧ w'.heap[s.2.1]? = some (.cells #[.int .i64 11, .string ⟨#[120]⟩, .string ⟨#[65]⟩, .slice none 0 0, .slice (some ⟨bA, 0, none⟩) 1 1, .int .i64 3, .string ⟨#[112]⟩, .string ⟨#[]⟩, .slice none 0 0, .slice none 0 0] 30 (0, 0)) ∧ w'.heap[s.2.2.1]? = some (.cells #[.int .i64 0, .string ⟨#[]⟩, .string ⟨#[]⟩, .slice none 0 0, .slice none 0 0] 30 (0, 0)) ∧ w'.heap[s.2.2.2]? = some (.cells #[.int .i64 0, .string ⟨#[]⟩, .string ⟨#[]⟩, .slice none 0 0, .slice none 0 0] 30 (0, 0)) ∧ wd.heap.size ≤ s.2.1 ∧ wd.heap.size ≤ s.2.2.1 ∧ wd.heap.size ≤ s.2.2.2 ∧ s.2.1 ≠ s.2.2.1 ∧ s.2.1 ≠ s.2.2.2 ∧ s.2.2.1 ≠ s.2.2.2) ?_ (fun hC6_8_9 => ?_)
    · rintro ⟨a7, a8, g7, g8⟩ w' ⟨S, T, B, h6, h8, h9, n6, n8, n9, d6_8, d6_9, d8_9⟩
      have hHeld_ := True.intro
      refine norm_ (a' := ?_) ?_ ?_
      rotate_left
      · simp only [putAll, Act.put, List.setIfInBounds_toArray, List.set_cons_zero, List.set_cons_succ]
        rfl
      refine one_ (i := 2) (N := some 29) #[true, true, true, false, true, true, true, true, true, true, false, false] rfl rfl (one_of HT_.out (by kernel_rfl)) (by decide) (fun K hK => ?_)
      · clear hHeld_
        go_simp
        refine hK.out _ _ ⟨blk_alloc S _, blk_alloc T _⟩ (fun hHeld_ => ?_)
        refine pure_ (i := 3) (N := some 30) (v := ?_) (a' := ?_) #[true, true, true, true, true, true, true, true, true, true, false, false] rfl rfl (any_of HT_.out (by kernel_rfl)) (fun _ _ _ h => h) (Or.inl ⟨by rfl, ?_⟩) ?_ ?_
        rotate_left
        · intro w'
          go_simp
          with_reducible rfl
        rotate_left
        · simp only [Act.put, List.setIfInBounds_toArray, List.set_cons_zero, List.set_cons_succ]
          rfl
        exact norm_ (by simp only [putAll, Act.put, List.setIfInBounds_toArray, List.set_cons_zero, List.set_cons_succ]) (hC2_6_8_9 (w'.heap.size, a8, g7, g8) _ ⟨hHeld_.1, hHeld_.2, below_alloc B _, heap_new' rfl, blk_alloc h6 _, blk_alloc h8 _, blk_alloc h9 _, B.size, n6, n8, n9, Ne.symm (Nat.ne_of_lt (blk_lt h8)), Ne.symm (Nat.ne_of_lt (blk_lt h9)), d6_8, d6_9, d8_9⟩)
    refine join_ 4 #[true, true, true, true, true, true, true, true, false, false, false, false] (fun s : Nat × Nat × Nat × Nat => [(29, .slice (some ⟨s.1, 0, none⟩) 2 2), (30, .agg #[.int .i64 7, .string ⟨#[]⟩, .string ⟨#[]⟩, .slice none 0 0, .slice (some ⟨s.1, 0, none⟩) 2 2]), (33, .slice (some ⟨s.2.1, 0, none⟩) 2 2), (34, .agg #[.int .i64 7, .string ⟨#[]⟩, .string ⟨#[]⟩, .slice none 0 0, .slice (some ⟨s.2.1, 0, none⟩) 2 2])]) (fun s w' => w'.heap[gP]? = some (.cells #[.int .i64 3, .string ⟨#[112]⟩, .string ⟨#[]⟩, .slice none 0 0, .slice none 0 0] 30 (0, 0)) ∧ w'.heap[gA]? = some (.cells #[.int .i64 11, .string ⟨#[120]⟩, .string ⟨#[65]⟩, .slice none 0 0, .slice (some ⟨bA, 0, none⟩) 1 1] 30 (0, 0)) ∧ Below wd.heap.size wd w' ∧ w'.heap[s.1]? = some (.cells #[.int .i64 3, .string ⟨#[112]⟩, .string ⟨#[]⟩, .slice none 0 0, .slice none 0 0, .int .i64 11, .string ⟨#[120]⟩, .string ⟨#[65]⟩, .slice none 0 0, .slice (some ⟨bA, 0, none⟩) 1 1] 30 (0, 0)) ∧ w'.heap[s.2.1]? = some (.cells #[.int .i64 11, .string ⟨#[120]⟩, .string ⟨#[65]⟩, .slice none 0 0, .slice (some ⟨bA, 0, none⟩) 1 1, .int .i64 3, .string ⟨#[112]⟩, .string ⟨#[]⟩, .slice none 0 0, .slice none 0 0] 30 (0, 0)) ∧ wd.heap.size ≤ s.1 ∧ wd.heap.size ≤ s.2.1) ?_ (fun hC2_6 => ?_)
    · rintro ⟨a7, a8, g7, g8⟩ w' ⟨S, T, B, h2, h6, n2, n6⟩
      have hHeld_ := True.intro
      refine norm_ (a' := ?_) ?_ ?_
      rotate_left
      · simp only [putAll, Act.put, List.setIfInBounds_toArray, List.set_cons_zero, List.set_cons_succ]
        rfl
      refine two_ (i := 8) (j := 9) (Ni := some 7) (Nj := some 8) #[true, true, true, true, true, true, true, true, true, false, false, false] #[true, true, true, true, true, true, true, true, false, true, false, false] rfl rfl rfl rfl (two_of HT_.out (by kernel_rfl)) (by decide) (by decide) (fun K hK => ?_) (fun K hK => ?_)
      · clear hHeld_
        go_simp
        refine hK.out _ _ ⟨blk_alloc S _, blk_alloc T _⟩ (fun hHeld_ => ?_)
        exact norm_ (by simp only [putAll, Act.put, List.setIfInBounds_toArray, List.set_cons_zero, List.set_cons_succ]) (hC2_6_8 (a7, a8, w'.heap.size, 0) _ ⟨hHeld_.1, hHeld_.2, below_alloc B _, blk_alloc h2 _, blk_alloc h6 _, heap_new' rfl, n2, n6, B.size, Nat.ne_of_lt (blk_lt h2), Nat.ne_of_lt (blk_lt h6)⟩)
      · clear hHeld_
        go_simp
        refine hK.out _ _ ⟨blk_alloc S _, blk_alloc T _⟩ (fun hHeld_ => ?_)
        exact norm_ (by simp only [putAll, Act.put, List.setIfInBounds_toArray, List.set_cons_zero, List.set_cons_succ]) (hC2_6_9 (a7, a8, 0, w'.heap.size) _ ⟨hHeld_.1, hHeld_.2, below_alloc B _, blk_alloc h2 _, blk_alloc h6 _, heap_new' rfl, n2, n6, B.size, Nat.ne_of_lt (blk_lt h2), Nat.ne_of_lt (blk_lt h6)⟩)
    refine join_ 5 #[true, true, true, true, true, true, false, false, true, false, false, false] (fun s : Nat × Nat × Nat × Nat => [(7, .pointer (some ⟨s.2.2.1, 0, none⟩)), (29, .slice (some ⟨s.1, 0, none⟩) 2 2), (30, .agg #[.int .i64 7, .string ⟨#[]⟩, .string ⟨#[]⟩, .slice none 0 0, .slice (some ⟨s.1, 0, none⟩) 2 2])]) (fun s w' => w'.heap[gP]? = some (.cells #[.int .i64 3, .string ⟨#[112]⟩, .string ⟨#[]⟩, .slice none 0 0, .slice none 0 0] 30 (0, 0)) ∧ w'.heap[gA]? = some (.cells #[.int .i64 11, .string ⟨#[120]⟩, .string ⟨#[65]⟩, .slice none 0 0, .slice (some ⟨bA, 0, none⟩) 1 1] 30 (0, 0)) ∧ Below wd.heap.size wd w' ∧ w'.heap[s.1]? = some (.cells #[.int .i64 3, .string ⟨#[112]⟩, .string ⟨#[]⟩, .slice none 0 0, .slice none 0 0, .int .i64 11, .string ⟨#[120]⟩, .string ⟨#[65]⟩, .slice none 0 0, .slice (some ⟨bA, 0, none⟩) 1 1] 30 (0, 0)) ∧ w'.heap[s.2.2.1]? = some (.cells #[.int .i64 0, .string ⟨#[]⟩, .string ⟨#[]⟩, .slice none 0 0, .slice none 0 0] 30 (0, 0)) ∧ wd.heap.size ≤ s.1 ∧ wd.heap.size ≤ s.2.2.1 ∧ s.1 ≠ s.2.2.1) ?_ (fun hC2_8 => ?_)
    · rintro ⟨a7, a8, g7, g8⟩ w' ⟨S, T, B, h2, h8, n2, n8, d2_8⟩
      have hHeld_ := True.intro
      refine norm_ (a' := ?_) ?_ ?_
      rotate_left
      · simp only [putAll, Act.put, List.setIfInBounds_toArray, List.set_cons_zero, List.set_cons_succ]
        rfl
      refine two_ (i := 6) (j := 9) (Ni := some 33) (Nj := some 8) #[true, true, true, true, true, true, true, false, true, false, false, false] #[true, true, true, true, true, true, false, false, true, true, false, false] rfl rfl rfl rfl (two_of HT_.out (by kernel_rfl)) (by decide) (by decide) (fun K hK => ?_) (fun K hK => ?_)
      · clear hHeld_
        go_simp
        refine hK.out _ _ ⟨blk_alloc S _, blk_alloc T _⟩ (fun hHeld_ => ?_)
        refine pure_ (i := 7) (N := some 34) (v := ?_) (a' := ?_) #[true, true, true, true, true, true, true, true, true, false, false, false] rfl rfl (any_of HT_.out (by kernel_rfl)) (fun _ _ _ h => h) (Or.inl ⟨by rfl, ?_⟩) ?_ ?_
        rotate_left
        · intro w'
          go_simp
          with_reducible rfl
        rotate_left
        · simp only [Act.put, List.setIfInBounds_toArray, List.set_cons_zero, List.set_cons_succ]
          rfl
        exact norm_ (by simp only [putAll, Act.put, List.setIfInBounds_toArray, List.set_cons_zero, List.set_cons_succ]) (hC2_6_8 (a7, w'.heap.size, g7, 0) _ ⟨hHeld_.1, hHeld_.2, below_alloc B _, blk_alloc h2 _, heap_new' rfl, blk_alloc h8 _, n2, B.size, n8, d2_8, Ne.symm (Nat.ne_of_lt (blk_lt h8))⟩)
      · clear hHeld_
        go_simp
        refine hK.out _ _ ⟨blk_alloc S _, blk_alloc T _⟩ (fun hHeld_ => ?_)
        exact norm_ (by simp only [putAll, Act.put, List.setIfInBounds_toArray, List.set_cons_zero, List.set_cons_succ]) (hC2_8_9 (a7, 0, g7, w'.heap.size) _ ⟨hHeld_.1, hHeld_.2, below_alloc B _, blk_alloc h2 _, blk_alloc h8 _, heap_new' rfl, n2, n8, B.size, d2_8, Nat.ne_of_lt (blk_lt h2), Nat.ne_of_lt (blk_lt h8)⟩)
    refine join_ 5 #[true, true, true, true, true, true, false, false, false, true, false, false] (fun s : Nat × Nat × Nat × Nat => [(8, .pointer (some ⟨s.2.2.2, 0, none⟩)), (29, .slice (some ⟨s.1, 0, none⟩) 2 2), (30, .agg #[.int .i64 7, .string ⟨#[]⟩, .string ⟨#[]⟩, .slice none 0 0, .slice (some ⟨s.1, 0, none⟩) 2 2])]) (fun s w' => w'.heap[gP]? = some (.cells #[.int .i64 3, .string ⟨#[112]⟩, .string ⟨#[]⟩, .slice none 0 0, .slice none 0 0] 30 (0, 0)) ∧ w'.heap[gA]? = some (.cells #[.int .i64 11, .string ⟨#[120]⟩, .string ⟨#[65]⟩, .slice none 0 0, .slice (some ⟨bA, 0, none⟩) 1 1] 30 (0, 0)) ∧ Below wd.heap.size wd w' ∧ w'.heap[s.1]? = some (.cells #[.int .i64 3, .string ⟨#[112]⟩, .string ⟨#[]⟩, .slice none 0 0, .slice none 0 0, .int .i64 11, .string ⟨#[120]⟩, .string ⟨#[65]⟩, .slice none 0 0, .slice (some ⟨bA, 0, none⟩) 1 1] 30 (0, 0)) ∧ w'.heap[s.2.2.2]? = some (.cells #[.int .i64 0, .string ⟨#[]⟩, .string ⟨#[]⟩, .slice none 0 0, .slice none 0 0] 30 (0, 0)) ∧ wd.heap.size ≤ s.1 ∧ wd.heap.size ≤ s.2.2.2 ∧ s.1 ≠ s.2.2.2) ?_ (fun hC2_9 => ?_)
    · rintro ⟨a7, a8, g7, g8⟩ w' ⟨S, T, B, h2, h9, n2, n9, d2_9⟩
      have hHeld_ := True.intro
      refine norm_ (a' := ?_) ?_ ?_
      rotate_left
      · simp only [putAll, Act.put, List.setIfInBounds_toArray, List.set_cons_zero, List.set_cons_succ]
        rfl
      refine two_ (i := 6) (j := 8) (Ni := some 33) (Nj := some 7) #[true, true, true, true, true, true, true, false, false, true, false, false] #[true, true, true, true, true, true, false, false, true, true, false, false] rfl rfl rfl rfl (two_of HT_.out (by kernel_rfl)) (by decide) (by decide) (fun K hK => ?_) (fun K hK => ?_)
      · clear hHeld_
        go_simp
        refine hK.out _ _ ⟨blk_alloc S _, blk_alloc T _⟩ (fun hHeld_ => ?_)
        refine pure_ (i := 7) (N := some 34) (v := ?_) (a' := ?_) #[true, true, true, true, true, true, true, true, false, true, false, false] rfl rfl (any_of HT_.out (by kernel_rfl)) (fun _ _ _ h => h) (Or.inl ⟨by rfl, ?_⟩) ?_ ?_
        rotate_left
        · intro w'
          go_simp
          with_reducible rfl
        rotate_left
        · simp only [Act.put, List.setIfInBounds_toArray, List.set_cons_zero, List.set_cons_succ]
          rfl
        exact norm_ (by simp only [putAll, Act.put, List.setIfInBounds_toArray, List.set_cons_zero, List.set_cons_succ]) (hC2_6_9 (a7, w'.heap.size, 0, g8) _ ⟨hHeld_.1, hHeld_.2, below_alloc B _, blk_alloc h2 _, heap_new' rfl, blk_alloc h9 _, n2, B.size, n9, d2_9, Ne.symm (Nat.ne_of_lt (blk_lt h9))⟩)
      · clear hHeld_
        go_simp
        refine hK.out _ _ ⟨blk_alloc S _, blk_alloc T _⟩ (fun hHeld_ => ?_)
        exact norm_ (by simp only [putAll, Act.put, List.setIfInBounds_toArray, List.set_cons_zero, List.set_cons_succ]) (hC2_8_9 (a7, 0, w'.heap.size, g8) _ ⟨hHeld_.1, hHeld_.2, below_alloc B _, blk_alloc h2 _, heap_new' rfl, blk_alloc h9 _, n2, B.size, n9, Nat.ne_of_lt (blk_lt h2), d2_9, Ne.symm (Nat.ne_of_lt (blk_lt h9))⟩)
    refine join_ 5 #[true, true, false, false, true, true, true, true, true, false, false, false] (fun s : Nat × Nat × Nat × Nat => [(7, .pointer (some ⟨s.2.2.1, 0, none⟩)), (33, .slice (some ⟨s.2.1, 0, none⟩) 2 2), (34, .agg #[.int .i64 7, .string ⟨#[]⟩, .string ⟨#[]⟩, .slice none 0 0, .slice (some ⟨s.2.1, 0, none⟩) 2 2])]) (fun s w' => w'.heap[gP]? = some (.cells #[.int .i64 3, .string ⟨#[112]⟩, .string ⟨#[]⟩, .slice none 0 0, .slice none 0 0] 30 (0, 0)) ∧ w'.heap[gA]? = some (.cells #[.int .i64 11, .string ⟨#[120]⟩, .string ⟨#[65]⟩, .slice none 0 0, .slice (some ⟨bA, 0, none⟩) 1 1] 30 (0, 0)) ∧ Below wd.heap.size wd w' ∧ w'.heap[s.2.1]? = some (.cells #[.int .i64 11, .string ⟨#[120]⟩, .string ⟨#[65]⟩, .slice none 0 0, .slice (some ⟨bA, 0, none⟩) 1 1, .int .i64 3, .string ⟨#[112]⟩, .string ⟨#[]⟩, .slice none 0 0, .slice none 0 0] 30 (0, 0)) ∧ w'.heap[s.2.2.1]? = some (.cells #[.int .i64 0, .string ⟨#[]⟩, .string ⟨#[]⟩, .slice none 0 0, .slice none 0 0] 30 (0, 0)) ∧ wd.heap.size ≤ s.2.1 ∧ wd.heap.size ≤ s.2.2.1 ∧ s.2.1 ≠ s.2.2.1) ?_ (fun hC6_8 => ?_)
    · rintro ⟨a7, a8, g7, g8⟩ w' ⟨S, T, B, h6, h8, n6, n8, d6_8⟩
      have hHeld_ := True.intro
      refine norm_ (a' := ?_) ?_ ?_
      rotate_left
      · simp only [putAll, Act.put, List.setIfInBounds_toArray, List.set_cons_zero, List.set_cons_succ]
        rfl
      refine two_ (i := 2) (j := 9) (Ni := some 29) (Nj := some 8) #[true, true, true, false, true, true, true, true, true, false, false, false] #[true, true, false, false, true, true, true, true, true, true, false, false] rfl rfl rfl rfl (two_of HT_.out (by kernel_rfl)) (by decide) (by decide) (fun K hK => ?_) (fun K hK => ?_)
      · clear hHeld_
        go_simp
        refine hK.out _ _ ⟨blk_alloc S _, blk_alloc T _⟩ (fun hHeld_ => ?_)
        refine pure_ (i := 3) (N := some 30) (v := ?_) (a' := ?_) #[true, true, true, true, true, true, true, true, true, false, false, false] rfl rfl (any_of HT_.out (by kernel_rfl)) (fun _ _ _ h => h) (Or.inl ⟨by rfl, ?_⟩) ?_ ?_
        rotate_left
        · intro w'
          go_simp
          with_reducible rfl
        rotate_left
        · simp only [Act.put, List.setIfInBounds_toArray, List.set_cons_zero, List.set_cons_succ]
          rfl
        exact norm_ (by simp only [putAll, Act.put, List.setIfInBounds_toArray, List.set_cons_zero, List.set_cons_succ]) (hC2_6_8 (w'.heap.size, a8, g7, 0) _ ⟨hHeld_.1, hHeld_.2, below_alloc B _, heap_new' rfl, blk_alloc h6 _, blk_alloc h8 _, B.size, n6, n8, Ne.symm (Nat.ne_of_lt (blk_lt h8)), d6_8⟩)
      · clear hHeld_
        go_simp
        refine hK.out _ _ ⟨blk_alloc S _, blk_alloc T _⟩ (fun hHeld_ => ?_)
        exact norm_ (by simp only [putAll, Act.put, List.setIfInBounds_toArray, List.set_cons_zero, List.set_cons_succ]) (hC6_8_9 (0, a8, g7, w'.heap.size) _ ⟨hHeld_.1, hHeld_.2, below_alloc B _, blk_alloc h6 _, blk_alloc h8 _, heap_new' rfl, n6, n8, B.size, d6_8, Nat.ne_of_lt (blk_lt h6), Nat.ne_of_lt (blk_lt h8)⟩)
    refine join_ 5 #[true, true, false, false, true, true, true, true, false, true, false, false] (fun s : Nat × Nat × Nat × Nat => [(8, .pointer (some ⟨s.2.2.2, 0, none⟩)), (33, .slice (some ⟨s.2.1, 0, none⟩) 2 2), (34, .agg #[.int .i64 7, .string ⟨#[]⟩, .string ⟨#[]⟩, .slice none 0 0, .slice (some ⟨s.2.1, 0, none⟩) 2 2])]) (fun s w' => w'.heap[gP]? = some (.cells #[.int .i64 3, .string ⟨#[112]⟩, .string ⟨#[]⟩, .slice none 0 0, .slice none 0 0] 30 (0, 0)) ∧ w'.heap[gA]? = some (.cells #[.int .i64 11, .string ⟨#[120]⟩, .string ⟨#[65]⟩, .slice none 0 0, .slice (some ⟨bA, 0, none⟩) 1 1] 30 (0, 0)) ∧ Below wd.heap.size wd w' ∧ w'.heap[s.2.1]? = some (.cells #[.int .i64 11, .string ⟨#[120]⟩, .string ⟨#[65]⟩, .slice none 0 0, .slice (some ⟨bA, 0, none⟩) 1 1, .int .i64 3, .string ⟨#[112]⟩, .string ⟨#[]⟩, .slice none 0 0, .slice none 0 0] 30 (0, 0)) ∧ w'.heap[s.2.2.2]? = some (.cells #[.int .i64 0, .string ⟨#[]⟩, .string ⟨#[]⟩, .slice none 0 0, .slice none 0 0] 30 (0, 0)) ∧ wd.heap.size ≤ s.2.1 ∧ wd.heap.size ≤ s.2.2.2 ∧ s.2.1 ≠ s.2.2.2) ?_ (fun hC6_9 => ?_)
    · rintro ⟨a7, a8, g7, g8⟩ w' ⟨S, T, B, h6, h9, n6, n9, d6_9⟩
      have hHeld_ := True.intro
      refine norm_ (a' := ?_) ?_ ?_
      rotate_left
      · simp only [putAll, Act.put, List.setIfInBounds_toArray, List.set_cons_zero, List.set_cons_succ]
        rfl
      refine two_ (i := 2) (j := 8) (Ni := some 29) (Nj := some 7) #[true, true, true, false, true, true, true, true, false, true, false, false] #[true, true, false, false, true, true, true, true, true, true, false, false] rfl rfl rfl rfl (two_of HT_.out (by kernel_rfl)) (by decide) (by decide) (fun K hK => ?_) (fun K hK => ?_)
      · clear hHeld_
        go_simp
        refine hK.out _ _ ⟨blk_alloc S _, blk_alloc T _⟩ (fun hHeld_ => ?_)
        refine pure_ (i := 3) (N := some 30) (v := ?_) (a' := ?_) #[true, true, true, true, true, true, true, true, false, true, false, false] rfl rfl (any_of HT_.out (by kernel_rfl)) (fun _ _ _ h => h) (Or.inl ⟨by rfl, ?_⟩) ?_ ?_
        rotate_left
        · intro w'
          go_simp
          with_reducible rfl
        rotate_left
        · simp only [Act.put, List.setIfInBounds_toArray, List.set_cons_zero, List.set_cons_succ]
          rfl
        exact norm_ (by simp only [putAll, Act.put, List.setIfInBounds_toArray, List.set_cons_zero, List.set_cons_succ]) (hC2_6_9 (w'.heap.size, a8, 0, g8) _ ⟨hHeld_.1, hHeld_.2, below_alloc B _, heap_new' rfl, blk_alloc h6 _, blk_alloc h9 _, B.size, n6, n9, Ne.symm (Nat.ne_of_lt (blk_lt h9)), d6_9⟩)
      · clear hHeld_
        go_simp
        refine hK.out _ _ ⟨blk_alloc S _, blk_alloc T _⟩ (fun hHeld_ => ?_)
        exact norm_ (by simp only [putAll, Act.put, List.setIfInBounds_toArray, List.set_cons_zero, List.set_cons_succ]) (hC6_8_9 (0, a8, w'.heap.size, g8) _ ⟨hHeld_.1, hHeld_.2, below_alloc B _, blk_alloc h6 _, heap_new' rfl, blk_alloc h9 _, n6, B.size, n9, Nat.ne_of_lt (blk_lt h6), d6_9, Ne.symm (Nat.ne_of_lt (blk_lt h9))⟩)
    refine join_ 6 #[true, true, false, false, true, true, false, false, true, true, false, false] (fun s : Nat × Nat × Nat × Nat => [(7, .pointer (some ⟨s.2.2.1, 0, none⟩)), (8, .pointer (some ⟨s.2.2.2, 0, none⟩))]) (fun s w' => w'.heap[gP]? = some (.cells #[.int .i64 3, .string ⟨#[112]⟩, .string ⟨#[]⟩, .slice none 0 0, .slice none 0 0] 30 (0, 0)) ∧ w'.heap[gA]? = some (.cells #[.int .i64 11, .string ⟨#[120]⟩, .string ⟨#[65]⟩, .slice none 0 0, .slice (some ⟨bA, 0, none⟩) 1 1] 30 (0, 0)) ∧ Below wd.heap.size wd w' ∧ w'.heap[s.2.2.1]? = some (.cells #[.int .i64 0, .string ⟨#[]⟩, .string ⟨#[]⟩, .slice none 0 0, .slice none 0 0] 30 (0, 0)) ∧ w'.heap[s.2.2.2]? = some (.cells #[.int .i64 0, .string ⟨#[]⟩, .string ⟨#[]⟩, .slice none 0 0, .slice none 0 0] 30 (0, 0)) ∧ wd.heap.size ≤ s.2.2.1 ∧ wd.heap.size ≤ s.2.2.2 ∧ s.2.2.1 ≠ s.2.2.2) ?_ (fun hC8_9 => ?_)
    · rintro ⟨a7, a8, g7, g8⟩ w' ⟨S, T, B, h8, h9, n8, n9, d8_9⟩
      have hHeld_ := True.intro
      refine norm_ (a' := ?_) ?_ ?_
      rotate_left
      · simp only [putAll, Act.put, List.setIfInBounds_toArray, List.set_cons_zero, List.set_cons_succ]
        rfl
      refine two_ (i := 2) (j := 6) (Ni := some 29) (Nj := some 33) #[true, true, true, false, true, true, false, false, true, true, false, false] #[true, true, false, false, true, true, true, false, true, true, false, false] rfl rfl rfl rfl (two_of HT_.out (by kernel_rfl)) (by decide) (by decide) (fun K hK => ?_) (fun K hK => ?_)
      · clear hHeld_
        go_simp
        refine hK.out _ _ ⟨blk_alloc S _, blk_alloc T _⟩ (fun hHeld_ => ?_)
        refine pure_ (i := 3) (N := some 30) (v := ?_) (a' := ?_) #[true, true, true, true, true, true, false, false, true, true, false, false] rfl rfl (any_of HT_.out (by kernel_rfl)) (fun _ _ _ h => h) (Or.inl ⟨by rfl, ?_⟩) ?_ ?_
        rotate_left
        · intro w'
          go_simp
          with_reducible rfl
        rotate_left
        · simp only [Act.put, List.setIfInBounds_toArray, List.set_cons_zero, List.set_cons_succ]
          rfl
        exact norm_ (by simp only [putAll, Act.put, List.setIfInBounds_toArray, List.set_cons_zero, List.set_cons_succ]) (hC2_8_9 (w'.heap.size, 0, g7, g8) _ ⟨hHeld_.1, hHeld_.2, below_alloc B _, heap_new' rfl, blk_alloc h8 _, blk_alloc h9 _, B.size, n8, n9, Ne.symm (Nat.ne_of_lt (blk_lt h8)), Ne.symm (Nat.ne_of_lt (blk_lt h9)), d8_9⟩)
      · clear hHeld_
        go_simp
        refine hK.out _ _ ⟨blk_alloc S _, blk_alloc T _⟩ (fun hHeld_ => ?_)
        refine pure_ (i := 7) (N := some 34) (v := ?_) (a' := ?_) #[true, true, false, false, true, true, true, true, true, true, false, false] rfl rfl (any_of HT_.out (by kernel_rfl)) (fun _ _ _ h => h) (Or.inl ⟨by rfl, ?_⟩) ?_ ?_
        rotate_left
        · intro w'
          go_simp
          with_reducible rfl
        rotate_left
        · simp only [Act.put, List.setIfInBounds_toArray, List.set_cons_zero, List.set_cons_succ]
          rfl
        exact norm_ (by simp only [putAll, Act.put, List.setIfInBounds_toArray, List.set_cons_zero, List.set_cons_succ]) (hC6_8_9 (0, w'.heap.size, g7, g8) _ ⟨hHeld_.1, hHeld_.2, below_alloc B _, heap_new' rfl, blk_alloc h8 _, blk_alloc h9 _, B.size, n8, n9, Ne.symm (Nat.ne_of_lt (blk_lt h8)), Ne.symm (Nat.ne_of_lt (blk_lt h9)), d8_9⟩)
    refine join_ 6 #[true, true, true, true, true, true, false, false, false, false, false, false] (fun s : Nat × Nat × Nat × Nat => [(29, .slice (some ⟨s.1, 0, none⟩) 2 2), (30, .agg #[.int .i64 7, .string ⟨#[]⟩, .string ⟨#[]⟩, .slice none 0 0, .slice (some ⟨s.1, 0, none⟩) 2 2])]) (fun s w' => w'.heap[gP]? = some (.cells #[.int .i64 3, .string ⟨#[112]⟩, .string ⟨#[]⟩, .slice none 0 0, .slice none 0 0] 30 (0, 0)) ∧ w'.heap[gA]? = some (.cells #[.int .i64 11, .string ⟨#[120]⟩, .string ⟨#[65]⟩, .slice none 0 0, .slice (some ⟨bA, 0, none⟩) 1 1] 30 (0, 0)) ∧ Below wd.heap.size wd w' ∧ w'.heap[s.1]? = some (.cells #[.int .i64 3, .string ⟨#[112]⟩, .string ⟨#[]⟩, .slice none 0 0, .slice none 0 0, .int .i64 11, .string ⟨#[120]⟩, .string ⟨#[65]⟩, .slice none 0 0, .slice (some ⟨bA, 0, none⟩) 1 1] 30 (0, 0)) ∧ wd.heap.size ≤ s.1) ?_ (fun hC2 => ?_)
    · rintro ⟨a7, a8, g7, g8⟩ w' ⟨S, T, B, h2, n2⟩
      have hHeld_ := True.intro
      refine norm_ (a' := ?_) ?_ ?_
      rotate_left
      · simp only [putAll, Act.put, List.setIfInBounds_toArray, List.set_cons_zero, List.set_cons_succ]
        rfl
      refine three_ (i := 6) (j := 8) (k := 9) (Ni := some 33) (Nj := some 7) (Nk := some 8) #[true, true, true, true, true, true, true, false, false, false, false, false] #[true, true, true, true, true, true, false, false, true, false, false, false] #[true, true, true, true, true, true, false, false, false, true, false, false] rfl rfl rfl rfl rfl rfl (three_of HT_.out (by kernel_rfl)) (by decide) (by decide) (by decide) (fun K hK => ?_) (fun K hK => ?_) (fun K hK => ?_)
      · clear hHeld_
        go_simp
        refine hK.out _ _ ⟨blk_alloc S _, blk_alloc T _⟩ (fun hHeld_ => ?_)
        refine pure_ (i := 7) (N := some 34) (v := ?_) (a' := ?_) #[true, true, true, true, true, true, true, true, false, false, false, false] rfl rfl (any_of HT_.out (by kernel_rfl)) (fun _ _ _ h => h) (Or.inl ⟨by rfl, ?_⟩) ?_ ?_
        rotate_left
        · intro w'
          go_simp
          with_reducible rfl
        rotate_left
        · simp only [Act.put, List.setIfInBounds_toArray, List.set_cons_zero, List.set_cons_succ]
          rfl
        exact norm_ (by simp only [putAll, Act.put, List.setIfInBounds_toArray, List.set_cons_zero, List.set_cons_succ]) (hC2_6 (a7, w'.heap.size, 0, 0) _ ⟨hHeld_.1, hHeld_.2, below_alloc B _, blk_alloc h2 _, heap_new' rfl, n2, B.size⟩)
      · clear hHeld_
        go_simp
        refine hK.out _ _ ⟨blk_alloc S _, blk_alloc T _⟩ (fun hHeld_ => ?_)
        exact norm_ (by simp only [putAll, Act.put, List.setIfInBounds_toArray, List.set_cons_zero, List.set_cons_succ]) (hC2_8 (a7, 0, w'.heap.size, 0) _ ⟨hHeld_.1, hHeld_.2, below_alloc B _, blk_alloc h2 _, heap_new' rfl, n2, B.size, Nat.ne_of_lt (blk_lt h2)⟩)
      · clear hHeld_
        go_simp
        refine hK.out _ _ ⟨blk_alloc S _, blk_alloc T _⟩ (fun hHeld_ => ?_)
        exact norm_ (by simp only [putAll, Act.put, List.setIfInBounds_toArray, List.set_cons_zero, List.set_cons_succ]) (hC2_9 (a7, 0, 0, w'.heap.size) _ ⟨hHeld_.1, hHeld_.2, below_alloc B _, blk_alloc h2 _, heap_new' rfl, n2, B.size, Nat.ne_of_lt (blk_lt h2)⟩)
    refine join_ 6 #[true, true, false, false, true, true, true, true, false, false, false, false] (fun s : Nat × Nat × Nat × Nat => [(33, .slice (some ⟨s.2.1, 0, none⟩) 2 2), (34, .agg #[.int .i64 7, .string ⟨#[]⟩, .string ⟨#[]⟩, .slice none 0 0, .slice (some ⟨s.2.1, 0, none⟩) 2 2])]) (fun s w' => w'.heap[gP]? = some (.cells #[.int .i64 3, .string ⟨#[112]⟩, .string ⟨#[]⟩, .slice none 0 0, .slice none 0 0] 30 (0, 0)) ∧ w'.heap[gA]? = some (.cells #[.int .i64 11, .string ⟨#[120]⟩, .string ⟨#[65]⟩, .slice none 0 0, .slice (some ⟨bA, 0, none⟩) 1 1] 30 (0, 0)) ∧ Below wd.heap.size wd w' ∧ w'.heap[s.2.1]? = some (.cells #[.int .i64 11, .string ⟨#[120]⟩, .string ⟨#[65]⟩, .slice none 0 0, .slice (some ⟨bA, 0, none⟩) 1 1, .int .i64 3, .string ⟨#[112]⟩, .string ⟨#[]⟩, .slice none 0 0, .slice none 0 0] 30 (0, 0)) ∧ wd.heap.size ≤ s.2.1) ?_ (fun hC6 => ?_)
    · rintro ⟨a7, a8, g7, g8⟩ w' ⟨S, T, B, h6, n6⟩
      have hHeld_ := True.intro
      refine norm_ (a' := ?_) ?_ ?_
      rotate_left
      · simp only [putAll, Act.put, List.setIfInBounds_toArray, List.set_cons_zero, List.set_cons_succ]
        rfl
      refine three_ (i := 2) (j := 8) (k := 9) (Ni := some 29) (Nj := some 7) (Nk := some 8) #[true, true, true, false, true, true, true, true, false, false, false, false] #[true, true, false, false, true, true, true, true, true, false, false, false] #[true, true, false, false, true, true, true, true, false, true, false, false] rfl rfl rfl rfl rfl rfl (three_of HT_.out (by kernel_rfl)) (by decide) (by decide) (by decide) (fun K hK => ?_) (fun K hK => ?_) (fun K hK => ?_)
      · clear hHeld_
        go_simp
        refine hK.out _ _ ⟨blk_alloc S _, blk_alloc T _⟩ (fun hHeld_ => ?_)
        refine pure_ (i := 3) (N := some 30) (v := ?_) (a' := ?_) #[true, true, true, true, true, true, true, true, false, false, false, false] rfl rfl (any_of HT_.out (by kernel_rfl)) (fun _ _ _ h => h) (Or.inl ⟨by rfl, ?_⟩) ?_ ?_
        rotate_left
        · intro w'
          go_simp
          with_reducible rfl
        rotate_left
        · simp only [Act.put, List.setIfInBounds_toArray, List.set_cons_zero, List.set_cons_succ]
          rfl
        exact norm_ (by simp only [putAll, Act.put, List.setIfInBounds_toArray, List.set_cons_zero, List.set_cons_succ]) (hC2_6 (w'.heap.size, a8, 0, 0) _ ⟨hHeld_.1, hHeld_.2, below_alloc B _, heap_new' rfl, blk_alloc h6 _, B.size, n6⟩)
      · clear hHeld_
        go_simp
        refine hK.out _ _ ⟨blk_alloc S _, blk_alloc T _⟩ (fun hHeld_ => ?_)
        exact norm_ (by simp only [putAll, Act.put, List.setIfInBounds_toArray, List.set_cons_zero, List.set_cons_succ]) (hC6_8 (0, a8, w'.heap.size, 0) _ ⟨hHeld_.1, hHeld_.2, below_alloc B _, blk_alloc h6 _, heap_new' rfl, n6, B.size, Nat.ne_of_lt (blk_lt h6)⟩)
      · clear hHeld_
        go_simp
        refine hK.out _ _ ⟨blk_alloc S _, blk_alloc T _⟩ (fun hHeld_ => ?_)
        exact norm_ (by simp only [putAll, Act.put, List.setIfInBounds_toArray, List.set_cons_zero, List.set_cons_succ]) (hC6_9 (0, a8, 0, w'.heap.size) _ ⟨hHeld_.1, hHeld_.2, below_alloc B _, blk_alloc h6 _, heap_new' rfl, n6, B.size, Nat.ne_of_lt (blk_lt h6)⟩)
    refine join_ 7 #[true, true, false, false, true, true, false, false, true, false, false, false] (fun s : Nat × Nat × Nat × Nat => [(7, .pointer (some ⟨s.2.2.1, 0, none⟩))]) (fun s w' => w'.heap[gP]? = some (.cells #[.int .i64 3, .string ⟨#[112]⟩, .string ⟨#[]⟩, .slice none 0 0, .slice none 0 0] 30 (0, 0)) ∧ w'.heap[gA]? = some (.cells #[.int .i64 11, .string ⟨#[120]⟩, .string ⟨#[65]⟩, .slice none 0 0, .slice (some ⟨bA, 0, none⟩) 1 1] 30 (0, 0)) ∧ Below wd.heap.size wd w' ∧ w'.heap[s.2.2.1]? = some (.cells #[.int .i64 0, .string ⟨#[]⟩, .string ⟨#[]⟩, .slice none 0 0, .slice none 0 0] 30 (0, 0)) ∧ wd.heap.size ≤ s.2.2.1) ?_ (fun hC8 => ?_)
    · rintro ⟨a7, a8, g7, g8⟩ w' ⟨S, T, B, h8, n8⟩
      have hHeld_ := True.intro
      refine norm_ (a' := ?_) ?_ ?_
      rotate_left
      · simp only [putAll, Act.put, List.setIfInBounds_toArray, List.set_cons_zero, List.set_cons_succ]
        rfl
      refine three_ (i := 2) (j := 6) (k := 9) (Ni := some 29) (Nj := some 33) (Nk := some 8) #[true, true, true, false, true, true, false, false, true, false, false, false] #[true, true, false, false, true, true, true, false, true, false, false, false] #[true, true, false, false, true, true, false, false, true, true, false, false] rfl rfl rfl rfl rfl rfl (three_of HT_.out (by kernel_rfl)) (by decide) (by decide) (by decide) (fun K hK => ?_) (fun K hK => ?_) (fun K hK => ?_)
      · clear hHeld_
        go_simp
        refine hK.out _ _ ⟨blk_alloc S _, blk_alloc T _⟩ (fun hHeld_ => ?_)
        refine pure_ (i := 3) (N := some 30) (v := ?_) (a' := ?_) #[true, true, true, true, true, true, false, false, true, false, false, false] rfl rfl (any_of HT_.out (by kernel_rfl)) (fun _ _ _ h => h) (Or.inl ⟨by rfl, ?_⟩) ?_ ?_
        rotate_left
        · intro w'
          go_simp
          with_reducible rfl
        rotate_left
        · simp only [Act.put, List.setIfInBounds_toArray, List.set_cons_zero, List.set_cons_succ]
          rfl
        exact norm_ (by simp only [putAll, Act.put, List.setIfInBounds_toArray, List.set_cons_zero, List.set_cons_succ]) (hC2_8 (w'.heap.size, 0, g7, 0) _ ⟨hHeld_.1, hHeld_.2, below_alloc B _, heap_new' rfl, blk_alloc h8 _, B.size, n8, Ne.symm (Nat.ne_of_lt (blk_lt h8))⟩)
      · clear hHeld_
        go_simp
        refine hK.out _ _ ⟨blk_alloc S _, blk_alloc T _⟩ (fun hHeld_ => ?_)
        refine pure_ (i := 7) (N := some 34) (v := ?_) (a' := ?_) #[true, true, false, false, true, true, true, true, true, false, false, false] rfl rfl (any_of HT_.out (by kernel_rfl)) (fun _ _ _ h => h) (Or.inl ⟨by rfl, ?_⟩) ?_ ?_
        rotate_left
        · intro w'
          go_simp
          with_reducible rfl
        rotate_left
        · simp only [Act.put, List.setIfInBounds_toArray, List.set_cons_zero, List.set_cons_succ]
          rfl
        exact norm_ (by simp only [putAll, Act.put, List.setIfInBounds_toArray, List.set_cons_zero, List.set_cons_succ]) (hC6_8 (0, w'.heap.size, g7, 0) _ ⟨hHeld_.1, hHeld_.2, below_alloc B _, heap_new' rfl, blk_alloc h8 _, B.size, n8, Ne.symm (Nat.ne_of_lt (blk_lt h8))⟩)
      · clear hHeld_
        go_simp
        refine hK.out _ _ ⟨blk_alloc S _, blk_alloc T _⟩ (fun hHeld_ => ?_)
        exact norm_ (by simp only [putAll, Act.put, List.setIfInBounds_toArray, List.set_cons_zero, List.set_cons_succ]) (hC8_9 (0, 0, g7, w'.heap.size) _ ⟨hHeld_.1, hHeld_.2, below_alloc B _, blk_alloc h8 _, heap_new' rfl, n8, B.size, Nat.ne_of_lt (blk_lt h8)⟩)
    refine join_ 7 #[true, true, false, false, true, true, false, false, false, true, false, false] (fun s : Nat × Nat × Nat × Nat => [(8, .pointer (some ⟨s.2.2.2, 0, none⟩))]) (fun s w' => w'.heap[gP]? = some (.cells #[.int .i64 3, .string ⟨#[112]⟩, .string ⟨#[]⟩, .slice none 0 0, .slice none 0 0] 30 (0, 0)) ∧ w'.heap[gA]? = some (.cells #[.int .i64 11, .string ⟨#[120]⟩, .string ⟨#[65]⟩, .slice none 0 0, .slice (some ⟨bA, 0, none⟩) 1 1] 30 (0, 0)) ∧ Below wd.heap.size wd w' ∧ w'.heap[s.2.2.2]? = some (.cells #[.int .i64 0, .string ⟨#[]⟩, .string ⟨#[]⟩, .slice none 0 0, .slice none 0 0] 30 (0, 0)) ∧ wd.heap.size ≤ s.2.2.2) ?_ (fun hC9 => ?_)
    · rintro ⟨a7, a8, g7, g8⟩ w' ⟨S, T, B, h9, n9⟩
      have hHeld_ := True.intro
      refine norm_ (a' := ?_) ?_ ?_
      rotate_left
      · simp only [putAll, Act.put, List.setIfInBounds_toArray, List.set_cons_zero, List.set_cons_succ]
        rfl
      refine three_ (i := 2) (j := 6) (k := 8) (Ni := some 29) (Nj := some 33) (Nk := some 7) #[true, true, true, false, true, true, false, false, false, true, false, false] #[true, true, false, false, true, true, true, false, false, true, false, false] #[true, true, false, false, true, true, false, false, true, true, false, false] rfl rfl rfl rfl rfl rfl (three_of HT_.out (by kernel_rfl)) (by decide) (by decide) (by decide) (fun K hK => ?_) (fun K hK => ?_) (fun K hK => ?_)
      · clear hHeld_
        go_simp
        refine hK.out _ _ ⟨blk_alloc S _, blk_alloc T _⟩ (fun hHeld_ => ?_)
        refine pure_ (i := 3) (N := some 30) (v := ?_) (a' := ?_) #[true, true, true, true, true, true, false, false, false, true, false, false] rfl rfl (any_of HT_.out (by kernel_rfl)) (fun _ _ _ h => h) (Or.inl ⟨by rfl, ?_⟩) ?_ ?_
        rotate_left
        · intro w'
          go_simp
          with_reducible rfl
        rotate_left
        · simp only [Act.put, List.setIfInBounds_toArray, List.set_cons_zero, List.set_cons_succ]
          rfl
        exact norm_ (by simp only [putAll, Act.put, List.setIfInBounds_toArray, List.set_cons_zero, List.set_cons_succ]) (hC2_9 (w'.heap.size, 0, 0, g8) _ ⟨hHeld_.1, hHeld_.2, below_alloc B _, heap_new' rfl, blk_alloc h9 _, B.size, n9, Ne.symm (Nat.ne_of_lt (blk_lt h9))⟩)
      · clear hHeld_
        go_simp
        refine hK.out _ _ ⟨blk_alloc S _, blk_alloc T _⟩ (fun hHeld_ => ?_)
        refine pure_ (i := 7) (N := some 34) (v := ?_) (a' := ?_) #[true, true, false, false, true, true, true, true, false, true, false, false] rfl rfl (any_of HT_.out (by kernel_rfl)) (fun _ _ _ h => h) (Or.inl ⟨by rfl, ?_⟩) ?_ ?_
        rotate_left
        · intro w'
          go_simp
          with_reducible rfl
        rotate_left
        · simp only [Act.put, List.setIfInBounds_toArray, List.set_cons_zero, List.set_cons_succ]
          rfl
        exact norm_ (by simp only [putAll, Act.put, List.setIfInBounds_toArray, List.set_cons_zero, List.set_cons_succ]) (hC6_9 (0, w'.heap.size, 0, g8) _ ⟨hHeld_.1, hHeld_.2, below_alloc B _, heap_new' rfl, blk_alloc h9 _, B.size, n9, Ne.symm (Nat.ne_of_lt (blk_lt h9))⟩)
      · clear hHeld_
        go_simp
        refine hK.out _ _ ⟨blk_alloc S _, blk_alloc T _⟩ (fun hHeld_ => ?_)
        exact norm_ (by simp only [putAll, Act.put, List.setIfInBounds_toArray, List.set_cons_zero, List.set_cons_succ]) (hC8_9 (0, 0, w'.heap.size, g8) _ ⟨hHeld_.1, hHeld_.2, below_alloc B _, heap_new' rfl, blk_alloc h9 _, B.size, n9, Ne.symm (Nat.ne_of_lt (blk_lt h9))⟩)
    have S := hHeld.1
    have T := hHeld.2
    have B := Below.refl wd.heap.size wd
    have hHeld_ := True.intro
    refine four_ (i := 2) (j := 6) (k := 8) (m := 9) (Ni := some 29) (Nj := some 33) (Nk := some 7) (Nm := some 8) #[true, true, true, false, true, true, false, false, false, false, false, false] #[true, true, false, false, true, true, true, false, false, false, false, false] #[true, true, false, false, true, true, false, false, true, false, false, false] #[true, true, false, false, true, true, false, false, false, true, false, false] rfl rfl rfl rfl rfl rfl rfl rfl (four_of HT_.out (by kernel_rfl)) (by decide) (by decide) (by decide) (by decide) (fun K hK => ?_) (fun K hK => ?_) (fun K hK => ?_) (fun K hK => ?_)
    · clear hHeld_
      go_simp
      refine hK.out _ _ ⟨blk_alloc S _, blk_alloc T _⟩ (fun hHeld_ => ?_)
      refine pure_ (i := 3) (N := some 30) (v := ?_) (a' := ?_) #[true, true, true, true, true, true, false, false, false, false, false, false] rfl rfl (any_of HT_.out (by kernel_rfl)) (fun _ _ _ h => h) (Or.inl ⟨by rfl, ?_⟩) ?_ ?_
      rotate_left
      · intro w'
        go_simp
        with_reducible rfl
      rotate_left
      · simp only [Act.put, List.setIfInBounds_toArray, List.set_cons_zero, List.set_cons_succ]
        rfl
      exact norm_ (by simp only [putAll, Act.put, List.setIfInBounds_toArray, List.set_cons_zero, List.set_cons_succ]) (hC2 (wd.heap.size, 0, 0, 0) _ ⟨hHeld_.1, hHeld_.2, below_alloc B _, heap_new' rfl, B.size⟩)
    · clear hHeld_
      go_simp
      refine hK.out _ _ ⟨blk_alloc S _, blk_alloc T _⟩ (fun hHeld_ => ?_)
      refine pure_ (i := 7) (N := some 34) (v := ?_) (a' := ?_) #[true, true, false, false, true, true, true, true, false, false, false, false] rfl rfl (any_of HT_.out (by kernel_rfl)) (fun _ _ _ h => h) (Or.inl ⟨by rfl, ?_⟩) ?_ ?_
      rotate_left
      · intro w'
        go_simp
        with_reducible rfl
      rotate_left
      · simp only [Act.put, List.setIfInBounds_toArray, List.set_cons_zero, List.set_cons_succ]
        rfl
      exact norm_ (by simp only [putAll, Act.put, List.setIfInBounds_toArray, List.set_cons_zero, List.set_cons_succ]) (hC6 (0, wd.heap.size, 0, 0) _ ⟨hHeld_.1, hHeld_.2, below_alloc B _, heap_new' rfl, B.size⟩)
    · clear hHeld_
      go_simp
      refine hK.out _ _ ⟨blk_alloc S _, blk_alloc T _⟩ (fun hHeld_ => ?_)
      exact norm_ (by simp only [putAll, Act.put, List.setIfInBounds_toArray, List.set_cons_zero, List.set_cons_succ]) (hC8 (0, 0, wd.heap.size, 0) _ ⟨hHeld_.1, hHeld_.2, below_alloc B _, heap_new' rfl, B.size⟩)
    · clear hHeld_
      go_simp
      refine hK.out _ _ ⟨blk_alloc S _, blk_alloc T _⟩ (fun hHeld_ => ?_)
      exact norm_ (by simp only [putAll, Act.put, List.setIfInBounds_toArray, List.set_cons_zero, List.set_cons_succ]) (hC9 (0, 0, 0, wd.heap.size) _ ⟨hHeld_.1, hHeld_.2, below_alloc B _, heap_new' rfl, B.size⟩)
  case rest =>
  clear HP HA
  obtain ⟨g7, g8, a7, a8, rfl, rfl, HBd, H7, H8, HA7, HA8⟩ := hcut
  have HB2 := Aside0.mk (below_step HB.out HBd.out)
  have HT2 := Aside0.mk (blk_below HT.out HBd.out)
  have HTA2 := Aside0.mk (Kd.C_below HTA.out HBd.out)
  have HAS2 := Aside0.mk (Kd.C_below HAS.out HBd.out)
  clear HB HT HTA HAS HBd
  have HC7 := Aside0.mk (C_block2 (d := k30) (e := 30) (x := cp) (y := call) (c := [.int .i64 3, .string ⟨#[112]⟩, .string ⟨#[]⟩, .slice none 0 0, .slice none 0 0]) (c' := [.int .i64 11, .string ⟨#[120]⟩, .string ⟨#[65]⟩, .slice none 0 0, .slice (some ⟨bA, 0, none⟩) 1 1]) HA7.out (k30_mk _ cp (by decide) (Kd.C_nil _ _) (by decide) (Kd.C_nil _ _)) rfl (k30_mk _ call (by decide) (Kd.C_nil _ _) (A4 := some ⟨bA, 0, none⟩) (c4 := 1) (by decide) HAS2.out) rfl)
  have HC8 := Aside0.mk (C_block2 (d := k30) (e := 30) (x := call) (y := cp) (c := [.int .i64 11, .string ⟨#[120]⟩, .string ⟨#[65]⟩, .slice none 0 0, .slice (some ⟨bA, 0, none⟩) 1 1]) (c' := [.int .i64 3, .string ⟨#[112]⟩, .string ⟨#[]⟩, .slice none 0 0, .slice none 0 0]) HA8.out (k30_mk _ call (by decide) (Kd.C_nil _ _) (A4 := some ⟨bA, 0, none⟩) (c4 := 1) (by decide) HAS2.out) rfl (k30_mk _ cp (by decide) (Kd.C_nil _ _) (by decide) (Kd.C_nil _ _)) rfl)
  clear HA7 HA8 HAS2
  have hz0 := (blk_cell HT2.out 0).trans rfl
  have hz1 := (blk_cell HT2.out 1).trans rfl
  have hz2 := (blk_cell HT2.out 2).trans rfl
  have hz3 := (blk_cell HT2.out 3).trans rfl
  go_wp2_with (fail)
  refine (show_Term.calls 40 6 ⟨#[]⟩ 0 _ _ [tmul, tadd] _ _ (HG.out.below HB2.out) HTA2.out (Nat.le_refl _) ev1).mono ?_
  rintro e w3 ⟨rfl, hb3⟩
  have HB3 := Aside0.mk (below_step HB2.out hb3)
  have H73 := Aside0.mk (blk_below H7.out hb3)
  have H83 := Aside0.mk (blk_below H8.out hb3)
  have HC73 := Aside0.mk (Kd.C_below HC7.out hb3)
  have HC83 := Aside0.mk (Kd.C_below HC8.out hb3)
  clear hb3 hz0 hz1 hz2 hz3 HB2 HT2 HTA2 H7 H8 HC7 HC8
  have hz0 := (blk_cell H73.out 0).trans rfl
  have hz1 := (blk_cell H73.out 1).trans rfl
  have hz2 := (blk_cell H73.out 2).trans rfl
  have hz3 := (blk_cell H73.out 3).trans rfl
  have hz4 := (blk_cell H73.out 4).trans rfl
  go_wp2_with (fail)
  refine (show_Claim.calls 100 7 ⟨#[]⟩ ⟨#[]⟩ none 0 [] _ _ [cp, call] _ _ (HG.out.below HB3.out) (Kd.C_nil _ _) (Nat.le_refl _) HC73.out (Nat.le_refl _) ev2).mono ?_
  rintro e w4 ⟨rfl, hb4⟩
  have HB4 := Aside0.mk (below_step HB3.out hb4)
  have H84 := Aside0.mk (blk_below H83.out hb4)
  have HC84 := Aside0.mk (Kd.C_below HC83.out hb4)
  clear hb4 hz0 hz1 hz2 hz3 hz4 HB3 H73 H83 HC73 HC83
  have hz0 := (blk_cell H84.out 0).trans rfl
  have hz1 := (blk_cell H84.out 1).trans rfl
  have hz2 := (blk_cell H84.out 2).trans rfl
  have hz3 := (blk_cell H84.out 3).trans rfl
  have hz4 := (blk_cell H84.out 4).trans rfl
  go_wp2_with (fail)
  refine (show_Claim.calls 100 7 ⟨#[]⟩ ⟨#[]⟩ none 0 [] _ _ [call, cp] _ _ (HG.out.below HB4.out) (Kd.C_nil _ _) (Nat.le_refl _) HC84.out (Nat.le_refl _) ev3).mono ?_
  rintro e w5 ⟨rfl, hb5⟩
  have HB5 := Aside0.mk (below_step HB4.out hb5)
  clear hb5 hz0 hz1 hz2 hz3 hz4 HB4 H84 HC84
  go_wp2_with (fail)
  go_ret
  exact ⟨rfl, HB5.out⟩
def law14_alive.f : Option Bool := some true
theorem law14_alive.calls (r : Bool) (w : World) (hG : Laid w) (h : law14_alive.f = some r) : Calls Tryd.prog 7 #[] w fun e w' => e = .returned (.bool r) ∧ Below w.heap.size w w' := by
  obtain rfl := Option.some.inj h
  exact law14_alive.walk w hG
end Go.Proofs.YtmlkllbaehegjaaDoor.PAll
