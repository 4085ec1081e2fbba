/- append(x[:len(x):len(x)], v) of strings: the source is full, so that a new row is made. -/
import Derived.Test.YtmlkllbaehegjaaDoorWAll
import Derived.ArgAppend
namespace Go.Proofs.YtmlkllbaehegjaaDoor
open Go Go.RowKit Go.Proofs.YtmlkllbaehegjaaDoorW.PrintWords Go.Proofs.YtmlkllbaehegjaaDoorW.PrintLast
theorem nel (l : List UInt8) : (l != []) = !l.isEmpty := by cases l <;> rfl
theorem run_full {P : Program} (T e : TypeId) (i : TypeInfo) (A : Option Addr) (n c s : Nat) (ht : P.underlying T = some (.slice e)) (hi : P.info? e = some i) (hs : i.size = s) (hc : n ≤ c) (W : World) :
    (Instr.slice T (.slice A n c) none (some (.int .i64 (n : Int))) (some (.int .i64 (n : Int)))).run P W = .ok (.slice A n n) W := by
  have he : P.elem T = e := by simp [Program.elem, ht]
  rw [run_slice_hm W T A n c (by rw [he]; exact ht) .i64 .i64 n n (by omega) (by omega) (by omega), he]
  have hz : (sizeOf e).run P W = .ok s W := by simp [sizeOf, typeInfo, hi, hs]
  rw [hz]
  simp [Result.andThen, sliced]
  intro _
  cases A with
  | none => rfl
  | some b => simp [Addr.add]
section
variable {P : Program} {ops : Array Oper} {rest : List Oper} {o : Oper} {a : Act} {Q : Exit → Act → World → Prop} {Kc : Act → World → Prop}

theorem full_olds {W : World} {A : Option Addr} {xs : List ByteArray} {cs : Array Value} {e : TypeId} (HO : Kd.C Kd.string W A xs.length xs) : ∀ b, A = some b → ∀ j u, (xs.map Value.string)[j]? = some u → (W.alloc (.cells cs e)).cell? (b.add j) = some u := by
  rintro b rfl j u hu
  have h2 := Kd.C_alloc HO (.cells cs e)
  obtain ⟨hl, hu'⟩ := List.getElem?_eq_some_iff.1 hu
  rw [List.length_map] at hl
  rw [List.getElem_map] at hu'
  obtain ⟨ad, he, hc⟩ := Kd.at_string h2 (j : Int) (by omega) (by omega)
  cases he
  rw [← hu']
  have : rdOf ByteArray.empty xs (j : Int) = xs[j] := by simp [rdOf, List.getD_eq_getElem?_getD, hl]
  rw [this, Int.toNat_natCast] at hc
  exact hc

theorem full_row {W w1 : World} {base : Nat} {e : TypeId} {ok : Nat → Prop} {v1 : Value} {xs : List ByteArray} {p : ByteArray} {o0 : Obj} (hbase : base ≤ W.heap.size) (hfresh : ∀ k, W.heap.size ≤ k → ok k)
    (ho : w1.ownsRow (W.alloc o0).heap.size e 1 v1 (xs.length + 1) (xs.map Value.string ++ [.string p])) : Kd.R Kd.string e w1 base ok v1 (xs ++ [p]) := by
  have h1 := own_weaken (base' := base) ho (by simp; omega)
  have h2 : w1.ownsRow base e 1 v1 (xs ++ [p]).length (encs Value.string (xs ++ [p])) := by simpa [encs] using h1
  refine Kd.R_of_own (h1 := fun _ => rfl) h2 (fun k hk => ?_)
  have := own_base ho k hk
  exact hfresh k (by simp at this; omega)

theorem append_full_step {w0 W : World} (base : Nat) (hw : Region.wanted o (yielded ops a.tmps) = true) (s x : Operand) (t e : TypeId) (z : Value) (bytes : Nat)
    (ho : o.op = .call { callee := .builtin .append, args := #[s, x], argTypes := #[t, t] })
    (ht : P.underlying t = some (.slice e)) (hinfo : (P.info? e).map (fun i => (i.zero, i.size, i.bytes)) = some (some z, 1, bytes)) (hz : z.cells.size = 1) (hs0 : 0 < 1) (hb0 : 0 < bytes)
    (A : Option Addr) (xs : List ByteArray) (p : ByteArray) (ok : Nat → Prop) (hs : a.eval s = .slice A xs.length xs.length) (hx : a.eval x = .slice (some ⟨W.heap.size, 0, none⟩) 1 1) (hfresh : ∀ k, W.heap.size ≤ k → ok k)
    (HO : Kd.C Kd.string W A xs.length xs) (HB : Below base w0 W) (hbase : base ≤ W.heap.size) (hl : (xs.length + 1) * bytes ≤ 140737488355328)
    (h : ∀ v1 w1, Kd.R Kd.string e w1 base ok v1 (xs ++ [p]) → Below base w0 w1 → W.grownBy w1 (Value.slice none 0 0).ownBlock → (v1.ownBlock = (Value.slice none 0 0).ownBlock ∨ ∃ b, v1.ownBlock = some b ∧ W.heap.size ≤ b) → Kc (a.put o.dst v1) w1) :
    if Region.wanted o (yielded ops a.tmps) = true then Oper.wp P o a (W.alloc (.cells #[.string p] e)) Kc Q else Kc (a.put o.dst undef) (W.alloc (.cells #[.string p] e)) := by
  obtain ⟨i0, hi, hzz⟩ := Option.map_eq_some_iff.1 hinfo
  simp only [Prod.mk.injEq] at hzz
  obtain ⟨hz0, hz1, hz2⟩ := hzz
  have hlen : xs.length + 1 ≤ 140737488355328 := Nat.le_trans (Nat.le_mul_of_pos_right _ hb0) hl
  have hnone : A = none → xs.length = 0 ∧ xs.length = 0 := by
    rintro rfl
    rcases Nat.eq_zero_or_pos xs.length with h0 | h0
    · exact ⟨h0, h0⟩
    · obtain ⟨ad, he, _⟩ := Kd.at_string HO 0 (by omega) (by omega)
      cases he
  have hnew : ∀ (j : Nat) (u : Value), [Value.string p][j]? = some u → (W.alloc (.cells #[.string p] e)).cell? ((⟨W.heap.size, 0, none⟩ : Addr).add j) = some u := by
    simpa using World.news_of_block (cs := #[Value.string p]) (t := e) (fr := (0, 0)) (heap_alloc_new W (.cells #[.string p] e))
  rw [if_pos hw]
  cases A with
  | some b =>
    obtain ⟨v1, w1, hr, hown, hg⟩ := run_append_arg_grows (P := P) (W.alloc (.cells #[.string p] e)) t o.type e i0 z 1 bytes ht hi hz0 hz1 hz2 hz hs0 b xs.length xs.length (xs.map Value.string) (by simp) (full_olds HO b rfl) ⟨W.heap.size, 0, none⟩ 1 1 [.string p] (by simp) hnew (by omega) (by simp only [maxLen]; omega) hl
    unfold Oper.wp execOp
    simp only [ho, resolve, invoke, builtin, Sem.run_bind, Sem.run_pure, Result.andThen_ok, List.map_toArray, List.map_cons, List.map_nil, hs, hx, hr]
    refine h v1 w1 (full_row hbase hfresh hown) ((HB.alloc hbase _).grown hg (by simp; omega) (fun _ h => by cases h)) (World.grownBy.trans (World.grownBy_alloc W _ _) hg) ?_
    cases hv : v1.ownBlock with
    | none => exact .inl rfl
    | some k => exact .inr ⟨k, rfl, by have := own_base hown k hv; simp at this; omega⟩
  | none =>
    obtain ⟨hn0, _⟩ := hnone rfl
    obtain rfl : xs = [] := List.eq_nil_of_length_eq_zero hn0
    obtain ⟨v1, w1, hr, hown, hg, _⟩ := run_append_own (P := P) (W.alloc (.cells #[.string p] e)) (W.alloc (.cells #[.string p] e)).heap.size t o.type e i0 z 1 bytes ht hi hz0 hz1 hz2 hz hs0 (.slice none 0 0) 0 [] (World.ownsRow_nil _ _ e 1) ⟨W.heap.size, 0, none⟩ 1 1 [.string p] (by simp) hnew (fun u hu => by rw [List.mem_singleton.1 hu]; rfl) (by simp only [maxLen]; omega) (by simpa using hl) (Nat.le_refl _)
    unfold Oper.wp execOp
    simp only [List.length_nil] at hs
    simp only [ho, resolve, invoke, builtin, Sem.run_bind, Sem.run_pure, Result.andThen_ok, List.map_toArray, List.map_cons, List.map_nil, hs, hx, hr]
    refine h v1 w1 (full_row (xs := []) (o0 := .cells #[.string p] e) hbase hfresh hown) ((HB.alloc hbase _).grown hg (by simp; omega) (fun _ h => by cases h)) (World.grownBy.trans (World.grownBy_alloc W _ _) hg) ?_
    cases hv : v1.ownBlock with
    | none => exact .inl rfl
    | some k => exact .inr ⟨k, rfl, by have := own_base hown k hv; simp at this; omega⟩

theorem append_full {w0 W : World} (base : Nat) (hgd : o.guard = none) (s x : Operand) (t e : TypeId) (z : Value) (bytes : Nat)
    (ho : o.op = .call { callee := .builtin .append, args := #[s, x], argTypes := #[t, t] })
    (ht : P.underlying t = some (.slice e)) (hinfo : (P.info? e).map (fun i => (i.zero, i.size, i.bytes)) = some (some z, 1, bytes)) (hz : z.cells.size = 1) (hs0 : 0 < 1) (hb0 : 0 < bytes)
    (A : Option Addr) (xs : List ByteArray) (p : ByteArray) (ok : Nat → Prop) (hs : a.eval s = .slice A xs.length xs.length) (hx : a.eval x = .slice (some ⟨W.heap.size, 0, none⟩) 1 1) (hfresh : ∀ k, W.heap.size ≤ k → ok k)
    (HO : Kd.C Kd.string W A xs.length xs) (HB : Below base w0 W) (hbase : base ≤ W.heap.size) (hl : (xs.length + 1) * bytes ≤ 140737488355328)
    (h : ∀ v1 w1, Kd.R Kd.string e w1 base ok v1 (xs ++ [p]) → Below base w0 w1 → W.grownBy w1 (Value.slice none 0 0).ownBlock → (v1.ownBlock = (Value.slice none 0 0).ownBlock ∨ ∃ b, v1.ownBlock = some b ∧ W.heap.size ≤ b) → wpList P ops Q rest (a.put o.dst v1) w1) :
    wpList P ops Q (o :: rest) a (W.alloc (.cells #[.string p] e)) := by
  refine wpList_plain hgd fun K hK' => ?_
  have hw : Region.wanted o (yielded ops a.tmps) = true := by simp [Region.wanted, hgd]
  have := append_full_step (Kc := K) (Q := Q) base hw s x t e z bytes ho ht hinfo hz hs0 hb0 A xs p ok hs hx hfresh HO HB hbase hl (fun v1 w1 a1 a2 a3 a4 => hK' _ _ (h v1 w1 a1 a2 a3 a4))
  rwa [if_pos hw] at this

theorem full_cells {W : World} {A : Option Addr} {n : Nat} {xs : List ByteArray} (HO : Kd.C Kd.string W A n xs) : ∀ b, A = some b → ∀ j u, (xs.map Value.string)[j]? = some u → W.cell? (b.add j) = some u := by
  rintro b rfl j u hu
  have hn : xs.length = n := HO.1
  obtain ⟨hl, hu'⟩ := List.getElem?_eq_some_iff.1 hu
  rw [List.length_map] at hl
  rw [List.getElem_map] at hu'
  obtain ⟨ad, he, hc⟩ := Kd.at_string HO (j : Int) (by omega) (by omega)
  cases he
  rw [← hu']
  have : rdOf ByteArray.empty xs (j : Int) = xs[j] := by simp [rdOf, List.getD_eq_getElem?_getD, hl]
  rw [this, Int.toNat_natCast] at hc
  exact hc

theorem full_rows {W w1 : World} {base : Nat} {e : TypeId} {ok : Nat → Prop} {v1 : Value} {xs ys : List ByteArray} {m : Nat} (hm : ys.length = m) (hbase : base ≤ W.heap.size) (hfresh : ∀ k, W.heap.size ≤ k → ok k)
    (ho : w1.ownsRow W.heap.size e 1 v1 (xs.length + m) (xs.map Value.string ++ ys.map Value.string)) : Kd.R Kd.string e w1 base ok v1 (xs ++ ys) := by
  have h1 := own_weaken (base' := base) ho hbase
  have h2 : w1.ownsRow base e 1 v1 (xs ++ ys).length (encs Value.string (xs ++ ys)) := by simpa [encs, hm] using h1
  exact Kd.R_of_own (h1 := fun _ => rfl) h2 (fun k hk => hfresh k (own_base ho k hk))

theorem append_full_rows_step {w0 W : World} (base : Nat) (hw : Region.wanted o (yielded ops a.tmps) = true) (s x : Operand) (t e : TypeId) (z : Value) (bytes : Nat)
    (ho : o.op = .call { callee := .builtin .append, args := #[s, x], argTypes := #[t, t] })
    (ht : P.underlying t = some (.slice e)) (hinfo : (P.info? e).map (fun i => (i.zero, i.size, i.bytes)) = some (some z, 1, bytes)) (hz : z.cells.size = 1) (hs0 : 0 < 1) (hb0 : 0 < bytes)
    (A : Option Addr) (xs ys : List ByteArray) (A2 : Option Addr) (m c : Nat) (ok : Nat → Prop) (hs : a.eval s = .slice A xs.length xs.length) (hx : a.eval x = .slice A2 m c) (hfresh : ∀ k, W.heap.size ≤ k → ok k)
    (HO : Kd.C Kd.string W A xs.length xs) (HR : Kd.C Kd.string W A2 m ys) (hpos : 0 < ys.length) (HB : Below base w0 W) (hbase : base ≤ W.heap.size) (hl : (xs.length + m) * bytes ≤ 140737488355328)
    (h : ∀ v1 w1, Kd.R Kd.string e w1 base ok v1 (xs ++ ys) → Below base w0 w1 → W.grownBy w1 (Value.slice none 0 0).ownBlock → (v1.ownBlock = (Value.slice none 0 0).ownBlock ∨ ∃ b, v1.ownBlock = some b ∧ W.heap.size ≤ b) → Kc (a.put o.dst v1) w1) :
    if Region.wanted o (yielded ops a.tmps) = true then Oper.wp P o a W Kc Q else Kc (a.put o.dst undef) W := by
  obtain ⟨i0, hi, hzz⟩ := Option.map_eq_some_iff.1 hinfo
  simp only [Prod.mk.injEq] at hzz
  obtain ⟨hz0, hz1, hz2⟩ := hzz
  have hlen : xs.length + m ≤ 140737488355328 := Nat.le_trans (Nat.le_mul_of_pos_right _ hb0) hl
  have hm : ys.length = m := HR.1
  obtain ⟨ad, rfl, _⟩ := Kd.at_string HR 0 (by omega) (by omega)
  have hnew := full_cells HR ad rfl
  have hone : ∀ u ∈ ys.map Value.string, u.oneCell' = true := by
    intro u hu
    obtain ⟨q, _, rfl⟩ := List.mem_map.1 hu
    rfl
  rw [if_pos hw]
  cases A with
  | some b =>
    obtain ⟨v1, w1, hr, hown, hg⟩ := run_append_arg_grows (P := P) W t o.type e i0 z 1 bytes ht hi hz0 hz1 hz2 hz hs0 b xs.length xs.length (xs.map Value.string) (by simp) (full_cells HO b rfl) ad m c (ys.map Value.string) (by simp [hm]) hnew (by omega) (by simp only [maxLen]; omega) hl
    unfold Oper.wp execOp
    simp only [ho, resolve, invoke, builtin, Sem.run_bind, Sem.run_pure, Result.andThen_ok, List.map_toArray, List.map_cons, List.map_nil, hs, hx, hr]
    refine h v1 w1 (full_rows hm hbase hfresh hown) (HB.grown hg hbase (fun _ h => by cases h)) hg ?_
    cases hv : v1.ownBlock with
    | none => exact .inl rfl
    | some k => exact .inr ⟨k, rfl, own_base hown k hv⟩
  | none =>
    have hn0 : xs.length = 0 := by
      rcases Nat.eq_zero_or_pos xs.length with h0 | h0
      · exact h0
      · obtain ⟨ad, he, _⟩ := Kd.at_string HO 0 (by omega) (by omega)
        cases he
    obtain rfl : xs = [] := List.eq_nil_of_length_eq_zero hn0
    obtain ⟨v1, w1, hr, hown, hg, _⟩ := run_append_own (P := P) W W.heap.size t o.type e i0 z 1 bytes ht hi hz0 hz1 hz2 hz hs0 (.slice none 0 0) 0 [] (World.ownsRow_nil _ _ e 1) ad m c (ys.map Value.string) (by simp [hm]) hnew hone (by simp only [maxLen]; simp at hlen; omega) (by simpa using hl) (Nat.le_refl _)
    unfold Oper.wp execOp
    simp only [List.length_nil] at hs
    simp only [ho, resolve, invoke, builtin, Sem.run_bind, Sem.run_pure, Result.andThen_ok, List.map_toArray, List.map_cons, List.map_nil, hs, hx, hr]
    refine h v1 w1 (full_rows (xs := []) hm hbase hfresh hown) (HB.grown hg hbase (fun _ h => by cases h)) hg ?_
    cases hv : v1.ownBlock with
    | none => exact .inl rfl
    | some k => exact .inr ⟨k, rfl, own_base hown k hv⟩

theorem append_full_rows {w0 W : World} (base : Nat) (hgd : o.guard = none) (s x : Operand) (t e : TypeId) (z : Value) (bytes : Nat)
    (ho : o.op = .call { callee := .builtin .append, args := #[s, x], argTypes := #[t, t] })
    (ht : P.underlying t = some (.slice e)) (hinfo : (P.info? e).map (fun i => (i.zero, i.size, i.bytes)) = some (some z, 1, bytes)) (hz : z.cells.size = 1) (hs0 : 0 < 1) (hb0 : 0 < bytes)
    (A : Option Addr) (xs ys : List ByteArray) (A2 : Option Addr) (m c : Nat) (ok : Nat → Prop) (hs : a.eval s = .slice A xs.length xs.length) (hx : a.eval x = .slice A2 m c) (hfresh : ∀ k, W.heap.size ≤ k → ok k)
    (HO : Kd.C Kd.string W A xs.length xs) (HR : Kd.C Kd.string W A2 m ys) (hpos : 0 < ys.length) (HB : Below base w0 W) (hbase : base ≤ W.heap.size) (hl : (xs.length + m) * bytes ≤ 140737488355328)
    (h : ∀ v1 w1, Kd.R Kd.string e w1 base ok v1 (xs ++ ys) → Below base w0 w1 → W.grownBy w1 (Value.slice none 0 0).ownBlock → (v1.ownBlock = (Value.slice none 0 0).ownBlock ∨ ∃ b, v1.ownBlock = some b ∧ W.heap.size ≤ b) → wpList P ops Q rest (a.put o.dst v1) w1) :
    wpList P ops Q (o :: rest) a W := by
  refine wpList_plain hgd fun K hK' => ?_
  have hw : Region.wanted o (yielded ops a.tmps) = true := by simp [Region.wanted, hgd]
  have := append_full_rows_step (Kc := K) (Q := Q) base hw s x t e z bytes ho ht hinfo hz hs0 hb0 A xs ys A2 m c ok hs hx hfresh HO HR hpos HB hbase hl (fun v1 w1 a1 a2 a3 a4 => hK' _ _ (h v1 w1 a1 a2 a3 a4))
  rwa [if_pos hw] at this
end
end Go.Proofs.YtmlkllbaehegjaaDoor
