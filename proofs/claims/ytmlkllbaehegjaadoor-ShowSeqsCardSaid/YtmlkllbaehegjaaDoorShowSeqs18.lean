/- Terms, claims, variables and hypotheses read out of an argument's cells; every number of theirs is an int64. -/
-- Words of the kit's print, walks printed by a program of this session (wip/prt) in shorter words, and texts of this session, merged (pack.py).
import Derived.Lib.SmallJoins
import Derived.DataShut
import Derived.Test.YtmlkllbaehegjaaDoorShowSeqs2
import Derived.Test.YtmlkllbaehegjaaDoorShowSeqs17
namespace Go.Proofs.YtmlkllbaehegjaaDoor.Open
open Go Go.Deep Go.ChangeShapes Go.WideShapes Go.ChangeAt Go.RowKit Go.Maps
open Go.Proofs.YtmlkllbaehegjaaDoorW.PrintWords
open Go.Proofs.YtmlkllbaehegjaaDoor Go.Proofs.YtmlkllbaehegjaaDoor.PAll
/-- A SLICE OPENED, with a fact of every element. -/
theorem openCP {H : Type} {enc : TypeId × Value → H} {w : World} {base : Nat} {spare : Nat → Bool} {held : Bool} {α : Type} (d : Kd α) (Q : α → Prop) (z : α) {t e : TypeId} {fuel : Nat} {cs : List Value} {x : DataW H × List MemPlace}
    (ht : Tryd.prog.underlying t = some (.slice e)) (hsz : Tryd.prog.cellsOf e = d.sz)
    (hE : ∀ m cs y, m < fuel → DataW.trod enc Tryd.prog w base spare held m e cs = some y → ∃ p, d.K w p cs ∧ Q p)
    (h : DataW.trod enc Tryd.prog w base spare held fuel t cs = some x) : ∃ A c xs, cs = [.slice A xs.length c] ∧ xs.length ≤ c ∧ d.C w A xs.length xs ∧ ∀ p ∈ xs, Q p := by
  rcases DataW.trod_slice ht h with ⟨rfl, _⟩ | ⟨a, len, cap, elems, rest, n, rfl, rfl, _, _, hl, hm, hlen, hel, _, _⟩
  · exact ⟨none, 0, [], rfl, Nat.le_refl _, Kd.C_nil d w, by simp⟩
  · have each : ∀ i, i < len → ∃ q : α × List Value, q.2.length = d.sz ∧ (d.K w q.1 q.2 ∧ Q q.1) ∧ ∀ j u, q.2[j]? = some u → w.cell? (a.add (i * d.sz + j)) = some u := by
      intro i hi
      have h1 := hel i hi
      rw [List.getElem?_eq_getElem (by omega)] at h1
      obtain ⟨cs', hc, hd⟩ := Option.bind_eq_some_iff.1 h1
      obtain ⟨p, hp, hq⟩ := hE n cs' _ (by omega) hd
      obtain ⟨_, hl', hcell⟩ := World.cells?_some hc
      refine ⟨(p, cs'), d.K_len hp, ⟨hp, hq⟩, fun j u hu => ?_⟩
      obtain ⟨hj, _⟩ := List.getElem?_eq_some_iff.1 hu
      have hj2 : j < cs'.length := hj
      have := hcell j (by omega)
      rw [Addr.add_add, hsz] at this
      rw [this]
      exact hu
    haveI : Inhabited (α × List Value) := ⟨(z, [])⟩
    obtain ⟨f, hf⟩ := choose_lt each
    refine ⟨some a, cap, (List.range len).map fun i => (f i).1, by simp, by simpa using hl, ⟨by simp, by simp [maxLen] at hm ⊢; omega, fun _ => ⟨a, rfl, fun j p hj => ?_⟩⟩, fun p hp => ?_⟩
    · obtain ⟨hj', hp⟩ := List.getElem?_eq_some_iff.1 hj
      simp only [List.length_map, List.length_range] at hj'
      simp only [List.getElem_map, List.getElem_range] at hp
      subst hp
      obtain ⟨h1, h2, h3⟩ := hf j hj'
      exact ⟨(f j).2, h1, h2.1, h3⟩
    · obtain ⟨i, hi, rfl⟩ := List.mem_map.1 hp
      exact (hf i (by simpa using hi)).2.1.2
theorem OTs_of : ∀ {l : List S53}, (∀ p ∈ l, OT p) → OTs l
  | [], _ => trivial
  | t :: r, h => ⟨h t (by simp), OTs_of fun p hp => h p (by simp [hp])⟩
theorem OCs_of : ∀ {l : List S30}, (∀ p ∈ l, OC p) → OCs l
  | [], _ => trivial
  | t :: r, h => ⟨h t (by simp), OCs_of fun p hp => h p (by simp [hp])⟩
theorem five {cs : List Value} {a b c d e : Value} (hl : cs.length = 5) (h0 : (cs.drop 0).take 1 = [a]) (h1 : (cs.drop 1).take 1 = [b]) (h2 : (cs.drop 2).take 1 = [c]) (h3 : (cs.drop 3).take 1 = [d]) (h4 : (cs.drop 4).take 1 = [e]) : cs = [a, b, c, d, e] := by
  match cs, hl with
  | [v0, v1, v2, v3, v4], _ => simp at h0 h1 h2 h3 h4; simp [h0, h1, h2, h3, h4]
theorem four {cs : List Value} {a b c d : Value} (hl : cs.length = 4) (h0 : (cs.drop 0).take 1 = [a]) (h1 : (cs.drop 1).take 1 = [b]) (h2 : (cs.drop 2).take 1 = [c]) (h3 : (cs.drop 3).take 1 = [d]) : cs = [a, b, c, d] := by
  match cs, hl with
  | [v0, v1, v2, v3], _ => simp at h0 h1 h2 h3; simp [h0, h1, h2, h3]
theorem two_cells {cs : List Value} {a b : Value} (hl : cs.length = 2) (h0 : (cs.drop 0).take 1 = [a]) (h1 : (cs.drop 1).take 1 = [b]) : cs = [a, b] := by
  match cs, hl with
  | [v0, v1], _ => simp at h0 h1; simp [h0, h1]
theorem one_five {cs : List Value} {a : Value} {l : List Value} (hl : cs.length = 6) (h0 : (cs.drop 0).take 1 = [a]) (h1 : (cs.drop 1).take 5 = l) : cs = a :: l := by
  match cs, hl with
  | [v0, v1, v2, v3, v4, v5], _ => simp at h0 h1; simp [h0, h1]
theorem two_five {cs : List Value} {a b : Value} {l : List Value} (hl : cs.length = 7) (h0 : (cs.drop 0).take 1 = [a]) (h1 : (cs.drop 1).take 1 = [b]) (h2 : (cs.drop 2).take 5 = l) : cs = a :: b :: l := by
  match cs, hl with
  | [v0, v1, v2, v3, v4, v5, v6], _ => simp at h0 h1 h2; simp [h0, h1, h2]
theorem open53 {H : Type} {enc : TypeId × Value → H} {w : World} {base : Nat} {spare : Nat → Bool} {held : Bool} (fuel : Nat) : ∀ (cs : List Value) (y : DataW H × List MemPlace), DataW.trod enc Tryd.prog w base spare held fuel 53 cs = some y → ∃ x : S53, k53.K w x cs ∧ OT x := by
  induction fuel using Nat.strongRecOn with
  | _ fuel ih =>
    intro cs y h
    obtain ⟨xs, n, rfl, rfl, hl, hlen, hf⟩ := DataW.trod_struct Tryd.underlying53 h
    match xs, hlen with
    | [y0, y1, y2, y3], _ =>
      obtain ⟨a, ha, _, _⟩ := DataW.trod_int Tryd.underlying3 (hf 0 _ rfl)
      obtain ⟨b, hb, _, _⟩ := DataW.trod_string Tryd.underlying9 (hf 1 _ rfl)
      obtain ⟨c, hc, _, hcw⟩ := DataW.trod_int Tryd.underlying2 (hf 2 _ rfl)
      obtain ⟨A, m, l, hd, hm, hC, hQ⟩ := openCP k53 OT z53 Tryd.underlying27 (by kernel_rfl) (fun q cs' y' hq hy => ih q (by omega) cs' y' hy) (hf 3 _ rfl)
      have hn : Tryd.prog.cellsOf 53 = 4 := by kernel_rfl
      have c3 : Tryd.prog.cellsOf 3 = 1 := by kernel_rfl
      have c9 : Tryd.prog.cellsOf 9 = 1 := by kernel_rfl
      have c2 : Tryd.prog.cellsOf 2 = 1 := by kernel_rfl
      have c27 : Tryd.prog.cellsOf 27 = 1 := by kernel_rfl
      have ha' : (cs.drop 0).take (Tryd.prog.cellsOf 3) = [.int .i64 a] := ha
      have hb' : (cs.drop 1).take (Tryd.prog.cellsOf 9) = [.string b] := hb
      have hc' : (cs.drop 2).take (Tryd.prog.cellsOf 2) = [.int .i64 c] := hc
      have hd' : (cs.drop 3).take (Tryd.prog.cellsOf 27) = [.slice A l.length m] := hd
      rw [c3] at ha'
      rw [c9] at hb'
      rw [c2] at hc'
      rw [c27] at hd'
      rw [four (hl.trans hn) ha' hb' hc' hd']
      refine ⟨⟨a, b, c, l⟩, k53_mk w ⟨a, b, c, l⟩ hm hC, ?_, OTs_of hQ⟩
      have hb2 := (Lit.wf_int_iff _ _).1 hcw
      have e1 : IntKind.i64.min = -9223372036854775808 := by decide
      have e2 : IntKind.i64.max = 9223372036854775807 := by decide
      rw [e1, e2] at hb2
      exact hb2
/-- A claim's cells. -/
def Claims (w : World) (cs : List Value) (x : S30) : Prop := ∃ A3 c3 A4 c4, cs = [.int .i64 x.f0, .string x.f1, .string x.f2, .slice A3 x.f3.length c3, .slice A4 x.f4.length c4] ∧ x.f3.length ≤ c3 ∧ k53.C w A3 x.f3.length x.f3 ∧ x.f4.length ≤ c4 ∧ k30.C w A4 x.f4.length x.f4
theorem Claims.K {w : World} {cs : List Value} {x : S30} (h : Claims w cs x) : k30.K w x cs := by
  obtain ⟨A3, c3, A4, c4, rfl, l3, g3, l4, g4⟩ := h
  exact k30_mk w x l3 g3 l4 g4
theorem open30 {H : Type} {enc : TypeId × Value → H} {w : World} {base : Nat} {spare : Nat → Bool} {held : Bool} (fuel : Nat) : ∀ (cs : List Value) (y : DataW H × List MemPlace), DataW.trod enc Tryd.prog w base spare held fuel 30 cs = some y → ∃ x : S30, Claims w cs x ∧ OC x := by
  induction fuel using Nat.strongRecOn with
  | _ fuel ih =>
    intro cs y h
    obtain ⟨xs, n, rfl, rfl, hl, hlen, hf⟩ := DataW.trod_struct Tryd.underlying30 h
    match xs, hlen with
    | [y0, y1, y2, y3, y4], _ =>
      obtain ⟨a, ha, _, _⟩ := DataW.trod_int Tryd.underlying3 (hf 0 _ rfl)
      obtain ⟨b, hb, _, _⟩ := DataW.trod_string Tryd.underlying9 (hf 1 _ rfl)
      obtain ⟨c, hc, _, _⟩ := DataW.trod_string Tryd.underlying9 (hf 2 _ rfl)
      obtain ⟨A, m, l, hd, hm, hC, hQ⟩ := openCP k53 OT z53 Tryd.underlying27 (by kernel_rfl) (fun q cs' y' hq hy => open53 q cs' y' hy) (hf 3 _ rfl)
      obtain ⟨A', m', l', hd2, hm', hC', hQ'⟩ := openCP k30 OC z30 Tryd.underlying28 (by kernel_rfl) (fun q cs' y' hq hy => by
        obtain ⟨x, hx, ho⟩ := ih q (by omega) cs' y' hy
        exact ⟨x, hx.K, ho⟩) (hf 4 _ rfl)
      have hn : Tryd.prog.cellsOf 30 = 5 := by kernel_rfl
      have c3 : Tryd.prog.cellsOf 3 = 1 := by kernel_rfl
      have c9 : Tryd.prog.cellsOf 9 = 1 := by kernel_rfl
      have c28 : Tryd.prog.cellsOf 28 = 1 := by kernel_rfl
      have c27 : Tryd.prog.cellsOf 27 = 1 := by kernel_rfl
      have ha' : (cs.drop 0).take (Tryd.prog.cellsOf 3) = [.int .i64 a] := ha
      have hb' : (cs.drop 1).take (Tryd.prog.cellsOf 9) = [.string b] := hb
      have hc' : (cs.drop 2).take (Tryd.prog.cellsOf 9) = [.string c] := hc
      have hd' : (cs.drop 3).take (Tryd.prog.cellsOf 27) = [.slice A l.length m] := hd
      have he' : (cs.drop 4).take (Tryd.prog.cellsOf 28) = [.slice A' l'.length m'] := hd2
      rw [c3] at ha'
      rw [c9] at hb' hc'
      rw [c27] at hd'
      rw [c28] at he'
      rw [five (hl.trans hn) ha' hb' hc' hd' he']
      exact ⟨⟨a, b, c, l, l'⟩, ⟨A, m, A', m', rfl, hm, hC, hm', hC'⟩, OTs_of hQ, OCs_of hQ'⟩
theorem open42 {H : Type} {enc : TypeId × Value → H} {w : World} {base : Nat} {spare : Nat → Bool} {held : Bool} (fuel : Nat) (cs : List Value) (y : DataW H × List MemPlace) (h : DataW.trod enc Tryd.prog w base spare held fuel 42 cs = some y) : ∃ x : S42, k42.K w x cs ∧ True := by
  obtain ⟨xs, n, rfl, rfl, hl, hlen, hf⟩ := DataW.trod_struct Tryd.underlying42 h
  match xs, hlen with
  | [y0, y1], _ =>
    obtain ⟨a, ha, _, _⟩ := DataW.trod_string Tryd.underlying9 (hf 0 _ rfl)
    obtain ⟨b, hb, _, _⟩ := DataW.trod_string Tryd.underlying9 (hf 1 _ rfl)
    have hn : Tryd.prog.cellsOf 42 = 2 := by kernel_rfl
    have c9 : Tryd.prog.cellsOf 9 = 1 := by kernel_rfl
    have ha' : (cs.drop 0).take (Tryd.prog.cellsOf 9) = [.string a] := ha
    have hb' : (cs.drop 1).take (Tryd.prog.cellsOf 9) = [.string b] := hb
    rw [c9] at ha' hb'
    rw [two_cells (hl.trans hn) ha' hb']
    exact ⟨⟨a, b⟩, k42_mk w ⟨a, b⟩, trivial⟩
theorem open45 {H : Type} {enc : TypeId × Value → H} {w : World} {base : Nat} {spare : Nat → Bool} {held : Bool} (fuel : Nat) (cs : List Value) (y : DataW H × List MemPlace) (h : DataW.trod enc Tryd.prog w base spare held fuel 45 cs = some y) : ∃ x : S45, k45.K w x cs ∧ OC x.f1 := by
  obtain ⟨xs, n, rfl, rfl, hl, hlen, hf⟩ := DataW.trod_struct Tryd.underlying45 h
  match xs, hlen with
  | [y0, y1], _ =>
    obtain ⟨a, ha, _, _⟩ := DataW.trod_string Tryd.underlying9 (hf 0 _ rfl)
    have h1 : DataW.trod enc Tryd.prog w base spare held n 30 ((cs.drop 1).take (Tryd.prog.cellsOf 30)) = some y1 := hf 1 _ rfl
    obtain ⟨x, ⟨A3, c3, A4, c4, hx, l3, g3, l4, g4⟩, ho⟩ := open30 n _ _ h1
    have hn : Tryd.prog.cellsOf 45 = 6 := by kernel_rfl
    have c9 : Tryd.prog.cellsOf 9 = 1 := by kernel_rfl
    have c30 : Tryd.prog.cellsOf 30 = 5 := by kernel_rfl
    have ha' : (cs.drop 0).take (Tryd.prog.cellsOf 9) = [.string a] := ha
    rw [c9] at ha'
    rw [c30] at hx
    rw [one_five (hl.trans hn) ha' hx]
    exact ⟨⟨a, x⟩, k45_mk w ⟨a, x⟩ l3 g3 l4 g4, ho⟩
/-- A sequent's cells. -/
theorem open40 {H : Type} {enc : TypeId × Value → H} {w : World} {base : Nat} {spare : Nat → Bool} {held : Bool} (fuel : Nat) (cs : List Value) (y : DataW H × List MemPlace) (h : DataW.trod enc Tryd.prog w base spare held fuel 40 cs = some y) :
    ∃ A0 c0 l0 A1 c1 l1 x A3 c3 A4 c4, cs = [.slice A0 l0.length c0, .slice A1 l1.length c1, .int .i64 (S30.f0 x), .string x.f1, .string x.f2, .slice A3 x.f3.length c3, .slice A4 x.f4.length c4] ∧ l0.length ≤ c0 ∧ k42.C w A0 l0.length l0 ∧ l1.length ≤ c1 ∧ k45.C w A1 l1.length l1 ∧ (∀ p ∈ l1, OC p.f1) ∧
      x.f3.length ≤ c3 ∧ k53.C w A3 x.f3.length x.f3 ∧ x.f4.length ≤ c4 ∧ k30.C w A4 x.f4.length x.f4 ∧ OC x := by
  obtain ⟨xs, n, rfl, rfl, hl, hlen, hf⟩ := DataW.trod_struct Tryd.underlying40 h
  match xs, hlen with
  | [y0, y1, y2], _ =>
    obtain ⟨A0, c0, l0, hd0, hm0, hC0, _⟩ := openCP k42 (fun _ => True) z42 Tryd.underlying37 (by kernel_rfl) (fun q cs' y' _ hy => open42 q cs' y' hy) (hf 0 _ rfl)
    obtain ⟨A1, c1, l1, hd1, hm1, hC1, hQ1⟩ := openCP k45 (fun p => OC p.f1) z45 Tryd.underlying38 (by kernel_rfl) (fun q cs' y' _ hy => open45 q cs' y' hy) (hf 1 _ rfl)
    have h2 : DataW.trod enc Tryd.prog w base spare held n 30 ((cs.drop 2).take (Tryd.prog.cellsOf 30)) = some y2 := hf 2 _ rfl
    obtain ⟨x, ⟨A3, c3, A4, c4, hx, l3, g3, l4, g4⟩, ho⟩ := open30 n _ _ h2
    have hn : Tryd.prog.cellsOf 40 = 7 := by kernel_rfl
    have c37 : Tryd.prog.cellsOf 37 = 1 := by kernel_rfl
    have c38 : Tryd.prog.cellsOf 38 = 1 := by kernel_rfl
    have c30 : Tryd.prog.cellsOf 30 = 5 := by kernel_rfl
    have h0' : (cs.drop 0).take (Tryd.prog.cellsOf 37) = [.slice A0 l0.length c0] := hd0
    have h1' : (cs.drop 1).take (Tryd.prog.cellsOf 38) = [.slice A1 l1.length c1] := hd1
    rw [c37] at h0'
    rw [c38] at h1'
    rw [c30] at hx
    exact ⟨A0, c0, l0, A1, c1, l1, x, A3, c3, A4, c4, two_five (hl.trans hn) h0' h1' hx, hm0, hC0, hm1, hC1, hQ1, l3, g3, l4, g4, ho⟩
end Go.Proofs.YtmlkllbaehegjaaDoor.Open
