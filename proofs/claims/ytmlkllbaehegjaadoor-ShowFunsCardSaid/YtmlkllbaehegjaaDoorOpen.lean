/- What the rows' conditions give: the variables' fact (Laid), the arguments read as lists; the witness. -/
import Derived.Test.YtmlkllbaehegjaaDoorRows
import Derived.Test.YtmlkllbaehegjaaDoorLaid
import Derived.Test.YtmlkllbaehegjaaDoorWAll
import Derived.ProofKit
import Derived.LaidMore
import Derived.LaidHandle
import Derived.MakeChecks
import Derived.DataElems
import Derived.Deep.Slices
import Derived.Maps.StringElems
namespace Go.Proofs.YtmlkllbaehegjaaDoor.Open
open Go Go.Deep Go.ChangeShapes Go.WideShapes Go.ChangeAt Go.RowKit Go.Maps
open Go.Proofs.YtmlkllbaehegjaaDoorW.PrintWords
open Go.Proofs.YtmlkllbaehegjaaDoor

theorem own : ownKnob Tryd.prog.godebug = none := by kernel_rfl
theorem laidOut : laidOutB Tryd.prog = true := by kernel_rfl
/-- The list of the rows. -/
def listed : List (String × DataW Unit) := [("math/bits.deBruijn32tab", Rows.laid_math_bits_deBruijn32tab), ("math/bits.deBruijn64tab", Rows.laid_math_bits_deBruijn64tab), ("internal/strconv.uint64pow10", Rows.laid_internal_strconv_uint64pow10), ("unicode.White_Space", Rows.laid_unicode_White_Space), ("strings.asciiSpace", Rows.laid_strings_asciiSpace), ("sequitur/show.tight", Rows.laid_sequitur_show_tight), ("sequitur/show.signs", Rows.laid_sequitur_show_signs)]
theorem door_met (os : Os) (args : Array Value) : laidMetH Tryd.prog listed ((World.doorLaid Tryd.prog 4000 os).forCall (fun _ _ => 0) ⟨#[], args, []⟩).memory :=
  laidMetH_of_parts3 (fuel := 8) (laidMet_of_run' 8 (by kernel_rfl) (by kernel_rfl)) (by kernel_rfl) (by kernel_rfl)

theorem laidVars_tail {P : Program} {w : World} {x : String × DataW Unit} {l : List (String × DataW Unit)} {ps : List MemPlace} (h : DataW.LaidVars P w (x :: l) ps) : ∃ q, DataW.LaidVars P w l q := by
  obtain ⟨_, _, _, _, _, q, _, _, _, _, h, _⟩ := h
  exact ⟨q, h⟩
theorem laidVars_head {P : Program} {w : World} {x : String × DataW Unit} {l : List (String × DataW Unit)} {ps : List MemPlace} (h : DataW.LaidVars P w (x :: l) ps) : ∃ g t cs fuel p, P.globalNamed x.1 = some g ∧ (P.globals[g]?).map (·.type) = some t ∧ w.var? P x.1 = some cs ∧ DataW.trod (fun _ => ()) P w 0 (fun _ => true) false fuel t cs.toList = some (x.2, p) := by
  obtain ⟨g, t, cs, fuel, p, _, h1, h2, h3, h4, _, _⟩ := h
  exact ⟨g, t, cs, fuel, p, h1, h2, h3, h4⟩
/-- A listed table. -/
theorem tab_of {W : World} {name : String} {k : IntKind} {zs : List Int} {l : List (String × DataW Unit)} {ps : List MemPlace} {g : Nat} {t e : TypeId} {n : Nat}
    (hg : Tryd.prog.globalNamed name = some g) (hty : (Tryd.prog.globals[g]?).map (·.type) = some t) (ht : Tryd.prog.underlying t = some (.array n e)) (he : Tryd.prog.underlying e = some (.int k)) (hce : Tryd.prog.cellsOf e = 1) (hct : Tryd.prog.cellsOf t = n)
    (h : DataW.LaidVars Tryd.prog W ((name, Lib.tabData k zs) :: l) ps) : Lib.TabIs Tryd.prog W name k zs := by
  obtain ⟨g', t', cs, fuel, p, hg', ht', hvar, hd⟩ := laidVars_head h
  obtain rfl := Option.some.inj (hg.symm.trans hg')
  obtain rfl := Option.some.inj (hty.symm.trans ht')
  unfold Lib.TabIs
  rw [hvar, ← Lib.cells_of_tab ht he hce hct hd]
/-- A listed map. -/
theorem map_of {W : World} {name : String} {D : DataW Unit} {l : List (String × DataW Unit)} {ps : List MemPlace} {g : Nat} {t e : TypeId} (hD : D ≠ .nil)
    (hg : Tryd.prog.globalNamed name = some g) (hty : (Tryd.prog.globals[g]?).map (·.type) = some t) (ht : Tryd.prog.underlying t = some (.map 3 e))
    (hs : ∀ {m : Nat} {v : Value} {z : DataW Unit × List MemPlace}, WideElems.elemAt (fun _ => ()) Tryd.prog W 0 (fun _ => true) false m e v = some z → plainElem Tryd.prog e v = some z)
    (h : DataW.LaidVars Tryd.prog W ((name, D) :: l) ps) : MapIs W g e D := by
  obtain ⟨g', t', cs, fuel, p, hg', ht', hvar, hd⟩ := laidVars_head h
  obtain rfl := Option.some.inj (hg.symm.trans hg')
  obtain rfl := Option.some.inj (hty.symm.trans ht')
  rcases WideElems.open_map ht hd with ⟨_, hx⟩ | ⟨b, es, clock, m, rfl, hcs, hb, _, F, hx⟩
  · simp only [Prod.mk.injEq] at hx
    exact absurd hx.1 hD
  simp only [Prod.mk.injEq] at hx
  refine ⟨b, es.size, ?_, ?_⟩
  · have := World.var?_cell hg hvar 0
    rw [Array.eq_one_of_toList hcs] at this
    simpa using this
  · rw [hx.1]
    exact World.ownsMap_of_fit hb F (fun x _ z hz => hs hz)

set_option maxRecDepth 100000 in
theorem of_laid {W : World} (h : laidMetH Tryd.prog listed W) : Laid W := by
  rw [MakeChecks.laidMetH_plain _ _ _ (by kernel_rfl)] at h
  obtain ⟨ps, h0, _⟩ := h
  obtain ⟨_, h1⟩ := laidVars_tail h0
  obtain ⟨_, h2⟩ := laidVars_tail h1
  obtain ⟨_, h3⟩ := laidVars_tail h2
  obtain ⟨_, h4⟩ := laidVars_tail h3
  obtain ⟨_, h5⟩ := laidVars_tail h4
  obtain ⟨_, h6⟩ := laidVars_tail h5
  exact ⟨tab_of (t := 117) (e := 78) (n := 20) gpow (by kernel_rfl) Tryd.underlying117 (by kernel_rfl) (by kernel_rfl) (by kernel_rfl) h2,
    tab_of (t := 123) (e := 5) (n := 256) gspace (by kernel_rfl) Tryd.underlying123 (by kernel_rfl) (by kernel_rfl) (by kernel_rfl) h4,
    map_of (t := 87) (by intro e; cases e) (by kernel_rfl) (by kernel_rfl) (by kernel_rfl) (fun hz => elemAt_plainElem_int Tryd.underlying3 hz) h5,
    map_of (t := 89) (by intro e; cases e) (by kernel_rfl) (by kernel_rfl) (by kernel_rfl) (fun hz => elemAt_plainElem_string Tryd.underlying9 hz) h6⟩

/-- A SLICE OPENED: what it leads to is a row of elements, if each element's cells say a value. -/
theorem openC {H : Type} {enc : TypeId × Value → H} {w : World} {base : Nat} {spare : Nat → Bool} {held : Bool} {α : Type} (d : Kd α) (z : α) {t e : TypeId} {fuel : Nat} {cs : List Value} {x : DataW H × List MemPlace}
    (ht : Tryd.prog.underlying t = some (.slice e)) (hsz : Tryd.prog.cellsOf e = d.sz)
    (hE : ∀ m cs y, m < fuel → DataW.trod enc Tryd.prog w base spare held m e cs = some y → ∃ p, d.K w p cs)
    (h : DataW.trod enc Tryd.prog w base spare held fuel t cs = some x) : ∃ A c xs, cs = [.slice A xs.length c] ∧ xs.length ≤ c ∧ d.C w A xs.length xs := by
  rcases DataW.trod_slice ht h with ⟨rfl, _⟩ | ⟨a, len, cap, elems, rest, n, rfl, rfl, _, _, hl, hm, hlen, hel, _, _⟩
  · exact ⟨none, 0, [], rfl, Nat.le_refl _, Kd.C_nil d w⟩
  · have each : ∀ i, i < len → ∃ q : α × List Value, q.2.length = d.sz ∧ d.K w q.1 q.2 ∧ ∀ j u, q.2[j]? = some u → w.cell? (a.add (i * d.sz + j)) = some u := by
      intro i hi
      have h1 := hel i hi
      rw [List.getElem?_eq_getElem (by omega)] at h1
      obtain ⟨cs', hc, hd⟩ := Option.bind_eq_some_iff.1 h1
      obtain ⟨p, hp⟩ := hE n cs' _ (by omega) hd
      obtain ⟨_, hl', hcell⟩ := World.cells?_some hc
      refine ⟨(p, cs'), d.K_len hp, hp, fun j u hu => ?_⟩
      obtain ⟨hj, _⟩ := List.getElem?_eq_some_iff.1 hu
      have hj2 : j < cs'.length := hj
      have := hcell j (by omega)
      rw [Addr.add_add, hsz] at this
      rw [this]
      exact hu
    haveI : Inhabited (α × List Value) := ⟨(z, [])⟩
    obtain ⟨f, hf⟩ := choose_lt each
    refine ⟨some a, cap, (List.range len).map fun i => (f i).1, by simp, by simpa using hl, by simp, by simp [maxLen] at hm ⊢; omega, fun _ => ⟨a, rfl, fun j p hj => ?_⟩⟩
    obtain ⟨hj', hp⟩ := List.getElem?_eq_some_iff.1 hj
    simp only [List.length_map, List.length_range] at hj'
    simp only [List.getElem_map, List.getElem_range] at hp
    subst hp
    obtain ⟨h1, h2, h3⟩ := hf j hj'
    exact ⟨(f j).2, h1, h2, h3⟩

theorem open_strs {H : Type} {enc : TypeId × Value → H} {w : World} {base : Nat} {spare : Nat → Bool} {held : Bool} {v : Value} {d : DataW H} {p : List MemPlace} (h : DataW.Trod enc Tryd.prog w base spare held 22 v d p) :
    ∃ A c xs, v.cells.toList = [.slice A xs.length c] ∧ xs.length ≤ c ∧ Kd.C Kd.string w A xs.length xs := by
  obtain ⟨fuel, hf⟩ := h
  exact openC Kd.string ByteArray.empty Tryd.underlying22 (by kernel_rfl) (fun m cs y _ hy => by
    obtain ⟨s, rfl, _, _⟩ := DataW.trod_string Tryd.underlying9 hy
    exact ⟨s, rfl⟩) hf
theorem open_strs1 {H : Type} {enc : TypeId × Value → H} {w : World} {base : Nat} {spare : Nat → Bool} {held : Bool} {fuel : Nat} {cs : List Value} {x : DataW H × List MemPlace} (h : DataW.trod enc Tryd.prog w base spare held fuel 22 cs = some x) :
    ∃ A c xs, cs = [.slice A xs.length c] ∧ xs.length ≤ c ∧ Kd.C Kd.string w A xs.length xs :=
  openC Kd.string ByteArray.empty Tryd.underlying22 (by kernel_rfl) (fun m cs y _ hy => by
    obtain ⟨s, rfl, _, _⟩ := DataW.trod_string Tryd.underlying9 hy
    exact ⟨s, rfl⟩) h
end Go.Proofs.YtmlkllbaehegjaaDoor.Open
