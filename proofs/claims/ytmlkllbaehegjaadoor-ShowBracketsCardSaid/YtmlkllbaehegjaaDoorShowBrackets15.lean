-- Words of the kit's print, walks printed by a program of this session (wip/prt) in shorter words, and texts of this session, merged (pack.py).
import Derived.Lib.Builder
import Derived.Lib.AppendStr
import Derived.Lib.UnsafeStr
import Derived.Below
import Derived.WalkKit
import Derived.KernelRfl
import Derived.Laws.Externs
import Derived.Deep.RegionLaw
import Derived.Deep.RegionHeld3
import Derived.Test.YtmlkllbaehegjaaDoorShowBrackets3
import Derived.Test.YtmlkllbaehegjaaDoorShowBrackets14
import Derived.Test.YtmlkllbaehegjaaDoorShowBrackets13
import Derived.Test.YtmlkllbaehegjaaDoorProg
import Derived.Test.YtmlkllbaehegjaaDoorShowBrackets12
import Derived.Test.YtmlkllbaehegjaaDoorShowBrackets9
import Derived.Test.YtmlkllbaehegjaaDoorShowBrackets11
section
namespace Go.Proofs.YtmlkllbaehegjaaDoor.PAll
open Go.RowKit Go.Proofs.YtmlkllbaehegjaaDoorW.PrintWords Go.Proofs.YtmlkllbaehegjaaDoorW.PrintLast Go.Proofs.YtmlkllbaehegjaaDoorW.PrintMore
attribute [local go_sem] max2_int min2_int max_two min_two max_three min_three max_four min_four
set_option linter.unusedVariables false
set_option linter.unusedSimpArgs false
/-! ### sequiturref14_loose: function 71 -/
def sequiturref14_loose.f (a0 : Int) : Option (Int) := if a0 = 10 then (some 1) else (if a0 = 9 then (some 2) else (if a0 = 8 then (some 3) else (if a0 = 7 then (some 4) else (some 0))))
/-! ### sequiturref14_sign: function 72 -/
def sequiturref14_sign.f (a0 : Int) : Option (ByteArray) := (some (([(⟨#[]⟩ : ByteArray), (⟨#[32, 60, 45, 62, 32]⟩ : ByteArray), (⟨#[32, 45, 62, 32]⟩ : ByteArray), (⟨#[32, 124, 32]⟩ : ByteArray), (⟨#[32, 38, 32]⟩ : ByteArray)] : List ByteArray) : List ByteArray)).bind fun y527 => ((sequiturref14_loose.f a0).bind fun t530 => (if 0 ≤ t530 then (if t530 < (y527.length : Int) then (some (rdOf ByteArray.empty y527 t530)) else (none)) else (none)))
end Go.Proofs.YtmlkllbaehegjaaDoor.PAll
end
section
/- Plain laws: show's text of a claim is the document's. -/
namespace Go.Proofs.YtmlkllbaehegjaaDoor.PAll
open Go.RowKit
open Go.Proofs.YtmlkllbaehegjaaDoor
open Go.Proofs.YtmlkllbaehegjaaDoorW.PrintWords (rdOf)
mutual
/-- All numbers in a claim are int64. -/
def OC : S30 → Prop
  | ⟨_, _, _, l, c⟩ => OTs l ∧ OCs c
def OCs : List S30 → Prop
  | [] => True
  | t :: r => OC t ∧ OCs r
end
theorem OC_to {t : S30} (h : OC t) : OTs t.f3 ∧ OCs t.f4 := by cases t; exact h
theorem RCs_at : ∀ {l : List S30} {i : Nat} (hi : i < l.length), RCs l → RC l[i]
  | _ :: _, 0, _, h => h.1
  | _ :: r, i + 1, hi, h => RCs_at (l := r) (i := i) (by simpa using hi) h.2
theorem NCs_at : ∀ {l : List S30} {i : Nat} (hi : i < l.length), NCs l → NC l[i]
  | _ :: _, 0, _, h => h.1
  | _ :: r, i + 1, hi, h => NCs_at (l := r) (i := i) (by simpa using hi) h.2
theorem OCs_at : ∀ {l : List S30} {i : Nat} (hi : i < l.length), OCs l → OC l[i]
  | _ :: _, 0, _, h => h.1
  | _ :: r, i + 1, hi, h => OCs_at (l := r) (i := i) (by simpa using hi) h.2
theorem term_at (a0 : Int) (a1 a2 : ByteArray) (l : List S53) (c : List S30) {i : Nat} (hi : i < l.length) : show_termOf.f a0 a1 a2 l c (i : Int) = some (l[i].f0, l[i].f1, l[i].f2, l[i].f3) := by
  unfold show_termOf.f
  rw [if_pos (by omega), if_pos (by omega), rdT hi]
theorem sub_at (a0 : Int) (a1 a2 : ByteArray) (l : List S53) (c : List S30) {i : Nat} (hi : i < c.length) : show_sub.f a0 a1 a2 l c (i : Int) = some (c[i].f0, c[i].f1, c[i].f2, c[i].f3, c[i].f4) := by
  unfold show_sub.f
  rw [if_pos (by omega), if_pos (by omega), rdC hi]
def looseV (x : Int) : Int := if x = 10 then 1 else if x = 9 then 2 else if x = 8 then 3 else if x = 7 then 4 else 0
theorem loose_tight (x : Int) (h : 7 ≤ x) (h2 : x ≤ 10) : looseV x = tightV x ∧ 1 ≤ tightV x ∧ tightV x ≤ 4 ∧ tightHas x = true ∧ sequiturref14_sign.f x = some (signsV x) ∧ (signsV x).size ≤ 5 := by
  have : x = 7 ∨ x = 8 ∨ x = 9 ∨ x = 10 := by omega
  rcases this with rfl | rfl | rfl | rfl <;> decide +kernel
/-- The text of an applied name. -/
theorem apply_of (name : ByteArray) (l : List S53) (names : List ByteArray) (s : ByteArray) (h : Ev (fun k => show_text.f k 3 name 0 l names) s) : Ev (fun k => show_apply.f k name l names) s := by
  obtain ⟨n, hn⟩ := h
  obtain ⟨b, hb⟩ := arg_any 3 name 0 l
  refine ⟨n, fun k hk => ?_⟩
  have := hn (k + 1) (by omega)
  simp only [show_text.f] at this
  rw [hb] at this
  simpa using this
/-- Which claims go on to the last stretch. -/
theorem show_last (t : S30) (names l2 : List ByteArray) (a3 : Int) (a4 : Bool) (s : ByteArray) (h : t.f0 = 3 ∨ 7 ≤ t.f0) (hs : Ev (fun k => show_shower_show.j0 k l2 a3 a4 (decide (t.f0 = 11 ∨ t.f0 = 12)) names t.f0 t.f1 t.f2 t.f3 t.f4) s) :
    Ev (fun k => show_shower_show.f k names t.f0 t.f1 t.f2 t.f3 t.f4 l2 a3 a4) s := by
  refine Ev.step ?_
  simp only [show_shower_show.f]
  refine Ev.neg (by omega) (Ev.neg (by omega) (Ev.neg (by omega) (Ev.neg (by omega) (Ev.neg (by omega) ?_))))
  by_cases h1 : t.f0 = 11
  · refine Ev.pos h1 ?_
    rw [show (t.f0 == 11) = decide (t.f0 = 11 ∨ t.f0 = 12) by simp [h1]]
    exact hs
  · refine Ev.neg h1 ?_
    rw [show (t.f0 == 12) = decide (t.f0 = 11 ∨ t.f0 = 12) by
      by_cases h3 : t.f0 = 12
      · simp [h3]
      · rw [beq_eq_false_iff_ne.mpr h3]
        exact (decide_eq_false (by omega)).symm]
    exact hs
end Go.Proofs.YtmlkllbaehegjaaDoor.PAll
end
section
namespace Go.Proofs.YtmlkllbaehegjaaDoor
open Go Go.RowKit
theorem infoByte : (Tryd.prog.info? 5).map (fun i => (i.zero, i.size, i.bytes)) = some (some (.int .u8 0), 1, 1) := by kernel_rfl
/-- No block turns but those of the builder's own two types. -/
def KeptB (w w' : World) : Prop := ∀ (i : Nat) (cs : Array Value) (t : TypeId), w.heap[i]? = some (.cells cs t (0, 0)) → t ≠ 68 → t ≠ 5 → w'.heap[i]? = some (.cells cs t (0, 0))
theorem KeptB.refl (w : World) : KeptB w w := fun _ _ _ h _ _ => h
theorem KeptB.trans {w w1 w2 : World} (h : KeptB w w1) (k : KeptB w1 w2) : KeptB w w2 := fun i cs t hi h1 h2 => k i cs t (h i cs t hi h1 h2) h1 h2
theorem KeptB.set {w : World} {b j : Nat} {cs : Array Value} (hb : w.heap[b]? = some (.cells cs 68 (0, 0))) (v : Value) : KeptB w (w.setCell ⟨b, j, none⟩ v) := by
  intro i cs' t hi h1 _
  rw [Below.heap_setCell w ⟨b, j, none⟩ v i (by
    rintro rfl
    rw [hb] at hi
    injection hi with hi
    injection hi with _ e _
    exact h1 e.symm)]
  exact hi
theorem KeptB.grown {w w' : World} {B n : Nat} {v : Value} {bs : List Value} (hown : w.ownsRow B 5 1 v n bs) (hg : w.grownBy w' v.ownBlock) : KeptB w w' := by
  intro i cs t hi _ h2
  have hlt : i < w.heap.size := (Array.getElem?_eq_some_iff.1 hi).1
  rw [hg.block i hlt (fun e => ?_)]
  · exact hi
  · rcases hown.2 with ⟨hv, _⟩ | ⟨g, cap, cur, hv, _, hh, _⟩
    · rw [hv] at e
      simp [Value.ownBlock] at e
    · rw [hv] at e
      have : i = g := by simpa [Value.ownBlock] using e
      subst this
      rw [hh] at hi
      injection hi with hi
      injection hi with _ e2 _
      exact h2 e2.symm
end Go.Proofs.YtmlkllbaehegjaaDoor
end
section
namespace Go.Proofs.YtmlkllbaehegjaaDoor.PAll
open Go.RowKit Go.Proofs.YtmlkllbaehegjaaDoorW.PrintWords Go.Proofs.YtmlkllbaehegjaaDoorW.PrintLast Go.Proofs.YtmlkllbaehegjaaDoorW.PrintMore
open Go.Proofs.YtmlkllbaehegjaaDoor
set_option linter.unusedVariables false
set_option linter.unusedSimpArgs false
def show_Claim.f (k : Nat) (a0_0 : Int) (a0_1 a0_2 : ByteArray) (l0_3 : List S53) (l0_4 : List S30) : Option ByteArray :=
  (shower_claim.f k [] a0_0 a0_1 a0_2 l0_3 l0_4).bind fun t => show_shower_show.f k t a0_0 a0_1 a0_2 l0_3 l0_4 [] 1 true
/-- What came in is read past what is made. -/
theorem V_came {α : Type} {d : Kd α} (hd : Kd.Heap d) {w0 W : World} {A : Option Addr} {c e base g : Nat} {xs : List α} (h : d.C w0 A xs.length xs) (hc : xs.length ≤ c) (hb : Below w0.heap.size w0 W) (hg : w0.heap.size ≤ g) :
    Kd.V d e W base (fun k => k < w0.heap.size ∧ k ≠ g) (.slice A xs.length c) xs :=
  Kd.V_mk hc (fun W' hW => hd.C (fun k hlt => (hW k ⟨hlt, by omega⟩ (Nat.lt_of_lt_of_le hlt hb.size)).trans (hb.block k hlt)) h)
set_option maxHeartbeats 2000000 in
set_option maxRecDepth 100000 in
theorem show_Claim.calls (k : Nat) (a0_0 : Int) (a0_1 a0_2 : ByteArray) (A0_3 : Option Addr) (c0_3 : Nat) (l0_3 : List S53) (A0_4 : Option Addr) (c0_4 : Nat) (l0_4 : List S30) (r : ByteArray) (w : World) (hG : Laid w) (hr0_3 : Kd.C k53 w A0_3 l0_3.length l0_3) (hc0_3 : l0_3.length ≤ c0_3) (hr0_4 : Kd.C k30 w A0_4 l0_4.length l0_4) (hc0_4 : l0_4.length ≤ c0_4) (h : show_Claim.f k a0_0 a0_1 a0_2 l0_3 l0_4 = some r) :
    Calls Tryd.prog 14 #[.agg #[.int .i64 a0_0, .string a0_1, .string a0_2, .slice A0_3 l0_3.length c0_3, .slice A0_4 l0_4.length c0_4]] w fun e w' => e = .returned (.string r) ∧ Below w.heap.size w w' := by
  unfold show_Claim.f at h
  obtain ⟨t, h1, h2⟩ := Option.bind_eq_some_iff.mp h
  clear h
  have hu30 := Tryd.underlying30
  have hu62 := Tryd.underlying62
  have HG := Aside0.mk hG
  have HR0_3 := Aside0.mk hr0_3
  have HC0_3 := Aside0.mk hc0_3
  have HR0_4 := Aside0.mk hr0_4
  have HC0_4 := Aside0.mk hc0_4
  have H1 := Aside0.mk h1
  have H2 := Aside0.mk h2
  clear hG hr0_3 hc0_3 hr0_4 hc0_4 h1 h2
  go_enter Tryd.func14, Tryd.ntmps14
  go_upto_region 1 with (first | ((with_reducible refine gate_dst (N := 1) rfl ?_); refine box_event ?hg (N := 1) ?hd (cs := #[.int .i64 a0_0, .string a0_1, .string a0_2, .slice A0_3 l0_3.length c0_3, .slice A0_4 l0_4.length c0_4]) (t := 30) ?hr ?_; (case hd => rfl); (case hg => rfl); (case hr => first | (go_simp; done) | (go_simp; rfl)); intro gb hg w3 hbox hb; have HB := Aside0.mk hb; have BK := Aside0.mk hbox; clear hb hbox hg))
  (try simp only [Act.put, List.setIfInBounds_toArray, List.set_cons_zero, List.set_cons_succ])
  go_upto_region 2 with (first | ((with_reducible refine gate_dst (N := 5) rfl ?_); refine box_event ?hg (N := 5) ?hd (cs := #[.slice none 0 0]) (t := 62) ?hr ?_; (case hd => rfl); (case hg => rfl); (case hr => first | (go_simp; done) | (go_simp; rfl)); intro g hg w4 hbox hb; have BK2 := Aside0.mk (blk_below BK.out hb); have HGG : Aside0 (w.heap.size ≤ g) := ⟨by rw [hg]; exact HB.out.size⟩; have HI : Aside0 (OwnS62 w w4 g []) := ⟨⟨none, 0, hbox, HGG.out, Kd.R_nil _ _ _ _ _⟩⟩; have HB2 := Aside0.mk (below_step HB.out hb); clear hb hbox hg HB BK))
  (try simp only [Act.put, List.setIfInBounds_toArray, List.set_cons_zero, List.set_cons_succ])
  have hz0 : w4.cell? ⟨gb, 0, none⟩ = some (.int .i64 a0_0) := (blk_cell BK2.out 0).trans rfl
  have hz1 : w4.cell? ⟨gb, 1, none⟩ = some (.string a0_1) := (blk_cell BK2.out 1).trans rfl
  have hz2 : w4.cell? ⟨gb, 2, none⟩ = some (.string a0_2) := (blk_cell BK2.out 2).trans rfl
  have hz3 : w4.cell? ⟨gb, 3, none⟩ = some (.slice A0_3 l0_3.length c0_3) := (blk_cell BK2.out 3).trans rfl
  have hz4 : w4.cell? ⟨gb, 4, none⟩ = some (.slice A0_4 l0_4.length c0_4) := (blk_cell BK2.out 4).trans rfl
  go_wp2_with (fail)
  refine (shower_claim.calls k g [] a0_0 a0_1 a0_2 _ _ l0_3 _ _ l0_4 t w _ HI.out HB2.out HR0_3.out HC0_3.out HR0_4.out HC0_4.out H1.out).mono ?_
  rintro e w5 ⟨rfl, hI5, hB5, hK5⟩
  have BK5 := Aside0.mk (hK5 gb _ _ BK2.out (by decide) (by decide))
  have HI5 : Aside0 (IsS62 w5 w5 g t) := ⟨by
    obtain ⟨A0, c0, hb, _, hr⟩ := hI5
    exact ⟨A0, c0, hb, trivial, (Kd.R_reads' hr).2.2⟩⟩
  have HB5 := Aside0.mk hB5
  clear hI5 hB5 hK5 HI BK2 HB2 hz0 hz1 hz2 hz3 hz4
  have hz0 : w5.cell? ⟨gb, 0, none⟩ = some (.int .i64 a0_0) := (blk_cell BK5.out 0).trans rfl
  have hz1 : w5.cell? ⟨gb, 1, none⟩ = some (.string a0_1) := (blk_cell BK5.out 1).trans rfl
  have hz2 : w5.cell? ⟨gb, 2, none⟩ = some (.string a0_2) := (blk_cell BK5.out 2).trans rfl
  have hz3 : w5.cell? ⟨gb, 3, none⟩ = some (.slice A0_3 l0_3.length c0_3) := (blk_cell BK5.out 3).trans rfl
  have hz4 : w5.cell? ⟨gb, 4, none⟩ = some (.slice A0_4 l0_4.length c0_4) := (blk_cell BK5.out 4).trans rfl
  go_wp2_with (fail)
  refine (show_shower_show.calls k g t a0_0 a0_1 a0_2 (fun k => k < w.heap.size) _ _ l0_3 (fun k => k < w.heap.size) _ _ l0_4 none 0 [] 1 true r w5 _ (HG.out.below HB5.out) HI5.out (Below.refl _ _) (V_came k53_heap HR0_3.out HC0_3.out HB5.out HGG.out) (V_came k30_heap HR0_4.out HC0_4.out HB5.out HGG.out) (Kd.C_nil _ _) (Nat.le_refl _) (fun _ h _ => by cases h) H2.out).mono ?_
  rintro e w6 ⟨rfl, _, hb6, _⟩
  have HB6 := Aside0.mk (below_step HB5.out hb6)
  clear hb6
  go_wp2_with (fail)
  go_ret
  exact ⟨rfl, HB6.out⟩
/-- The builder at g holds s. -/
def Holds (w0 W : World) (g : Nat) (s : ByteArray) : Prop := Lib.IsBuilder 68 5 w0.heap.size g (Lib.byteCells s.data.toList) W
theorem Holds.below {w0 W W1 : World} {g : Nat} {s : ByteArray} (h : Holds w0 W g s) (hb : Below W.heap.size W W1) : Holds w0 W1 g s := by
  have key : ∀ p, Lib.BuilderAt 68 5 w0.heap.size g p (Lib.byteCells s.data.toList) W → Lib.BuilderAt 68 5 w0.heap.size g p (Lib.byteCells s.data.toList) W1 := by
    rintro p ⟨hB, v, hbk, hown, hne⟩
    exact ⟨hB, v, blk_below hbk hb, own_move hown (fun k hk => hb.block k (hown.lt k hk).2), hne⟩
  rcases h with h | h
  · exact .inl (key _ h)
  · exact .inr (key _ h)
end Go.Proofs.YtmlkllbaehegjaaDoor.PAll
end
section
namespace Go.Proofs.YtmlkllbaehegjaaDoor.PAll
open Go.RowKit Go.Proofs.YtmlkllbaehegjaaDoorW.PrintWords Go.Proofs.YtmlkllbaehegjaaDoorW.PrintLast Go.Proofs.YtmlkllbaehegjaaDoorW.PrintMore
attribute [local go_sem] max2_int min2_int max_two min_two max_three min_three max_four min_four
set_option linter.unusedVariables false
set_option linter.unusedSimpArgs false
/-! ### show_Term: function 21 -/
def show_Term.f (k : Nat) (a0_0 : Int) (a0_1 : ByteArray) (a0_2 : Int) (l0_3 : List (S53)) : Option (ByteArray) := (show_text.f k a0_0 a0_1 a0_2 l0_3 ([] : List ByteArray)).bind fun t314 => (some t314)
set_option maxHeartbeats 8000000 in
set_option maxRecDepth 100000 in
theorem show_Term.calls (k : Nat) (a0_0 : Int) (a0_1 : ByteArray) (a0_2 : Int) (A0_3 : Option Addr) (c0_3 : Nat) (l0_3 : List (S53)) (r : ByteArray) (w : World) (hG : Laid w) (hr0_3 : Kd.C k53 w A0_3 l0_3.length l0_3) (hc0_3 : l0_3.length ≤ c0_3) (h : show_Term.f k a0_0 a0_1 a0_2 l0_3 = some r) :
    Calls Tryd.prog 21 #[.agg #[.int .i64 a0_0, .string a0_1, .int .i64 a0_2, .slice A0_3 l0_3.length c0_3]] w fun e w' => e = .returned (.string r) ∧ Below w.heap.size w w' := by
  have hu53 := Tryd.underlying53; have HR0_3 := am hr0_3; have HC0_3 := am hc0_3; clear hr0_3 hc0_3; have HG := am hG; clear hG; have HB := am (Below.refl w.heap.size w); have H := h; unfold show_Term.f at H; clear h; obtain ⟨t314, A2, H⟩ := bO H; obtain rfl := Option.some.inj H
  go_enter Tryd.func21, Tryd.ntmps21
  go_wp2_with (first | ((with_reducible refine gate_dst (N := 1) rfl ?_); refine bE 1 #[.int .i64 a0_0, .string a0_1, .int .i64 a0_2, .slice A0_3 l0_3.length c0_3] 53 ?_; intro gb313 w3 BK313 hg hb; have GW313 := bZ hg; have GE313 := bZ hg; replace HB := bH hb; clear hb hg; obtain ⟨z4_0, z4_1, z4_2, z4_3, y4_0, y4_1, y4_2, y4_3⟩ := y4 BK313) | ((with_reducible refine gate_callee (f := 38) rfl ?_); refine gL 4 Tryd.func38 #[.agg #[.int .i64 a0_0, .string a0_1, .int .i64 a0_2, .slice A0_3 l0_3.length c0_3], .slice none 0 0] ?_; (refine (show_text.calls k a0_0 a0_1 a0_2 _ _ l0_3 _ _ ([] : List ByteArray) t314 _ ?side1 ?side2 HC0_3.out ?side4 ?side5 A2.out).mono ?_); (case side1 => exact Laid.below HG.out bB); (case side2 => exact cB HR0_3); (case side4 => exact Kd.C_nil _ _); (case side5 => exact Nat.le_refl _); rintro e w5 ⟨rfl, hb⟩; refine ⟨_, rfl, ?_⟩; replace BK313 := bK BK313 hb; replace HB := bH hb; clear hb))
  go_ret; exact ⟨eW, bB⟩
end Go.Proofs.YtmlkllbaehegjaaDoor.PAll
end
