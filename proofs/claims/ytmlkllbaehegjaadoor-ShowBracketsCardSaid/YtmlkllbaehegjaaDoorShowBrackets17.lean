-- Words of the kit's print, walks printed by a program of this session (wip/prt) in shorter words, and texts of this session, merged (pack.py).
import Derived.Lib.SmallJoins
import Derived.DataShut
import Derived.Test.YtmlkllbaehegjaaDoorShowBrackets16
import Derived.Test.YtmlkllbaehegjaaDoorShowBrackets15
import Derived.Test.YtmlkllbaehegjaaDoorShowBrackets2
import Derived.Test.YtmlkllbaehegjaaDoorShowBrackets3
import Derived.Test.YtmlkllbaehegjaaDoorShowBrackets7
section
namespace Go.Proofs.YtmlkllbaehegjaaDoor.Open
open Go Go.Deep Go.ChangeShapes Go.WideShapes Go.ChangeAt Go.RowKit Go.Maps
open Go.Proofs.YtmlkllbaehegjaaDoorW.PrintWords
open Go.Proofs.YtmlkllbaehegjaaDoor Go.Proofs.YtmlkllbaehegjaaDoor.PAll
/-- A SLICE OPENED, with a fact of every element. -/
theorem openCP {H : Type} {enc : TypeId × Value → H} {w : World} {base : Nat} {spare : Nat → Bool} {held : Bool} {α : Type} (d : Kd α) (Q : α → Prop) (z : α) {t e : TypeId} {fuel : Nat} {cs : List Value} {x : DataW H × List MemPlace}
    (ht : Tryd.prog.underlying t = some (.slice e)) (hsz : Tryd.prog.cellsOf e = d.sz)
    (hE : ∀ m cs y, m < fuel → DataW.trod enc Tryd.prog w base spare held m e cs = some y → ∃ p, d.K w p cs ∧ Q p)
    (h : DataW.trod enc Tryd.prog w base spare held fuel t cs = some x) : ∃ A c xs, cs = [.slice A xs.length c] ∧ xs.length ≤ c ∧ d.C w A xs.length xs ∧ ∀ p ∈ xs, Q p := by
  rcases DataW.trod_slice ht h with ⟨rfl, _⟩ | ⟨a, len, cap, elems, rest, n, rfl, rfl, _, _, hl, hm, hlen, hel, _, _⟩
  · exact ⟨none, 0, [], rfl, Nat.le_refl _, Kd.C_nil d w, by simp⟩
  · have each : ∀ i, i < len → ∃ q : α × List Value, q.2.length = d.sz ∧ (d.K w q.1 q.2 ∧ Q q.1) ∧ ∀ j u, q.2[j]? = some u → w.cell? (a.add (i * d.sz + j)) = some u := by
      intro i hi
      have h1 := hel i hi
      rw [List.getElem?_eq_getElem (by omega)] at h1
      obtain ⟨cs', hc, hd⟩ := Option.bind_eq_some_iff.1 h1
      obtain ⟨p, hp, hq⟩ := hE n cs' _ (by omega) hd
      obtain ⟨_, hl', hcell⟩ := World.cells?_some hc
      refine ⟨(p, cs'), d.K_len hp, ⟨hp, hq⟩, fun j u hu => ?_⟩
      obtain ⟨hj, _⟩ := List.getElem?_eq_some_iff.1 hu
      have hj2 : j < cs'.length := hj
      have := hcell j (by omega)
      rw [Addr.add_add, hsz] at this
      rw [this]
      exact hu
    haveI : Inhabited (α × List Value) := ⟨(z, [])⟩
    obtain ⟨f, hf⟩ := choose_lt each
    refine ⟨some a, cap, (List.range len).map fun i => (f i).1, by simp, by simpa using hl, ⟨by simp, by simp [maxLen] at hm ⊢; omega, fun _ => ⟨a, rfl, fun j p hj => ?_⟩⟩, fun p hp => ?_⟩
    · obtain ⟨hj', hp⟩ := List.getElem?_eq_some_iff.1 hj
      simp only [List.length_map, List.length_range] at hj'
      simp only [List.getElem_map, List.getElem_range] at hp
      subst hp
      obtain ⟨h1, h2, h3⟩ := hf j hj'
      exact ⟨(f j).2, h1, h2.1, h3⟩
    · obtain ⟨i, hi, rfl⟩ := List.mem_map.1 hp
      exact (hf i (by simpa using hi)).2.1.2
theorem OTs_of : ∀ {l : List S53}, (∀ p ∈ l, OT p) → OTs l
  | [], _ => trivial
  | t :: r, h => ⟨h t (by simp), OTs_of fun p hp => h p (by simp [hp])⟩
theorem OCs_of : ∀ {l : List S30}, (∀ p ∈ l, OC p) → OCs l
  | [], _ => trivial
  | t :: r, h => ⟨h t (by simp), OCs_of fun p hp => h p (by simp [hp])⟩
theorem five {cs : List Value} {a b c d e : Value} (hl : cs.length = 5) (h0 : (cs.drop 0).take 1 = [a]) (h1 : (cs.drop 1).take 1 = [b]) (h2 : (cs.drop 2).take 1 = [c]) (h3 : (cs.drop 3).take 1 = [d]) (h4 : (cs.drop 4).take 1 = [e]) : cs = [a, b, c, d, e] := by
  match cs, hl with
  | [v0, v1, v2, v3, v4], _ => simp at h0 h1 h2 h3 h4; simp [h0, h1, h2, h3, h4]
theorem four {cs : List Value} {a b c d : Value} (hl : cs.length = 4) (h0 : (cs.drop 0).take 1 = [a]) (h1 : (cs.drop 1).take 1 = [b]) (h2 : (cs.drop 2).take 1 = [c]) (h3 : (cs.drop 3).take 1 = [d]) : cs = [a, b, c, d] := by
  match cs, hl with
  | [v0, v1, v2, v3], _ => simp at h0 h1 h2 h3; simp [h0, h1, h2, h3]
theorem open53 {H : Type} {enc : TypeId × Value → H} {w : World} {base : Nat} {spare : Nat → Bool} {held : Bool} (fuel : Nat) : ∀ (cs : List Value) (y : DataW H × List MemPlace), DataW.trod enc Tryd.prog w base spare held fuel 53 cs = some y → ∃ x : S53, k53.K w x cs ∧ OT x := by
  induction fuel using Nat.strongRecOn with
  | _ fuel ih =>
    intro cs y h
    obtain ⟨xs, n, rfl, rfl, hl, hlen, hf⟩ := DataW.trod_struct Tryd.underlying53 h
    match xs, hlen with
    | [y0, y1, y2, y3], _ =>
      obtain ⟨a, ha, _, _⟩ := DataW.trod_int Tryd.underlying3 (hf 0 _ rfl)
      obtain ⟨b, hb, _, _⟩ := DataW.trod_string Tryd.underlying9 (hf 1 _ rfl)
      obtain ⟨c, hc, _, hcw⟩ := DataW.trod_int Tryd.underlying2 (hf 2 _ rfl)
      obtain ⟨A, m, l, hd, hm, hC, hQ⟩ := openCP k53 OT z53 Tryd.underlying27 (by kernel_rfl) (fun q cs' y' hq hy => ih q (by omega) cs' y' hy) (hf 3 _ rfl)
      have hn : Tryd.prog.cellsOf 53 = 4 := by kernel_rfl
      have c3 : Tryd.prog.cellsOf 3 = 1 := by kernel_rfl
      have c9 : Tryd.prog.cellsOf 9 = 1 := by kernel_rfl
      have c2 : Tryd.prog.cellsOf 2 = 1 := by kernel_rfl
      have c27 : Tryd.prog.cellsOf 27 = 1 := by kernel_rfl
      have ha' : (cs.drop 0).take (Tryd.prog.cellsOf 3) = [.int .i64 a] := ha
      have hb' : (cs.drop 1).take (Tryd.prog.cellsOf 9) = [.string b] := hb
      have hc' : (cs.drop 2).take (Tryd.prog.cellsOf 2) = [.int .i64 c] := hc
      have hd' : (cs.drop 3).take (Tryd.prog.cellsOf 27) = [.slice A l.length m] := hd
      rw [c3] at ha'
      rw [c9] at hb'
      rw [c2] at hc'
      rw [c27] at hd'
      rw [four (hl.trans hn) ha' hb' hc' hd']
      refine ⟨⟨a, b, c, l⟩, k53_mk w ⟨a, b, c, l⟩ hm hC, ?_, OTs_of hQ⟩
      have hb2 := (Lit.wf_int_iff _ _).1 hcw
      have e1 : IntKind.i64.min = -9223372036854775808 := by decide
      have e2 : IntKind.i64.max = 9223372036854775807 := by decide
      rw [e1, e2] at hb2
      exact hb2
/-- A claim's cells. -/
def Claims (w : World) (cs : List Value) (x : S30) : Prop := ∃ A3 c3 A4 c4, cs = [.int .i64 x.f0, .string x.f1, .string x.f2, .slice A3 x.f3.length c3, .slice A4 x.f4.length c4] ∧ x.f3.length ≤ c3 ∧ k53.C w A3 x.f3.length x.f3 ∧ x.f4.length ≤ c4 ∧ k30.C w A4 x.f4.length x.f4
theorem Claims.K {w : World} {cs : List Value} {x : S30} (h : Claims w cs x) : k30.K w x cs := by
  obtain ⟨A3, c3, A4, c4, rfl, l3, g3, l4, g4⟩ := h
  exact k30_mk w x l3 g3 l4 g4
theorem open30 {H : Type} {enc : TypeId × Value → H} {w : World} {base : Nat} {spare : Nat → Bool} {held : Bool} (fuel : Nat) : ∀ (cs : List Value) (y : DataW H × List MemPlace), DataW.trod enc Tryd.prog w base spare held fuel 30 cs = some y → ∃ x : S30, Claims w cs x ∧ OC x := by
  induction fuel using Nat.strongRecOn with
  | _ fuel ih =>
    intro cs y h
    obtain ⟨xs, n, rfl, rfl, hl, hlen, hf⟩ := DataW.trod_struct Tryd.underlying30 h
    match xs, hlen with
    | [y0, y1, y2, y3, y4], _ =>
      obtain ⟨a, ha, _, _⟩ := DataW.trod_int Tryd.underlying3 (hf 0 _ rfl)
      obtain ⟨b, hb, _, _⟩ := DataW.trod_string Tryd.underlying9 (hf 1 _ rfl)
      obtain ⟨c, hc, _, _⟩ := DataW.trod_string Tryd.underlying9 (hf 2 _ rfl)
      obtain ⟨A, m, l, hd, hm, hC, hQ⟩ := openCP k53 OT z53 Tryd.underlying27 (by kernel_rfl) (fun q cs' y' hq hy => open53 q cs' y' hy) (hf 3 _ rfl)
      obtain ⟨A', m', l', hd2, hm', hC', hQ'⟩ := openCP k30 OC z30 Tryd.underlying28 (by kernel_rfl) (fun q cs' y' hq hy => by
        obtain ⟨x, hx, ho⟩ := ih q (by omega) cs' y' hy
        exact ⟨x, hx.K, ho⟩) (hf 4 _ rfl)
      have hn : Tryd.prog.cellsOf 30 = 5 := by kernel_rfl
      have c3 : Tryd.prog.cellsOf 3 = 1 := by kernel_rfl
      have c9 : Tryd.prog.cellsOf 9 = 1 := by kernel_rfl
      have c28 : Tryd.prog.cellsOf 28 = 1 := by kernel_rfl
      have c27 : Tryd.prog.cellsOf 27 = 1 := by kernel_rfl
      have ha' : (cs.drop 0).take (Tryd.prog.cellsOf 3) = [.int .i64 a] := ha
      have hb' : (cs.drop 1).take (Tryd.prog.cellsOf 9) = [.string b] := hb
      have hc' : (cs.drop 2).take (Tryd.prog.cellsOf 9) = [.string c] := hc
      have hd' : (cs.drop 3).take (Tryd.prog.cellsOf 27) = [.slice A l.length m] := hd
      have he' : (cs.drop 4).take (Tryd.prog.cellsOf 28) = [.slice A' l'.length m'] := hd2
      rw [c3] at ha'
      rw [c9] at hb' hc'
      rw [c27] at hd'
      rw [c28] at he'
      rw [five (hl.trans hn) ha' hb' hc' hd' he']
      exact ⟨⟨a, b, c, l, l'⟩, ⟨A, m, A', m', rfl, hm, hC, hm', hC'⟩, OTs_of hQ, OCs_of hQ'⟩
end Go.Proofs.YtmlkllbaehegjaaDoor.Open
end
section
namespace Go.Proofs.YtmlkllbaehegjaaDoor.PAll
open Go.RowKit Go.Proofs.YtmlkllbaehegjaaDoorW.PrintWords Go.Proofs.YtmlkllbaehegjaaDoorW.PrintLast Go.Proofs.YtmlkllbaehegjaaDoorW.PrintMore
attribute [local go_sem] max2_int min2_int max_two min_two max_three min_three max_four min_four
set_option linter.unusedVariables false
set_option linter.unusedSimpArgs false
/-! ### sequiturlaw14_small: function 27 -/
def sequiturlaw14_small.l0 : Nat → ByteArray → Int → Int → Option (Bool)
  | 0, _, _, _ => none
  | k + 1, x0, x5, x6 => if x6 < x5 then (if 0 ≤ x6 then (if x6 < (x0.size : Int) then (if (bt x0 x6) < 97 then (some false) else (if (bt x0 x6) > 122 then (some false) else (sequiturlaw14_small.l0 k x0 x5 (wrap64 (x6 + 1))))) else (none)) else (none)) else (some true)
def sequiturlaw14_small.f (k : Nat) (a0 : ByteArray) : Option (Bool) := sequiturlaw14_small.l0 k a0 (a0.size : Int) 0
set_option maxHeartbeats 8000000 in
set_option maxRecDepth 100000 in
theorem sequiturlaw14_small.calls (k : Nat) (a0 : ByteArray) (r : Bool) (w : World) (h : sequiturlaw14_small.f k a0 = some r) :
    Calls Tryd.prog 27 #[.string a0] w fun e w' => e = .returned (.bool r) ∧ Drawn0 w w' := by
  have H := h; unfold sequiturlaw14_small.f at H; clear h; have H' := am H; clear H
  go_enter Tryd.func27, Tryd.ntmps27
  go_wp2
  go_loopg [6] k (fun kq v6 w' => ∃ (x6_1 : Int), v6 = .int .i64 x6_1 ∧ Aside0 (sequiturlaw14_small.l0 kq a0 (a0.size : Int) x6_1 = some r) ∧ Aside0 (kq ≤ k) ∧ Drawn0 w w')
  case atStart => exact ⟨(0), eS, H', ⟨Nat.le_refl _⟩, by repeat (first | exact Drawn0.refl _ | apply Drawn0.step)⟩
  case round =>
   clear H'; obtain ⟨x6_1, rfl, HA, HK1, ⟨m1, rfl⟩⟩ := hrel
   cases gk with
   | zero => exact absurd HA.out (by simp [sequiturlaw14_small.l0])
   | succ k1 =>
    have H := HA.out; clear HA; simp only [sequiturlaw14_small.l0] at H
    by_cases c2 : x6_1 < (a0.size : Int)
    ·rw [if_pos c2] at H
     have c2b0 : decide (x6_1 < (a0.size : Int)) = true := decide_eq_true c2; clear c2
     by_cases c3 : 0 ≤ x6_1
     ·rw [if_pos c3] at H
      have c3b0 : decide (0 ≤ x6_1) = true := decide_eq_true c3; clear c3
      by_cases c4 : x6_1 < (a0.size : Int)
      ·rw [if_pos c4] at H
       have c4b0 : decide (x6_1 < (a0.size : Int)) = true := decide_eq_true c4; clear c4
       by_cases c6 : (bt a0 x6_1) < 97
       ·rw [if_pos c6] at H
        have c6b0 : decide ((bt a0 x6_1) < 97) = true := decide_eq_true c6; clear c6; obtain rfl := Option.some.inj H; have p5 : 0 ≤ (x6_1 : Int) := of_decide_eq_true eA; have q5 : x6_1 < (a0.size : Int) := of_decide_eq_true eA; have hx5 := bt_at a0 x6_1; replace p5 := eq_true p5; replace q5 := eq_true q5; go_wp2; go_ret; exact ⟨by first | rfl | (simp; done) | (simp [*]; done) | (simp [*, nel]; done), by repeat (first | exact Drawn0.refl _ | apply Drawn0.step)⟩
       ·rw [if_neg c6] at H
        have c6b0 : decide ((bt a0 x6_1) < 97) = false := decide_eq_false c6; clear c6
        by_cases c8 : (bt a0 x6_1) > 122
        ·rw [if_pos c8] at H
         have c8b0 : decide (122 < (bt a0 x6_1)) = true := decide_eq_true c8; clear c8; obtain rfl := Option.some.inj H; have p5 : 0 ≤ (x6_1 : Int) := of_decide_eq_true eA; have q5 : x6_1 < (a0.size : Int) := of_decide_eq_true eA; have hx5 := bt_at a0 x6_1; replace p5 := eq_true p5; replace q5 := eq_true q5; have p7 : 0 ≤ (x6_1 : Int) := of_decide_eq_true eA; have q7 : x6_1 < (a0.size : Int) := of_decide_eq_true eA; have hx7 := bt_at a0 x6_1; replace p7 := eq_true p7; replace q7 := eq_true q7; go_wp2; go_ret; exact ⟨by first | rfl | (simp; done) | (simp [*]; done) | (simp [*, nel]; done), by repeat (first | exact Drawn0.refl _ | apply Drawn0.step)⟩
        ·rw [if_neg c8] at H
         have c8b0 : decide (122 < (bt a0 x6_1)) = false := decide_eq_false c8; clear c8; have H' := am H; clear H; have p5 : 0 ≤ (x6_1 : Int) := of_decide_eq_true eA; have q5 : x6_1 < (a0.size : Int) := of_decide_eq_true eA; have hx5 := bt_at a0 x6_1; replace p5 := eq_true p5; replace q5 := eq_true q5; have p7 : 0 ≤ (x6_1 : Int) := of_decide_eq_true eA; have q7 : x6_1 < (a0.size : Int) := of_decide_eq_true eA; have hx7 := bt_at a0 x6_1; replace p7 := eq_true p7; replace q7 := eq_true q7; go_wp2
         go_roundg k1
         case measure => have := HK1.out; omega
         case rel => exact ⟨(wrap64 (x6_1 + 1)), eS, H', ⟨by have := HK1.out; omega⟩, by repeat (first | exact Drawn0.refl _ | apply Drawn0.step)⟩
      ·rw [if_neg c4] at H
       exact absurd H (by simp)
     ·rw [if_neg c3] at H
      exact absurd H (by simp)
    ·rw [if_neg c2] at H
     have c2b0 : decide (x6_1 < (a0.size : Int)) = false := decide_eq_false c2; clear c2; obtain rfl := Option.some.inj H; go_wp2; go_ret; exact ⟨by first | rfl | (simp; done) | (simp [*]; done) | (simp [*, nel]; done), by repeat (first | exact Drawn0.refl _ | apply Drawn0.step)⟩
end Go.Proofs.YtmlkllbaehegjaaDoor.PAll
end
section
namespace Go.Proofs.YtmlkllbaehegjaaDoor.PAll
open Go.RowKit Go.Proofs.YtmlkllbaehegjaaDoorW.PrintWords Go.Proofs.YtmlkllbaehegjaaDoorW.PrintLast Go.Proofs.YtmlkllbaehegjaaDoorW.PrintMore
attribute [local go_sem] max2_int min2_int max_two min_two max_three min_three max_four min_four   -- for this text's walks alone
set_option linter.unusedVariables false
set_option linter.unusedSimpArgs false
/-! ### sequiturlaw14_termLettered: function 28 -/
mutual
def sequiturlaw14_termLettered.l0 : Nat → List (S53) → Int → Int → Int → ByteArray → Int → List (S53) → Option (Bool)
  | 0, _, _, _, _, _, _, _ => none
  | k + 1, x6, x7, x8, x398000, x398001, x398002, x398003 => if x8 < x7 then (if 0 ≤ x8 then (if x8 < (x6.length : Int) then ((sequiturlaw14_termLettered.f k ((rd_T53 x6 x8).f0) ((rd_T53 x6 x8).f1) ((rd_T53 x6 x8).f2) ((rd_T53 x6 x8).f3)).bind fun t401 => (if t401 = true then (sequiturlaw14_termLettered.l0 k x6 x7 (wrap64 (x8 + 1)) x398000 x398001 x398002 x398003) else (some false))) else (none)) else (none)) else ((sequiturlaw14_small.f k x398001).bind fun t398 => (some t398))
def sequiturlaw14_termLettered.f : Nat → Int → ByteArray → Int → List (S53) → Option (Bool)
  | 0, _, _, _, _ => none
  | k + 1, a0_0, a0_1, a0_2, l0_3 => sequiturlaw14_termLettered.l0 k l0_3 (l0_3.length : Int) 0 a0_0 a0_1 a0_2 l0_3
end
set_option maxHeartbeats 8000000 in
set_option maxRecDepth 100000 in
theorem sequiturlaw14_termLettered.calls (k : Nat) : ∀ (a0_0 : Int) (a0_1 : ByteArray) (a0_2 : Int) (A0_3 : Option Addr) (c0_3 : Nat) (l0_3 : List (S53)) (r : Bool) (w : World) (hr0_3 : Kd.C k53 w A0_3 l0_3.length l0_3) (hc0_3 : l0_3.length ≤ c0_3) (h : sequiturlaw14_termLettered.f k a0_0 a0_1 a0_2 l0_3 = some r),
    Calls Tryd.prog 28 #[.agg #[.int .i64 a0_0, .string a0_1, .int .i64 a0_2, .slice A0_3 l0_3.length c0_3]] w fun e w' => e = .returned (.bool r) ∧ Below w.heap.size w w' := by
  induction k using Nat.strongRecOn with
  | _ k ih =>
  intro a0_0 a0_1 a0_2 A0_3 c0_3 l0_3 r w hr0_3 hc0_3 h
  cases k with
  | zero => exact absurd h (by simp [sequiturlaw14_termLettered.f])
  | succ k =>
  simp only [sequiturlaw14_termLettered.f] at h; have hu53 := Tryd.underlying53; have HR0_3 := am hr0_3; have HC0_3 := am hc0_3; clear hr0_3 hc0_3; have HB := am (Below.refl w.heap.size w); have H := h; clear h; have H' := am H; clear H
  go_enter Tryd.func28, Tryd.ntmps28
  go_wp2_with (first | ((with_reducible refine gate_dst (N := 1) rfl ?_); refine bE 1 #[.int .i64 a0_0, .string a0_1, .int .i64 a0_2, .slice A0_3 l0_3.length c0_3] 53 ?_; intro gb397 w2 BK397 hg hb; have GW397 := bZ hg; have GE397 := bZ hg; replace HB := bH hb; clear hb hg; obtain ⟨z3_0, z3_1, z3_2, z3_3, y3_0, y3_1, y3_2, y3_3⟩ := y4 BK397))
  go_loopg [8] k (fun kq v8 w' => ∃ (x8_1 : Int), v8 = .int .i64 x8_1 ∧ Aside0 (sequiturlaw14_termLettered.l0 kq l0_3 (l0_3.length : Int) x8_1 a0_0 a0_1 a0_2 l0_3 = some r) ∧ Aside0 (kq ≤ k) ∧ Aside0 (w'.heap[gb397]? = some (.cells #[.int .i64 a0_0, .string a0_1, .int .i64 a0_2, (.slice A0_3 l0_3.length c0_3)] 53 (0, 0))) ∧ Aside0 (Below w.heap.size w w'))
  case atStart => exact ⟨(0), eS, H', ⟨Nat.le_refl _⟩, ⟨bD BK397⟩, ⟨bB⟩⟩
  case round =>
   clear H'; (try clear c2); (try clear p2); (try clear z3_0 z3_1 z3_2 z3_3 y3_0 y3_1 y3_2 y3_3); obtain ⟨x8_1, rfl, HA, HK1, BK397, HB⟩ := hrel
   cases gk with
   | zero => exact absurd HA.out (by simp [sequiturlaw14_termLettered.l0])
   | succ k1 =>
    have H := HA.out; clear HA; simp only [sequiturlaw14_termLettered.l0] at H
    by_cases c4 : x8_1 < (l0_3.length : Int)
    ·rw [if_pos c4] at H
     have c4b0 : decide (x8_1 < (l0_3.length : Int)) = true := decide_eq_true c4; clear c4
     by_cases c5 : 0 ≤ x8_1
     ·rw [if_pos c5] at H
      have c5b0 : decide (0 ≤ x8_1) = true := decide_eq_true c5; clear c5
      by_cases c6 : x8_1 < (l0_3.length : Int)
      ·rw [if_pos c6] at H
       have c6b0 : decide (x8_1 < (l0_3.length : Int)) = true := decide_eq_true c6; clear c6; obtain ⟨t401, A7, H⟩ := bO H
       by_cases c8 : t401 = true
       ·subst c8
        rw [if_pos rfl] at H; have H' := am H; clear H; have p399 : 0 ≤ (x8_1 : Int) := of_decide_eq_true eA; have q399 : x8_1 < (l0_3.length : Int) := of_decide_eq_true eA; obtain ⟨ad399, A399_3, c399_3, e399, hx399_0, hx399_1, hx399_2, hx399_3, hl399_3, hi399_3⟩ := at_T53 HR0_3.out x8_1 p399 q399
        cases e399
        replace hx399_0 := cX HB hx399_0; replace hx399_1 := cX HB hx399_1; replace hx399_2 := cX HB hx399_2; replace hx399_3 := cX HB hx399_3; have HR399_3 := am hi399_3; have HC399_3 := am hl399_3; clear hi399_3 hl399_3; replace p399 := eq_true p399; replace q399 := eq_true q399
        go_wp2_with (first | ((with_reducible refine gate_dst (N := 4) rfl ?_); refine bE 4 #[.int .i64 0, .string (⟨#[]⟩ : ByteArray), .int .i64 0, .slice none 0 0] 53 ?_; intro gb400 w9 BK400 hg hb; have GW400 := bZ hg; have GE400 := bZ hg; replace HB := bH hb; have NB397_400 := bN BK397 hg; have NB400_397 := bM BK397 hg; replace BK397 := bK BK397 hb; clear hb hg; have hnb10 := NB400_397.out; have hnc10 := NB397_400.out; obtain ⟨z11_0, z11_1, z11_2, z11_3, y11_0, y11_1, y11_2, y11_3⟩ := y4 BK400) | ((with_reducible refine gate_callee (f := 28) rfl ?_); refine gL 13 Tryd.func28 #[.agg #[.int .i64 ((rd_T53 l0_3 x8_1).f0), .string ((rd_T53 l0_3 x8_1).f1), .int .i64 ((rd_T53 l0_3 x8_1).f2), .slice A399_3 ((rd_T53 l0_3 x8_1).f3).length c399_3]] ?_; (with_reducible refine (ih k1 (by have := HK1.out; omega) ((rd_T53 l0_3 x8_1).f0) ((rd_T53 l0_3 x8_1).f1) ((rd_T53 l0_3 x8_1).f2) _ _ ((rd_T53 l0_3 x8_1).f3) true _ ?side1 HC399_3.out A7.out).mono ?_); (case side1 => exact Kd.C_below HR399_3.out bB); rintro e w12 ⟨rfl, hb⟩; refine ⟨_, rfl, ?_⟩; replace BK397 := bK (bX4 _ _ _ _ BK397 NB397_400.out) hb; replace BK400 := bK (bP4 (.int .i64 ((rd_T53 l0_3 x8_1).f0)) (.string ((rd_T53 l0_3 x8_1).f1)) (.int .i64 ((rd_T53 l0_3 x8_1).f2)) (.slice A399_3 ((rd_T53 l0_3 x8_1).f3).length c399_3) BK400) hb; replace HB := bH hb; clear hb))
        go_roundg k1
        case measure => have := HK1.out; omega
        case rel => exact ⟨(wrap64 (x8_1 + 1)), eS, H', ⟨by have := HK1.out; omega⟩, ⟨bD BK397⟩, ⟨bB⟩⟩
       ·replace c8 := Bool.eq_false_iff.mpr c8
        subst c8; rw [if_neg (show ¬ (false = true) by decide)] at H; obtain rfl := Option.some.inj H; have p399 : 0 ≤ (x8_1 : Int) := of_decide_eq_true eA; have q399 : x8_1 < (l0_3.length : Int) := of_decide_eq_true eA; obtain ⟨ad399, A399_3, c399_3, e399, hx399_0, hx399_1, hx399_2, hx399_3, hl399_3, hi399_3⟩ := at_T53 HR0_3.out x8_1 p399 q399
        cases e399
        replace hx399_0 := cX HB hx399_0; replace hx399_1 := cX HB hx399_1; replace hx399_2 := cX HB hx399_2; replace hx399_3 := cX HB hx399_3; have HR399_3 := am hi399_3; have HC399_3 := am hl399_3; clear hi399_3 hl399_3; replace p399 := eq_true p399; replace q399 := eq_true q399
        go_wp2_with (first | ((with_reducible refine gate_dst (N := 4) rfl ?_); refine bE 4 #[.int .i64 0, .string (⟨#[]⟩ : ByteArray), .int .i64 0, .slice none 0 0] 53 ?_; intro gb400 w13 BK400 hg hb; have GW400 := bZ hg; have GE400 := bZ hg; replace HB := bH hb; have NB397_400 := bN BK397 hg; have NB400_397 := bM BK397 hg; replace BK397 := bK BK397 hb; clear hb hg; have hnb14 := NB400_397.out; have hnc14 := NB397_400.out; obtain ⟨z15_0, z15_1, z15_2, z15_3, y15_0, y15_1, y15_2, y15_3⟩ := y4 BK400) | ((with_reducible refine gate_callee (f := 28) rfl ?_); refine gL 13 Tryd.func28 #[.agg #[.int .i64 ((rd_T53 l0_3 x8_1).f0), .string ((rd_T53 l0_3 x8_1).f1), .int .i64 ((rd_T53 l0_3 x8_1).f2), .slice A399_3 ((rd_T53 l0_3 x8_1).f3).length c399_3]] ?_; (with_reducible refine (ih k1 (by have := HK1.out; omega) ((rd_T53 l0_3 x8_1).f0) ((rd_T53 l0_3 x8_1).f1) ((rd_T53 l0_3 x8_1).f2) _ _ ((rd_T53 l0_3 x8_1).f3) false _ ?side1 HC399_3.out A7.out).mono ?_); (case side1 => exact Kd.C_below HR399_3.out bB); rintro e w16 ⟨rfl, hb⟩; refine ⟨_, rfl, ?_⟩; replace BK397 := bK (bX4 _ _ _ _ BK397 NB397_400.out) hb; replace BK400 := bK (bP4 (.int .i64 ((rd_T53 l0_3 x8_1).f0)) (.string ((rd_T53 l0_3 x8_1).f1)) (.int .i64 ((rd_T53 l0_3 x8_1).f2)) (.slice A399_3 ((rd_T53 l0_3 x8_1).f3).length c399_3) BK400) hb; replace HB := bH hb; clear hb))
        go_ret; exact ⟨eW, bB⟩
      ·rw [if_neg c6] at H
       exact absurd H (by simp)
     ·rw [if_neg c5] at H
      exact absurd H (by simp)
    ·rw [if_neg c4] at H
     have c4b0 : decide (x8_1 < (l0_3.length : Int)) = false := decide_eq_false c4; clear c4; obtain ⟨t398, A17, H⟩ := bO H; obtain rfl := Option.some.inj H; obtain ⟨z18_0, z18_1, z18_2, z18_3, y18_0, y18_1, y18_2, y18_3⟩ := y4 BK397
     go_wp2_with (first | ((with_reducible refine gate_callee (f := 27) rfl ?_); refine gL 18 Tryd.func27 #[.string a0_1] ?_; (with_reducible refine (sequiturlaw14_small.calls k1 a0_1 t398 _ A17.out).mono ?_); rintro e w' ⟨rfl, ⟨nd, rfl⟩⟩; refine ⟨_, rfl, ?_⟩))
     go_ret; exact ⟨eW, bB⟩
end Go.Proofs.YtmlkllbaehegjaaDoor.PAll
end
section
namespace Go.Proofs.YtmlkllbaehegjaaDoor.PAll
open Go.RowKit Go.Proofs.YtmlkllbaehegjaaDoorW.PrintWords Go.Proofs.YtmlkllbaehegjaaDoorW.PrintLast Go.Proofs.YtmlkllbaehegjaaDoorW.PrintMore
attribute [local go_sem] max2_int min2_int max_two min_two max_three min_three max_four min_four   -- for this text's walks alone
set_option linter.unusedVariables false
set_option linter.unusedSimpArgs false
/-! ### sequiturlaw14_lettered: function 12 -/
mutual
def sequiturlaw14_lettered.j0 : Nat → Bool → Int → ByteArray → ByteArray → List (S53) → List (S30) → Option (Bool)
  | 0, _, _, _, _, _, _ => none
  | k + 1, x20, x403000, x403001, x403002, x403003, x403004 => if x20 = true then (some false) else (sequiturlaw14_lettered.l0 k x403003 (x403003.length : Int) 0 x403000 x403001 x403002 x403003 x403004)
def sequiturlaw14_lettered.l0 : Nat → List (S53) → Int → Int → Int → ByteArray → ByteArray → List (S53) → List (S30) → Option (Bool)
  | 0, _, _, _, _, _, _, _, _ => none
  | k + 1, x22, x23, x24, x403000, x403001, x403002, x403003, x403004 => if x24 < x23 then (if 0 ≤ x24 then (if x24 < (x22.length : Int) then ((sequiturlaw14_termLettered.f k ((rd_T53 x22 x24).f0) ((rd_T53 x22 x24).f1) ((rd_T53 x22 x24).f2) ((rd_T53 x22 x24).f3)).bind fun t406 => (if t406 = true then (sequiturlaw14_lettered.l0 k x22 x23 (wrap64 (x24 + 1)) x403000 x403001 x403002 x403003 x403004) else (some false))) else (none)) else (none)) else (sequiturlaw14_lettered.l1 k x403004 (x403004.length : Int) 0)
def sequiturlaw14_lettered.l1 : Nat → List (S30) → Int → Int → Option (Bool)
  | 0, _, _, _ => none
  | k + 1, x33, x34, x35 => if x35 < x34 then (if 0 ≤ x35 then (if x35 < (x33.length : Int) then ((sequiturlaw14_lettered.f k ((rd_T30 x33 x35).f0) ((rd_T30 x33 x35).f1) ((rd_T30 x33 x35).f2) ((rd_T30 x33 x35).f3) ((rd_T30 x33 x35).f4)).bind fun t409 => (if t409 = true then (sequiturlaw14_lettered.l1 k x33 x34 (wrap64 (x35 + 1))) else (some false))) else (none)) else (none)) else (some true)
def sequiturlaw14_lettered.f : Nat → Int → ByteArray → ByteArray → List (S53) → List (S30) → Option (Bool)
  | 0, _, _, _, _, _ => none
  | k + 1, a0_0, a0_1, a0_2, l0_3, l0_4 => if a0_0 = 11 then (sequiturlaw14_lettered.j0 k true a0_0 a0_1 a0_2 l0_3 l0_4) else (if a0_0 = 12 then (sequiturlaw14_lettered.j0 k true a0_0 a0_1 a0_2 l0_3 l0_4) else ((sequiturlaw14_small.f k a0_1).bind fun t403 => (sequiturlaw14_lettered.j0 k (!t403) a0_0 a0_1 a0_2 l0_3 l0_4)))
end
set_option maxHeartbeats 8000000 in
set_option maxRecDepth 100000 in
theorem sequiturlaw14_lettered.calls (k : Nat) : ∀ (a0_0 : Int) (a0_1 : ByteArray) (a0_2 : ByteArray) (A0_3 : Option Addr) (c0_3 : Nat) (l0_3 : List (S53)) (A0_4 : Option Addr) (c0_4 : Nat) (l0_4 : List (S30)) (r : Bool) (w : World) (hr0_3 : Kd.C k53 w A0_3 l0_3.length l0_3) (hc0_3 : l0_3.length ≤ c0_3) (hr0_4 : Kd.C k30 w A0_4 l0_4.length l0_4) (hc0_4 : l0_4.length ≤ c0_4) (h : sequiturlaw14_lettered.f k a0_0 a0_1 a0_2 l0_3 l0_4 = some r),
    Calls Tryd.prog 12 #[.agg #[.int .i64 a0_0, .string a0_1, .string a0_2, .slice A0_3 l0_3.length c0_3, .slice A0_4 l0_4.length c0_4]] w fun e w' => e = .returned (.bool r) ∧ Below w.heap.size w w' := by
  induction k using Nat.strongRecOn with
  | _ k ih =>
  intro a0_0 a0_1 a0_2 A0_3 c0_3 l0_3 A0_4 c0_4 l0_4 r w hr0_3 hc0_3 hr0_4 hc0_4 h
  cases k with
  | zero => exact absurd h (by simp [sequiturlaw14_lettered.f])
  | succ k =>
  simp only [sequiturlaw14_lettered.f] at h; have hu30 := Tryd.underlying30; have hu53 := Tryd.underlying53; have HR0_3 := am hr0_3; have HC0_3 := am hc0_3; clear hr0_3 hc0_3; have HR0_4 := am hr0_4; have HC0_4 := am hc0_4; clear hr0_4 hc0_4; have HB := am (Below.refl w.heap.size w); have H := h; clear h; have HC2 := am H; clear H
  go_enter Tryd.func12, Tryd.ntmps12
  go_upto_region 1 with (first | ((with_reducible refine gate_dst (N := 1) rfl ?_); refine bE 1 #[.int .i64 a0_0, .string a0_1, .string a0_2, .slice A0_3 l0_3.length c0_3, .slice A0_4 l0_4.length c0_4] 30 ?_; intro gb402 w3 BK402 hg hb; have GW402 := bZ hg; have GE402 := bZ hg; replace HB := bH hb; clear hb hg))
  (try simp only [Act.put, List.setIfInBounds_toArray, List.set_cons_zero, List.set_cons_succ])
  go_cut [20] (fun v20 wc => ∃ (kq : Nat) (x20_1 : Bool), v20 = .bool x20_1 ∧ Aside0 (sequiturlaw14_lettered.j0 kq x20_1 a0_0 a0_1 a0_2 l0_3 l0_4 = some r) ∧ Aside0 (kq ≤ k) ∧ Aside0 (wc.heap[gb402]? = some (.cells #[.int .i64 a0_0, .string a0_1, .string a0_2, (.slice A0_3 l0_3.length c0_3), (.slice A0_4 l0_4.length c0_4)] 30 (0, 0))) ∧ Aside0 (Below w.heap.size w wc))
  case first =>
   have H := HC2.out; clear HC2
   by_cases c4 : a0_0 = 11
   ·rw [if_pos c4] at H
    have c4b0 := beq_iff_eq.mpr c4; have c4b1 := bne_eq_false_iff_eq.mpr c4; clear c4; (first | rw [c4b0] | (simp only [i64_w, i32_w]; rw [c4b0]) | skip); have H' := am H; clear H; obtain ⟨z5_0, z5_1, z5_2, z5_3, z5_4, y5_0, y5_1, y5_2, y5_3, y5_4⟩ := y5 BK402; go_wp2; go_meet
    case rel => exact ⟨_, (true), eS, H', ⟨eO⟩, ⟨bD BK402⟩, ⟨bB⟩⟩
   ·rw [if_neg c4] at H
    have c4b0 := beq_eq_false_iff_ne.mpr c4; have c4b1 := bne_iff_ne.mpr c4; (first | rw [c4b0] | (simp only [i64_w, i32_w]; rw [c4b0]) | skip)
    by_cases c6 : a0_0 = 12
    ·rw [if_pos c6] at H
     have c6b0 := beq_iff_eq.mpr c6; have c6b1 := bne_eq_false_iff_eq.mpr c6; clear c6; have H' := am H; clear H; obtain ⟨z7_0, z7_1, z7_2, z7_3, z7_4, y7_0, y7_1, y7_2, y7_3, y7_4⟩ := y5 BK402; go_wp2; go_meet
     case rel => exact ⟨_, (true), eS, H', ⟨eO⟩, ⟨bD BK402⟩, ⟨bB⟩⟩
    ·rw [if_neg c6] at H
     have c6b0 := beq_eq_false_iff_ne.mpr c6; have c6b1 := bne_iff_ne.mpr c6; obtain ⟨t403, A8, H⟩ := bO H; have H' := am H; clear H; obtain ⟨z9_0, z9_1, z9_2, z9_3, z9_4, y9_0, y9_1, y9_2, y9_3, y9_4⟩ := y5 BK402
     go_wp2_with (first | (go_at_call 27; (with_reducible refine (sequiturlaw14_small.calls k a0_1 t403 _ A8.out).mono ?_); rintro e w' ⟨rfl, ⟨nd, rfl⟩⟩))
     go_meet
     case rel => exact ⟨_, (!t403), eS, H', ⟨eO⟩, ⟨bD BK402⟩, ⟨bB⟩⟩
  case rest =>
   clear HC2; (try clear c1); (try clear p2); (try clear c4); (try clear c4b0); (try clear c4b1); (try clear c6); (try clear c6b0); (try clear c6b1); (try clear z5_0 z5_1 z5_2 z5_3 z5_4); (try clear z7_0 z7_1 z7_2 z7_3 z7_4); (try clear z9_0 z9_1 z9_2 z9_3 z9_4); (try clear y5_0 y5_1 y5_2 y5_3 y5_4); (try clear y7_0 y7_1 y7_2 y7_3 y7_4); (try clear y9_0 y9_1 y9_2 y9_3 y9_4); obtain ⟨kq, x20_1, rfl, HA, HJ1, BK402, HB⟩ := hcut
   cases kq with
   | zero => exact absurd HA.out (by simp [sequiturlaw14_lettered.j0])
   | succ kj1 =>
    have H := HA.out; clear HA; simp only [sequiturlaw14_lettered.j0] at H
    by_cases c10 : x20_1 = true
    ·subst c10
     rw [if_pos rfl] at H; obtain rfl := Option.some.inj H; go_wp2; go_ret; exact ⟨eW, bB⟩
    ·replace c10 := Bool.eq_false_iff.mpr c10
     subst c10; rw [if_neg (show ¬ (false = true) by decide)] at H; have H' := am H; clear H; obtain ⟨z11_0, z11_1, z11_2, z11_3, z11_4, y11_0, y11_1, y11_2, y11_3, y11_4⟩ := y5 BK402; go_wp2
     go_loopg [24] kj1 (fun kq v24 w' => ∃ (x24_2 : Int), v24 = .int .i64 x24_2 ∧ Aside0 (sequiturlaw14_lettered.l0 kq l0_3 (l0_3.length : Int) x24_2 a0_0 a0_1 a0_2 l0_3 l0_4 = some r) ∧ Aside0 (kq ≤ kj1) ∧ Aside0 (w'.heap[gb402]? = some (.cells #[.int .i64 a0_0, .string a0_1, .string a0_2, (.slice A0_3 l0_3.length c0_3), (.slice A0_4 l0_4.length c0_4)] 30 (0, 0))) ∧ Aside0 (Below w.heap.size w w'))
     case atStart => exact ⟨(0), eS, H', ⟨Nat.le_refl _⟩, ⟨bD BK402⟩, ⟨bB⟩⟩
     case round =>
      clear H'; (try clear c1); (try clear p2); (try clear c4); (try clear c4b0); (try clear c4b1); (try clear c6); (try clear c6b0); (try clear c6b1); (try clear c10); (try clear z11_0 z11_1 z11_2 z11_3 z11_4); (try clear z5_0 z5_1 z5_2 z5_3 z5_4); (try clear z7_0 z7_1 z7_2 z7_3 z7_4); (try clear z9_0 z9_1 z9_2 z9_3 z9_4); (try clear y11_0 y11_1 y11_2 y11_3 y11_4); (try clear y5_0 y5_1 y5_2 y5_3 y5_4); (try clear y7_0 y7_1 y7_2 y7_3 y7_4); (try clear y9_0 y9_1 y9_2 y9_3 y9_4); (try clear p2); obtain ⟨x24_2, rfl, HA, HK2, BK402, HB⟩ := hrel
      cases gk with
      | zero => exact absurd HA.out (by simp [sequiturlaw14_lettered.l0])
      | succ k2 =>
       have H := HA.out; clear HA; simp only [sequiturlaw14_lettered.l0] at H
       by_cases c12 : x24_2 < (l0_3.length : Int)
       ·rw [if_pos c12] at H
        have c12b0 : decide (x24_2 < (l0_3.length : Int)) = true := decide_eq_true c12; clear c12
        by_cases c13 : 0 ≤ x24_2
        ·rw [if_pos c13] at H
         have c13b0 : decide (0 ≤ x24_2) = true := decide_eq_true c13; clear c13
         by_cases c14 : x24_2 < (l0_3.length : Int)
         ·rw [if_pos c14] at H
          have c14b0 : decide (x24_2 < (l0_3.length : Int)) = true := decide_eq_true c14; clear c14; obtain ⟨t406, A15, H⟩ := bO H
          by_cases c16 : t406 = true
          ·subst c16
           rw [if_pos rfl] at H; have H' := am H; clear H; have p404 : 0 ≤ (x24_2 : Int) := of_decide_eq_true eA; have q404 : x24_2 < (l0_3.length : Int) := of_decide_eq_true eA; obtain ⟨ad404, A404_3, c404_3, e404, hx404_0, hx404_1, hx404_2, hx404_3, hl404_3, hi404_3⟩ := at_T53 HR0_3.out x24_2 p404 q404
           cases e404
           replace hx404_0 := cX HB hx404_0; replace hx404_1 := cX HB hx404_1; replace hx404_2 := cX HB hx404_2; replace hx404_3 := cX HB hx404_3; have HR404_3 := am hi404_3; have HC404_3 := am hl404_3; clear hi404_3 hl404_3; replace p404 := eq_true p404; replace q404 := eq_true q404
           go_wp2_with (first | ((with_reducible refine gate_dst (N := 4) rfl ?_); refine bE 4 #[.int .i64 0, .string (⟨#[]⟩ : ByteArray), .int .i64 0, .slice none 0 0] 53 ?_; intro gb405 w17 BK405 hg hb; have GW405 := bZ hg; have GE405 := bZ hg; replace HB := bH hb; have NB402_405 := bN BK402 hg; have NB405_402 := bM BK402 hg; replace BK402 := bK BK402 hb; clear hb hg; have hnb18 := NB405_402.out; have hnc18 := NB402_405.out; obtain ⟨z19_0, z19_1, z19_2, z19_3, y19_0, y19_1, y19_2, y19_3⟩ := y4 BK405) | ((with_reducible refine gate_callee (f := 28) rfl ?_); refine gL 29 Tryd.func28 #[.agg #[.int .i64 ((rd_T53 l0_3 x24_2).f0), .string ((rd_T53 l0_3 x24_2).f1), .int .i64 ((rd_T53 l0_3 x24_2).f2), .slice A404_3 ((rd_T53 l0_3 x24_2).f3).length c404_3]] ?_; (with_reducible refine (sequiturlaw14_termLettered.calls k2 ((rd_T53 l0_3 x24_2).f0) ((rd_T53 l0_3 x24_2).f1) ((rd_T53 l0_3 x24_2).f2) _ _ ((rd_T53 l0_3 x24_2).f3) true _ ?side1 HC404_3.out A15.out).mono ?_); (case side1 => exact Kd.C_below HR404_3.out bB); rintro e w20 ⟨rfl, hb⟩; refine ⟨_, rfl, ?_⟩; replace BK402 := bK (bX4 _ _ _ _ BK402 NB402_405.out) hb; replace BK405 := bK (bP4 (.int .i64 ((rd_T53 l0_3 x24_2).f0)) (.string ((rd_T53 l0_3 x24_2).f1)) (.int .i64 ((rd_T53 l0_3 x24_2).f2)) (.slice A404_3 ((rd_T53 l0_3 x24_2).f3).length c404_3) BK405) hb; replace HB := bH hb; clear hb))
           go_roundg k2
           case measure => have := HJ1.out; have := HK2.out; omega
           case rel => exact ⟨(wrap64 (x24_2 + 1)), eS, H', ⟨by have := HJ1.out; have := HK2.out; omega⟩, ⟨bD BK402⟩, ⟨bB⟩⟩
          ·replace c16 := Bool.eq_false_iff.mpr c16
           subst c16; rw [if_neg (show ¬ (false = true) by decide)] at H; obtain rfl := Option.some.inj H; have p404 : 0 ≤ (x24_2 : Int) := of_decide_eq_true eA; have q404 : x24_2 < (l0_3.length : Int) := of_decide_eq_true eA; obtain ⟨ad404, A404_3, c404_3, e404, hx404_0, hx404_1, hx404_2, hx404_3, hl404_3, hi404_3⟩ := at_T53 HR0_3.out x24_2 p404 q404
           cases e404
           replace hx404_0 := cX HB hx404_0; replace hx404_1 := cX HB hx404_1; replace hx404_2 := cX HB hx404_2; replace hx404_3 := cX HB hx404_3; have HR404_3 := am hi404_3; have HC404_3 := am hl404_3; clear hi404_3 hl404_3; replace p404 := eq_true p404; replace q404 := eq_true q404
           go_wp2_with (first | ((with_reducible refine gate_dst (N := 4) rfl ?_); refine bE 4 #[.int .i64 0, .string (⟨#[]⟩ : ByteArray), .int .i64 0, .slice none 0 0] 53 ?_; intro gb405 w21 BK405 hg hb; have GW405 := bZ hg; have GE405 := bZ hg; replace HB := bH hb; have NB402_405 := bN BK402 hg; have NB405_402 := bM BK402 hg; replace BK402 := bK BK402 hb; clear hb hg; have hnb22 := NB405_402.out; have hnc22 := NB402_405.out; obtain ⟨z23_0, z23_1, z23_2, z23_3, y23_0, y23_1, y23_2, y23_3⟩ := y4 BK405) | ((with_reducible refine gate_callee (f := 28) rfl ?_); refine gL 29 Tryd.func28 #[.agg #[.int .i64 ((rd_T53 l0_3 x24_2).f0), .string ((rd_T53 l0_3 x24_2).f1), .int .i64 ((rd_T53 l0_3 x24_2).f2), .slice A404_3 ((rd_T53 l0_3 x24_2).f3).length c404_3]] ?_; (with_reducible refine (sequiturlaw14_termLettered.calls k2 ((rd_T53 l0_3 x24_2).f0) ((rd_T53 l0_3 x24_2).f1) ((rd_T53 l0_3 x24_2).f2) _ _ ((rd_T53 l0_3 x24_2).f3) false _ ?side1 HC404_3.out A15.out).mono ?_); (case side1 => exact Kd.C_below HR404_3.out bB); rintro e w24 ⟨rfl, hb⟩; refine ⟨_, rfl, ?_⟩; replace BK402 := bK (bX4 _ _ _ _ BK402 NB402_405.out) hb; replace BK405 := bK (bP4 (.int .i64 ((rd_T53 l0_3 x24_2).f0)) (.string ((rd_T53 l0_3 x24_2).f1)) (.int .i64 ((rd_T53 l0_3 x24_2).f2)) (.slice A404_3 ((rd_T53 l0_3 x24_2).f3).length c404_3) BK405) hb; replace HB := bH hb; clear hb))
           go_ret; exact ⟨eW, bB⟩
         ·rw [if_neg c14] at H
          exact absurd H (by simp)
        ·rw [if_neg c13] at H
         exact absurd H (by simp)
       ·rw [if_neg c12] at H
        have c12b0 : decide (x24_2 < (l0_3.length : Int)) = false := decide_eq_false c12; clear c12; have H' := am H; clear H; obtain ⟨z25_0, z25_1, z25_2, z25_3, z25_4, y25_0, y25_1, y25_2, y25_3, y25_4⟩ := y5 BK402; go_wp2
        go_loopg [35] k2 (fun kq v35 w' => ∃ (x35_3 : Int), v35 = .int .i64 x35_3 ∧ Aside0 (sequiturlaw14_lettered.l1 kq l0_4 (l0_4.length : Int) x35_3 = some r) ∧ Aside0 (kq ≤ k2) ∧ Aside0 (w'.heap[gb402]? = some (.cells #[.int .i64 a0_0, .string a0_1, .string a0_2, (.slice A0_3 l0_3.length c0_3), (.slice A0_4 l0_4.length c0_4)] 30 (0, 0))) ∧ Aside0 (Below w.heap.size w w'))
        case atStart => exact ⟨(0), eS, H', ⟨Nat.le_refl _⟩, ⟨bD BK402⟩, ⟨bB⟩⟩
        case round =>
         clear H'; (try clear c1); (try clear c2); (try clear p2); (try clear c4); (try clear c4b0); (try clear c4b1); (try clear p4); (try clear q4); (try clear hx4); (try clear c6); (try clear c6b0); (try clear c6b1); (try clear p6); (try clear c10); (try clear c12); (try clear c12b0); (try clear c13); (try clear c13b0); (try clear c14); (try clear c14b0); (try clear c16); (try clear c18); (try clear c22); (try clear z11_0 z11_1 z11_2 z11_3 z11_4); (try clear z19_0 z19_1 z19_2 z19_3); (try clear z23_0 z23_1 z23_2 z23_3); (try clear z25_0 z25_1 z25_2 z25_3 z25_4); (try clear z5_0 z5_1 z5_2 z5_3 z5_4); (try clear z7_0 z7_1 z7_2 z7_3 z7_4); (try clear z9_0 z9_1 z9_2 z9_3 z9_4); (try clear y11_0 y11_1 y11_2 y11_3 y11_4); (try clear y19_0 y19_1 y19_2 y19_3); (try clear y23_0 y23_1 y23_2 y23_3); (try clear y25_0 y25_1 y25_2 y25_3 y25_4); (try clear y5_0 y5_1 y5_2 y5_3 y5_4); (try clear y7_0 y7_1 y7_2 y7_3 y7_4); try clear y9_0 y9_1 y9_2 y9_3 y9_4
         (try clear hx404_0); (try clear hx404_1); (try clear hx404_2); (try clear hx404_3); (try clear p2); (try clear p404); (try clear q404); obtain ⟨x35_3, rfl, HA, HK3, BK402, HB⟩ := hrel
         cases gk with
         | zero => exact absurd HA.out (by simp [sequiturlaw14_lettered.l1])
         | succ k3 =>
          have H := HA.out; clear HA; simp only [sequiturlaw14_lettered.l1] at H
          by_cases c26 : x35_3 < (l0_4.length : Int)
          ·rw [if_pos c26] at H
           have c26b0 : decide (x35_3 < (l0_4.length : Int)) = true := decide_eq_true c26; clear c26
           by_cases c27 : 0 ≤ x35_3
           ·rw [if_pos c27] at H
            have c27b0 : decide (0 ≤ x35_3) = true := decide_eq_true c27; clear c27
            by_cases c28 : x35_3 < (l0_4.length : Int)
            ·rw [if_pos c28] at H
             have c28b0 : decide (x35_3 < (l0_4.length : Int)) = true := decide_eq_true c28; clear c28; obtain ⟨t409, A29, H⟩ := bO H
             by_cases c30 : t409 = true
             ·subst c30
              rw [if_pos rfl] at H; have H' := am H; clear H; have p407 : 0 ≤ (x35_3 : Int) := of_decide_eq_true eA; have q407 : x35_3 < (l0_4.length : Int) := of_decide_eq_true eA; obtain ⟨ad407, A407_3, c407_3, A407_4, c407_4, e407, hx407_0, hx407_1, hx407_2, hx407_3, hx407_4, hl407_3, hi407_3, hl407_4, hi407_4⟩ := at_T30 HR0_4.out x35_3 p407 q407
              cases e407
              replace hx407_0 := cX HB hx407_0; replace hx407_1 := cX HB hx407_1; replace hx407_2 := cX HB hx407_2; replace hx407_3 := cX HB hx407_3; replace hx407_4 := cX HB hx407_4; have HR407_3 := am hi407_3; have HC407_3 := am hl407_3; clear hi407_3 hl407_3; have HR407_4 := am hi407_4; have HC407_4 := am hl407_4; clear hi407_4 hl407_4; replace p407 := eq_true p407; replace q407 := eq_true q407
              go_wp2_with (first | ((with_reducible refine gate_dst (N := 6) rfl ?_); refine bE 6 #[.int .i64 0, .string (⟨#[]⟩ : ByteArray), .string (⟨#[]⟩ : ByteArray), .slice none 0 0, .slice none 0 0] 30 ?_; intro gb408 w31 BK408 hg hb; have GW408 := bZ hg; have GE408 := bZ hg; replace HB := bH hb; have NB402_408 := bN BK402 hg; have NB408_402 := bM BK402 hg; replace BK402 := bK BK402 hb; clear hb hg; have hnb32 := NB408_402.out; have hnc32 := NB402_408.out; obtain ⟨z33_0, z33_1, z33_2, z33_3, z33_4, y33_0, y33_1, y33_2, y33_3, y33_4⟩ := y5 BK408) | ((with_reducible refine gate_callee (f := 12) rfl ?_); refine gL 40 Tryd.func12 #[.agg #[.int .i64 ((rd_T30 l0_4 x35_3).f0), .string ((rd_T30 l0_4 x35_3).f1), .string ((rd_T30 l0_4 x35_3).f2), .slice A407_3 ((rd_T30 l0_4 x35_3).f3).length c407_3, .slice A407_4 ((rd_T30 l0_4 x35_3).f4).length c407_4]] ?_; (with_reducible refine (ih k3 (by have := HJ1.out; have := HK2.out; have := HK3.out; omega) ((rd_T30 l0_4 x35_3).f0) ((rd_T30 l0_4 x35_3).f1) ((rd_T30 l0_4 x35_3).f2) _ _ ((rd_T30 l0_4 x35_3).f3) _ _ ((rd_T30 l0_4 x35_3).f4) true _ ?side1 HC407_3.out ?side3 HC407_4.out A29.out).mono ?_); (case side1 => exact Kd.C_below HR407_3.out bB); (case side3 => exact Kd.C_below HR407_4.out bB); rintro e w34 ⟨rfl, hb⟩; refine ⟨_, rfl, ?_⟩; replace BK402 := bK (bX5 _ _ _ _ _ BK402 NB402_408.out) hb; replace BK408 := bK (bP5 (.int .i64 ((rd_T30 l0_4 x35_3).f0)) (.string ((rd_T30 l0_4 x35_3).f1)) (.string ((rd_T30 l0_4 x35_3).f2)) (.slice A407_3 ((rd_T30 l0_4 x35_3).f3).length c407_3) (.slice A407_4 ((rd_T30 l0_4 x35_3).f4).length c407_4) BK408) hb; replace HB := bH hb; clear hb))
              go_roundg k3
              case measure => have := HJ1.out; have := HK2.out; have := HK3.out; omega
              case rel => exact ⟨(wrap64 (x35_3 + 1)), eS, H', ⟨by have := HJ1.out; have := HK2.out; have := HK3.out; omega⟩, ⟨bD BK402⟩, ⟨bB⟩⟩
             ·replace c30 := Bool.eq_false_iff.mpr c30
              subst c30; rw [if_neg (show ¬ (false = true) by decide)] at H; obtain rfl := Option.some.inj H; have p407 : 0 ≤ (x35_3 : Int) := of_decide_eq_true eA; have q407 : x35_3 < (l0_4.length : Int) := of_decide_eq_true eA; obtain ⟨ad407, A407_3, c407_3, A407_4, c407_4, e407, hx407_0, hx407_1, hx407_2, hx407_3, hx407_4, hl407_3, hi407_3, hl407_4, hi407_4⟩ := at_T30 HR0_4.out x35_3 p407 q407
              cases e407
              replace hx407_0 := cX HB hx407_0; replace hx407_1 := cX HB hx407_1; replace hx407_2 := cX HB hx407_2; replace hx407_3 := cX HB hx407_3; replace hx407_4 := cX HB hx407_4; have HR407_3 := am hi407_3; have HC407_3 := am hl407_3; clear hi407_3 hl407_3; have HR407_4 := am hi407_4; have HC407_4 := am hl407_4; clear hi407_4 hl407_4; replace p407 := eq_true p407; replace q407 := eq_true q407
              go_wp2_with (first | ((with_reducible refine gate_dst (N := 6) rfl ?_); refine bE 6 #[.int .i64 0, .string (⟨#[]⟩ : ByteArray), .string (⟨#[]⟩ : ByteArray), .slice none 0 0, .slice none 0 0] 30 ?_; intro gb408 w35 BK408 hg hb; have GW408 := bZ hg; have GE408 := bZ hg; replace HB := bH hb; have NB402_408 := bN BK402 hg; have NB408_402 := bM BK402 hg; replace BK402 := bK BK402 hb; clear hb hg; have hnb36 := NB408_402.out; have hnc36 := NB402_408.out; obtain ⟨z37_0, z37_1, z37_2, z37_3, z37_4, y37_0, y37_1, y37_2, y37_3, y37_4⟩ := y5 BK408) | ((with_reducible refine gate_callee (f := 12) rfl ?_); refine gL 40 Tryd.func12 #[.agg #[.int .i64 ((rd_T30 l0_4 x35_3).f0), .string ((rd_T30 l0_4 x35_3).f1), .string ((rd_T30 l0_4 x35_3).f2), .slice A407_3 ((rd_T30 l0_4 x35_3).f3).length c407_3, .slice A407_4 ((rd_T30 l0_4 x35_3).f4).length c407_4]] ?_; (with_reducible refine (ih k3 (by have := HJ1.out; have := HK2.out; have := HK3.out; omega) ((rd_T30 l0_4 x35_3).f0) ((rd_T30 l0_4 x35_3).f1) ((rd_T30 l0_4 x35_3).f2) _ _ ((rd_T30 l0_4 x35_3).f3) _ _ ((rd_T30 l0_4 x35_3).f4) false _ ?side1 HC407_3.out ?side3 HC407_4.out A29.out).mono ?_); (case side1 => exact Kd.C_below HR407_3.out bB); (case side3 => exact Kd.C_below HR407_4.out bB); rintro e w38 ⟨rfl, hb⟩; refine ⟨_, rfl, ?_⟩; replace BK402 := bK (bX5 _ _ _ _ _ BK402 NB402_408.out) hb; replace BK408 := bK (bP5 (.int .i64 ((rd_T30 l0_4 x35_3).f0)) (.string ((rd_T30 l0_4 x35_3).f1)) (.string ((rd_T30 l0_4 x35_3).f2)) (.slice A407_3 ((rd_T30 l0_4 x35_3).f3).length c407_3) (.slice A407_4 ((rd_T30 l0_4 x35_3).f4).length c407_4) BK408) hb; replace HB := bH hb; clear hb))
              go_ret; exact ⟨eW, bB⟩
            ·rw [if_neg c28] at H
             exact absurd H (by simp)
           ·rw [if_neg c27] at H
            exact absurd H (by simp)
          ·rw [if_neg c26] at H
           have c26b0 : decide (x35_3 < (l0_4.length : Int)) = false := decide_eq_false c26; clear c26; obtain rfl := Option.some.inj H; go_wp2; go_ret; exact ⟨eW, bB⟩
end Go.Proofs.YtmlkllbaehegjaaDoor.PAll
end
