-- Words of the kit's print, walks printed by a program of this session (wip/prt) in shorter words, and texts of this session, merged (pack.py).
import Derived.Deep.RegionLaw
import Derived.Lib.Hide
import Derived.WalkKit
import Derived.Below
import Derived.LoopTactic
import Derived.Outline
import Derived.Deep.LoopGhost
import Derived.Maps.Views
import Derived.Carry
import Derived.Test.YtmlkllbaehegjaaDoorShowBrackets0
import Derived.Test.YtmlkllbaehegjaaDoorShowBrackets3
import Derived.Test.YtmlkllbaehegjaaDoorShowBrackets11
import Derived.Test.YtmlkllbaehegjaaDoorProg
import Derived.Test.YtmlkllbaehegjaaDoorShowBrackets2
section
/- (*shower).term, (*shower).claim: they append to the state's slice. -/
namespace Go.Proofs.YtmlkllbaehegjaaDoor.PAll
open Go.RowKit Go.Proofs.YtmlkllbaehegjaaDoorW.PrintWords Go.Proofs.YtmlkllbaehegjaaDoorW.PrintLast Go.Proofs.YtmlkllbaehegjaaDoorW.PrintMore
open Go.Proofs.YtmlkllbaehegjaaDoor
set_option linter.unusedVariables false
set_option linter.unusedSimpArgs false
/-- The state of type 62 at block g; its slice is its own, made behind w0. -/
def OwnS62 (w0 W : World) (g : Nat) (f0 : List ByteArray) : Prop := ∃ A0 c0, W.heap[g]? = some (.cells #[.slice A0 f0.length c0] 62 (0, 0)) ∧ w0.heap.size ≤ g ∧ Kd.R Kd.string 9 W w0.heap.size (fun k => k ≠ g) (.slice A0 f0.length c0) f0
/-- What is neither a state nor a row of strings is as it was. -/
def KeepT (w W : World) : Prop := ∀ (i : Nat) (cs : Array Value) (t : TypeId), w.heap[i]? = some (.cells cs t (0, 0)) → t ≠ 62 → t ≠ 9 → W.heap[i]? = some (.cells cs t (0, 0))
theorem KeepT.refl (w : World) : KeepT w w := fun _ _ _ h _ _ => h
theorem KeepT.trans {w W W2 : World} (h : KeepT w W) (h2 : KeepT W W2) : KeepT w W2 := fun i cs t hb h62 h9 => h2 i cs t (h i cs t hb h62 h9) h62 h9
theorem KeepT.alloc {w W : World} (h : KeepT w W) (o : Obj) : KeepT w (W.alloc o) := fun i cs t hb h62 h9 => blk_alloc (h i cs t hb h62 h9) o
theorem KeepT.drew {w W : World} (h : KeepT w W) : KeepT w W.drew := h
theorem KeepT.below {w W W2 : World} (h : KeepT w W) (hb : Below W.heap.size W W2) : KeepT w W2 := fun i cs t hi h62 h9 => blk_below (h i cs t hi h62 h9) hb
theorem OwnS62.alloc {w0 W : World} {g : Nat} {f0 : List ByteArray} (h : OwnS62 w0 W g f0) (o : Obj) : OwnS62 w0 (W.alloc o) g f0 := by
  obtain ⟨A0, c0, hb, hg, hr⟩ := h
  exact ⟨A0, c0, blk_alloc hb o, hg, Kd.R_alloc hr o⟩
theorem OwnS62.drew {w0 W : World} {g : Nat} {f0 : List ByteArray} (h : OwnS62 w0 W g f0) : OwnS62 w0 W.drew g f0 := by
  obtain ⟨A0, c0, hb, hg, hr⟩ := h
  exact ⟨A0, c0, hb, hg, Kd.R_drew hr⟩
theorem OwnS62.below {w0 W W2 : World} {g : Nat} {f0 : List ByteArray} (h : OwnS62 w0 W g f0) (hb2 : Below W.heap.size W W2) : OwnS62 w0 W2 g f0 := by
  obtain ⟨A0, c0, hb, hg, hr⟩ := h
  exact ⟨A0, c0, blk_below hb hb2, hg, Kd.R_below hr hb2⟩
/-- A store of the new slice into the state. -/
theorem OwnS62.put {w0 W W1 : World} {g : Nat} {f0 f1 : List ByteArray} {A0 : Option Addr} {c0 : Nat} {v1 : Value} (hb : W.heap[g]? = some (.cells #[.slice A0 f0.length c0] 62 (0, 0))) (hg : w0.heap.size ≤ g)
    (hgr : W.grownBy W1 (.slice A0 f0.length c0 : Value).ownBlock) (hne : some g ≠ (.slice A0 f0.length c0 : Value).ownBlock) (hr : Kd.R Kd.string 9 W1 w0.heap.size (fun k => k ≠ g) v1 f1) : OwnS62 w0 (W1.setCell ⟨g, 0, none⟩ v1) g f1 := by
  obtain ⟨A1, c1, rfl⟩ := Kd.R_slice hr
  have hb1 := blk_grown hb hgr hne
  refine ⟨A1, c1, ?_, hg, Kd.R_far hr (p := ⟨g, 0, none⟩) (fun k hk => hk) _⟩
  exact blk_put hb1 0 _ rfl
theorem KeepT.put {w W W1 : World} {g : Nat} {f0 : List ByteArray} {A0 : Option Addr} {c0 : Nat} {base : Nat} {ok : Nat → Prop} {v1 : Value} (h : KeepT w W) (hb : W.heap[g]? = some (.cells #[.slice A0 f0.length c0] 62 (0, 0)))
    (hr : Kd.R Kd.string 9 W base ok (.slice A0 f0.length c0) f0) (hgr : W.grownBy W1 (.slice A0 f0.length c0 : Value).ownBlock) : KeepT w (W1.setCell ⟨g, 0, none⟩ v1) := by
  intro i cs t hi h62 h9
  have h1 := h i cs t hi h62 h9
  have h2 := blk_grown h1 hgr (Kd.R_ne hr h1 (fun e => h9 e.symm))
  refine blk_far h2 ?_ _
  rintro rfl
  rw [hb] at h1
  injection h1 with h1
  injection h1 with _ ht _
  exact h62 ht.symm
theorem ne_types {w : World} {g1 g2 : Nat} {c1 c2 : Array Value} {t1 t2 : TypeId} (h1 : w.heap[g1]? = some (.cells c1 t1 (0, 0))) (h2 : w.heap[g2]? = some (.cells c2 t2 (0, 0))) (ht : t1 ≠ t2) : g1 ≠ g2 := by
  rintro rfl
  rw [h1] at h2
  injection h2 with h2
  injection h2 with _ h3 _
  exact ht h3
theorem fresh_ne {w : World} {g k : Nat} {o : Obj} (h : w.heap[g]? = some o) (hk : w.heap.size ≤ k) (e : k = g) : False := by
  have := blk_lt h
  omega
theorem lim16 {n : Nat} (h : n < 8796093022208) : (n + 1) * 16 ≤ 140737488355328 := by omega
mutual
def shower_term.l0 : Nat → List ByteArray → List S53 → Int → Option (List ByteArray)
  | 0, _, _, _ => none
  | k + 1, s, l, i => if i < (l.length : Int) then (if 0 ≤ i then ((shower_term.f k s ((rd_T53 l i).f0) ((rd_T53 l i).f1) ((rd_T53 l i).f2) ((rd_T53 l i).f3)).bind fun t => shower_term.l0 k t l (wrap64 (i + 1))) else none) else some s
def shower_term.f : Nat → List ByteArray → Int → ByteArray → Int → List S53 → Option (List ByteArray)
  | 0, _, _, _, _, _ => none
  | k + 1, s, a0, a1, _, l => if a0 = 1 ∨ a0 = 3 then (if s.length < 8796093022208 then shower_term.l0 k (s ++ [a1]) l 0 else none) else shower_term.l0 k s l 0
end
set_option maxHeartbeats 2000000 in
set_option maxRecDepth 100000 in
theorem shower_term.calls (k : Nat) : ∀ (g : Nat) (s : List ByteArray) (a0_0 : Int) (a0_1 : ByteArray) (a0_2 : Int) (A0_3 : Option Addr) (c0_3 : Nat) (l0_3 : List S53) (r : List ByteArray) (w0 w : World) (hI : OwnS62 w0 w g s) (hB : Below w0.heap.size w0 w) (hr0_3 : Kd.C k53 w0 A0_3 l0_3.length l0_3) (hc0_3 : l0_3.length ≤ c0_3) (h : shower_term.f k s a0_0 a0_1 a0_2 l0_3 = some r),
    Calls Tryd.prog 48 #[.pointer (some ⟨g, 0, none⟩), .agg #[.int .i64 a0_0, .string a0_1, .int .i64 a0_2, .slice A0_3 l0_3.length c0_3]] w fun e w' => e = .returned (.tuple #[]) ∧ OwnS62 w0 w' g r ∧ Below w0.heap.size w0 w' ∧ KeepT w w' := by
  induction k using Nat.strongRecOn with
  | _ k ih =>
  intro g s a0_0 a0_1 a0_2 A0_3 c0_3 l0_3 r w0 w hI hB hr0_3 hc0_3 h
  cases k with
  | zero => exact absurd h (by simp [shower_term.f])
  | succ k =>
  simp only [shower_term.f] at h
  have hu53 := Tryd.underlying53
  have HR0_3 := Aside0.mk hr0_3
  have HC0_3 := Aside0.mk hc0_3
  have HB := Aside0.mk hB
  have HI := Aside0.mk hI
  have HK := Aside0.mk (KeepT.refl w)
  have H := Aside0.mk h
  have HS := Aside0.mk hB.size
  clear hr0_3 hc0_3 hB hI h
  go_enter Tryd.func48, Tryd.ntmps48
  go_upto_region 1 with (first | ((with_reducible refine gate_dst (N := 3) rfl ?_); refine box_event ?hg (N := 3) ?hd (cs := #[.int .i64 a0_0, .string a0_1, .int .i64 a0_2, .slice A0_3 l0_3.length c0_3]) (t := 53) ?hr ?_; (case hd => rfl); (case hg => rfl); (case hr => first | (go_simp; done) | (go_simp; rfl)); intro gb hg w3 hbox hb; have n0_ := Aside0.mk (below_then HB.out HS.out hb); have n1_ := Aside0.mk hbox; have n2_ := Aside0.mk (HI.out.below hb); have n3_ := Aside0.mk (HK.out.below hb); have n4_ := Aside0.mk (Nat.le_trans HS.out hb.size); clear HB HI HK HS; have HB := n0_; have BK := n1_; have HI := n2_; have HK := n3_; have HS := n4_; clear n0_ n1_ n2_ n3_ n4_ hb hbox hg))
  have hcz0 : w3.cell? ⟨gb, 0, none⟩ = some (.int .i64 a0_0) := (blk_cell BK.out 0).trans rfl
  have hcz1 : w3.cell? ⟨gb, 1, none⟩ = some (.string a0_1) := (blk_cell BK.out 1).trans rfl
  have hcz3 : w3.cell? ⟨gb, 3, none⟩ = some (.slice A0_3 l0_3.length c0_3) := (blk_cell BK.out 3).trans rfl
  (try simp only [Act.put, List.setIfInBounds_toArray, List.set_cons_zero, List.set_cons_succ])
  go_cut [13] (fun v13 wc => ∃ b : Bool, v13 = .bool b ∧ Aside0 (b = decide (a0_0 = 1 ∨ a0_0 = 3)) ∧ wc = w3)
  case first =>
    by_cases c1 : a0_0 = 1
    · subst c1
      go_wp2
      go_meet
      case rel => exact ⟨true, rfl, ⟨by simp⟩, rfl⟩
    · have c1b : (a0_0 == 1) = false := beq_eq_false_iff_ne.mpr c1
      go_wp2
      go_meet
      case rel => exact ⟨a0_0 == 3, (by first | rfl | simp), ⟨by simp [c1]; by_cases c3 : a0_0 = 3 <;> simp [c3]⟩, rfl⟩
  case rest =>
  obtain ⟨b, rfl, Hb, hw⟩ := hcut
  rw [hw]
  clear hw
  go_upto_if 13 with (fail)
  go_cut [] (fun wc => ∃ (kq : Nat) (xs : List ByteArray), Aside0 (shower_term.l0 kq xs l0_3 0 = some r) ∧ Aside0 (kq ≤ k) ∧ Aside0 (OwnS62 w0 wc g xs) ∧ Aside0 (wc.heap[gb]? = some (.cells #[.int .i64 a0_0, .string a0_1, .int .i64 a0_2, (.slice A0_3 l0_3.length c0_3)] 53 (0, 0))) ∧ Aside0 (Below w0.heap.size w0 wc) ∧ Aside0 (KeepT w wc))
  case first =>
    cases b with
    | true =>
      have hc := of_decide_eq_true Hb.out.symm
      have h1 := H.out
      rw [if_pos hc] at h1
      by_cases hl : s.length < 8796093022208
      · rw [if_pos hl] at h1
        obtain ⟨y, hy⟩ : ∃ y : List ByteArray, y = s ++ [a0_1] := ⟨_, rfl⟩
        rw [← hy] at h1
        have HY := Aside0.mk hy
        have H1 := Aside0.mk h1
        have HL := Aside0.mk hl
        clear h1 H hl hc hy
        obtain ⟨A0, c0, hb0, hg0, hr0⟩ := HI.out
        have hcg : w3.cell? ⟨g, 0, none⟩ = some (.slice A0 s.length c0) := (blk_cell hb0 0).trans rfl
        have HB0 := Aside0.mk hb0
        have HG0 := Aside0.mk hg0
        have HR0 := Aside0.mk hr0
        clear hb0 hg0 hr0
        go_upto_region 2 with (fail)
        have BK4 : Aside0 (w3.drew.heap[gb]? = _) := BK
        have HB4 : Aside0 (Below w0.heap.size w0 w3.drew) := ⟨below_drew1 HB.out⟩
        have HK4 : Aside0 (KeepT w w3.drew) := ⟨HK.out.drew⟩
        have HS4 : Aside0 (w0.heap.size ≤ w3.drew.heap.size) := HS
        have HO4 : Aside0 (Kd.R Kd.string 9 w3.drew w0.heap.size (fun k => k ≠ g) (.slice A0 s.length c0) s) := ⟨Kd.R_drew HR0.out⟩
        have HC4 : Aside0 (w3.drew.heap[g]? = some (.cells #[.slice A0 s.length c0] 62 (0, 0))) := HB0
        clear BK HB HK HS HR0 HB0 HI hcz0 hcz3
        have hca : ∀ o, (w3.alloc o).cell? ⟨g, 0, none⟩ = some (.slice A0 s.length c0) := fun o => (blk_cell (blk_alloc HC4.out o) 0).trans rfl
        have hcb : ∀ o, (w3.alloc o).cell? ⟨gb, 1, none⟩ = some (.string a0_1) := fun o => (blk_cell (blk_alloc BK4.out o) 1).trans rfl
        go_region_law ((refine Kd.R_append_step Kd.string (w0 := w0) w0.heap.size (by rfl) (.tmp 18) (.tmp 21) 22 9 (.string ⟨#[]⟩) 16 rfl Tryd.underlying22 info9 rfl (by decide) (by omega) (.slice A0 s.length c0) s a0_1 [.string a0_1] (fun k => k ≠ g) (fun _ => False) (by rfl) (by rfl) rfl (fun _ hk => hk.elim) (fun k hk e => fresh_ne HC4.out hk e) HO4.out HB4.out HS4.out (lim16 HL.out) ?_; intro v5 w5 ho hb hg hat; rw [← HY.out] at ho; obtain ⟨A5, c5, e5⟩ := Kd.R_slice ho; subst e5; have hcg5 : w5.cell? ⟨g, 0, none⟩ = some (.slice A0 s.length c0) := (blk_cell (blk_grown HC4.out hg (Kd.R_ne HO4.out HC4.out (by decide))) 0).trans rfl; have hfg5 := blk_frozen (blk_grown HC4.out hg (Kd.R_ne HO4.out HC4.out (by decide))) 0; have HG5 := Aside0.mk hg; have HO5 := Aside0.mk ho; have HB5 := Aside0.mk hb; clear ho hb hg hat))
        all_goals (go_wp2; go_meet; case rel => exact ⟨k, y, H1, ⟨Nat.le_refl _⟩, ⟨OwnS62.put HC4.out HG0.out HG5.out (Kd.R_ne HO4.out HC4.out (by decide)) HO5.out⟩, ⟨blk_far (blk_grown BK4.out HG5.out (Kd.R_ne HO4.out BK4.out (by decide))) (ne_types BK4.out HC4.out (by decide)) _⟩, ⟨below_set HB5.out HG0.out⟩, ⟨KeepT.put HK4.out HC4.out HO4.out HG5.out⟩⟩)
      · rw [if_neg hl] at h1
        cases h1
    | false =>
      have hc := of_decide_eq_false Hb.out.symm
      have h1 := H.out
      rw [if_neg hc] at h1
      have H1 := Aside0.mk h1
      clear h1 H hc
      go_wp2
      go_meet
      case rel => exact ⟨k, s, H1, ⟨Nat.le_refl _⟩, HI, BK, HB, HK⟩
  case rest =>
    clear HI BK HB HK
    obtain ⟨kq, xs, HA, HJ, HI, BK, HB, HK⟩ := hcut
    have hcy3 : wc.cell? ⟨gb, 3, none⟩ = some (.slice A0_3 l0_3.length c0_3) := (blk_cell BK.out 3).trans rfl
    clear hcz0 hcz1 hcz3 HS H Hb
    go_wp2
    go_loopg [28] kq (fun kr v28 w' => ∃ (x : List ByteArray) (i : Int), v28 = .int .i64 i ∧ Aside0 (shower_term.l0 kr x l0_3 i = some r) ∧ Aside0 (kr ≤ kq) ∧ Aside0 (OwnS62 w0 w' g x) ∧ Aside0 (w'.heap[gb]? = some (.cells #[.int .i64 a0_0, .string a0_1, .int .i64 a0_2, (.slice A0_3 l0_3.length c0_3)] 53 (0, 0))) ∧ Aside0 (Below w0.heap.size w0 w') ∧ Aside0 (KeepT w w'))
    case atStart => exact ⟨xs, 0, rfl, HA, ⟨Nat.le_refl _⟩, HI, BK, HB, HK⟩
    case round =>
      clear HA HI BK HB HK hcy3
      obtain ⟨x, i, rfl, HA, HK1, HI, BK, HB, HK⟩ := hrel
      cases gk with
      | zero => exact absurd HA.out (by simp [shower_term.l0])
      | succ k3 =>
        have H := HA.out
        clear HA
        simp only [shower_term.l0] at H
        by_cases c1 : i < (l0_3.length : Int)
        · rw [if_pos c1] at H
          have c1b : decide (i < (l0_3.length : Int)) = true := decide_eq_true c1
          by_cases c2 : 0 ≤ i
          · rw [if_pos c2] at H
            have c2b : decide (0 ≤ i) = true := decide_eq_true c2
            obtain ⟨t, A1, H⟩ := Option.bind_eq_some_iff.mp H
            have A1 := Aside0.mk A1
            have H := Aside0.mk H
            have HS : Aside0 (w0.heap.size ≤ _) := ⟨HB.out.size⟩
            obtain ⟨ad, A3, c3, e3, hx0, hx1, hx2, hx3, hl3, hi3⟩ := at_T53 HR0_3.out i c2 c1
            cases e3
            replace hx0 := (HB.out.cell (World.block_lt_of_cell? w0 _ hx0)).trans hx0
            replace hx1 := (HB.out.cell (World.block_lt_of_cell? w0 _ hx1)).trans hx1
            replace hx2 := (HB.out.cell (World.block_lt_of_cell? w0 _ hx2)).trans hx2
            replace hx3 := (HB.out.cell (World.block_lt_of_cell? w0 _ hx3)).trans hx3
            have HR3 := Aside0.mk hi3
            have HC3 := Aside0.mk hl3
            clear hi3 hl3
            replace c1 := eq_true c1
            replace c2 := eq_true c2
            go_wp2_with (fail)
            refine (ih k3 (by have := HJ.out; have := HK1.out; omega) g x _ _ _ _ _ _ t w0 _ (HI.out.alloc _) (below_alloc HB.out _) HR3.out HC3.out A1.out).mono ?_
            rintro e w5 ⟨rfl, hI5, hB5, hK5⟩
            have BK5 := Aside0.mk (hK5 gb _ _ (blk_alloc BK.out _) (by decide) (by decide))
            have HI5 := Aside0.mk hI5
            have HB5 := Aside0.mk hB5
            have HK5 := Aside0.mk ((HK.out.alloc _).trans hK5)
            clear hI5 hB5 hK5 HI BK HB HK
            go_wp2_with (fail)
            go_roundg k3
            case measure => have := HK1.out; omega
            case rel => exact ⟨t, wrap64 (i + 1), (by first | rfl | simp), H, ⟨by have := HK1.out; omega⟩, HI5, BK5, HB5, HK5⟩
          · rw [if_neg c2] at H
            cases H
        · rw [if_neg c1] at H
          have c1b : decide (i < (l0_3.length : Int)) = false := decide_eq_false c1
          clear c1
          obtain rfl := Option.some.inj H
          go_wp2
          (first | go_end0 | ((try simp only [Exit.inBlock, Exit.then]); refine bodyPost_ret (results_none rfl _ _ _) rfl ?_))
          exact ⟨rfl, HI.out, HB.out, HK.out⟩
mutual
def shower_claim.l1 : Nat → List ByteArray → List S30 → Int → Option (List ByteArray)
  | 0, _, _, _ => none
  | k + 1, s, l, i => if i < (l.length : Int) then (if 0 ≤ i then ((shower_claim.f k s ((rd_T30 l i).f0) ((rd_T30 l i).f1) ((rd_T30 l i).f2) ((rd_T30 l i).f3) ((rd_T30 l i).f4)).bind fun t => shower_claim.l1 k t l (wrap64 (i + 1))) else none) else some s
def shower_claim.f : Nat → List ByteArray → Int → ByteArray → ByteArray → List S53 → List S30 → Option (List ByteArray)
  | 0, _, _, _, _, _, _ => none
  | k + 1, s, a0, a1, _, l3, l4 => (if a0 = 3 then (if s.length < 8796093022208 then some (s ++ [a1]) else none) else some s).bind fun x => (shower_term.l0 k x l3 0).bind fun y => shower_claim.l1 k y l4 0
end
set_option maxHeartbeats 2000000 in
set_option maxRecDepth 100000 in
theorem shower_claim.calls (k : Nat) : ∀ (g : Nat) (s : List ByteArray) (a0_0 : Int) (a0_1 a0_2 : ByteArray) (A0_3 : Option Addr) (c0_3 : Nat) (l0_3 : List S53) (A0_4 : Option Addr) (c0_4 : Nat) (l0_4 : List S30) (r : List ByteArray) (w0 w : World) (hI : OwnS62 w0 w g s) (hB : Below w0.heap.size w0 w) (hr0_3 : Kd.C k53 w0 A0_3 l0_3.length l0_3) (hc0_3 : l0_3.length ≤ c0_3) (hr0_4 : Kd.C k30 w0 A0_4 l0_4.length l0_4) (hc0_4 : l0_4.length ≤ c0_4) (h : shower_claim.f k s a0_0 a0_1 a0_2 l0_3 l0_4 = some r),
    Calls Tryd.prog 32 #[.pointer (some ⟨g, 0, none⟩), .agg #[.int .i64 a0_0, .string a0_1, .string a0_2, .slice A0_3 l0_3.length c0_3, .slice A0_4 l0_4.length c0_4]] w fun e w' => e = .returned (.tuple #[]) ∧ OwnS62 w0 w' g r ∧ Below w0.heap.size w0 w' ∧ KeepT w w' := by
  induction k using Nat.strongRecOn with
  | _ k ih =>
  intro g s a0_0 a0_1 a0_2 A0_3 c0_3 l0_3 A0_4 c0_4 l0_4 r w0 w hI hB hr0_3 hc0_3 hr0_4 hc0_4 h
  cases k with
  | zero => exact absurd h (by simp [shower_claim.f])
  | succ k =>
  simp only [shower_claim.f] at h
  obtain ⟨x1, h1, h⟩ := Option.bind_eq_some_iff.mp h
  obtain ⟨x2, h2, h3⟩ := Option.bind_eq_some_iff.mp h
  clear h
  have hu30 := Tryd.underlying30
  have hu53 := Tryd.underlying53
  have HR0_3 := Aside0.mk hr0_3
  have HC0_3 := Aside0.mk hc0_3
  have HR0_4 := Aside0.mk hr0_4
  have HC0_4 := Aside0.mk hc0_4
  have HB := Aside0.mk hB
  have HI := Aside0.mk hI
  have HK := Aside0.mk (KeepT.refl w)
  have H := Aside0.mk h1
  have H2 := Aside0.mk h2
  have H3 := Aside0.mk h3
  have HS := Aside0.mk hB.size
  clear hr0_3 hc0_3 hr0_4 hc0_4 hB hI h1 h2 h3
  go_enter Tryd.func32, Tryd.ntmps32
  go_upto_region 1 with (first | ((with_reducible refine gate_dst (N := 3) rfl ?_); refine box_event ?hg (N := 3) ?hd (cs := #[.int .i64 a0_0, .string a0_1, .string a0_2, .slice A0_3 l0_3.length c0_3, .slice A0_4 l0_4.length c0_4]) (t := 30) ?hr ?_; (case hd => rfl); (case hg => rfl); (case hr => first | (go_simp; done) | (go_simp; rfl)); intro gb hg w3 hbox hb; have n0_ := Aside0.mk (below_then HB.out HS.out hb); have n1_ := Aside0.mk hbox; have n2_ := Aside0.mk (HI.out.below hb); have n3_ := Aside0.mk (HK.out.below hb); have n4_ := Aside0.mk (Nat.le_trans HS.out hb.size); clear HB HI HK HS; have HB := n0_; have BK := n1_; have HI := n2_; have HK := n3_; have HS := n4_; clear n0_ n1_ n2_ n3_ n4_ hb hbox hg))
  have hcz0 : w3.cell? ⟨gb, 0, none⟩ = some (.int .i64 a0_0) := (blk_cell BK.out 0).trans rfl
  have hcz1 : w3.cell? ⟨gb, 1, none⟩ = some (.string a0_1) := (blk_cell BK.out 1).trans rfl
  (try simp only [Act.put, List.setIfInBounds_toArray, List.set_cons_zero, List.set_cons_succ])
  go_upto_if 10 with (fail)
  go_cut [] (fun wc => Aside0 (OwnS62 w0 wc g x1) ∧ Aside0 (wc.heap[gb]? = some (.cells #[.int .i64 a0_0, .string a0_1, .string a0_2, (.slice A0_3 l0_3.length c0_3), (.slice A0_4 l0_4.length c0_4)] 30 (0, 0))) ∧ Aside0 (Below w0.heap.size w0 wc) ∧ Aside0 (KeepT w wc))
  case first =>
    by_cases hc : a0_0 = 3
    · have h1 := H.out
      rw [if_pos hc] at h1
      subst hc
      by_cases hl : s.length < 8796093022208
      · rw [if_pos hl] at h1
        have hy := (Option.some.inj h1).symm
        have HY := Aside0.mk hy
        have HL := Aside0.mk hl
        clear h1 H hl hy
        obtain ⟨A0, c0, hb0, hg0, hr0⟩ := HI.out
        have hcg : w3.cell? ⟨g, 0, none⟩ = some (.slice A0 s.length c0) := (blk_cell hb0 0).trans rfl
        have HB0 := Aside0.mk hb0
        have HG0 := Aside0.mk hg0
        have HR0 := Aside0.mk hr0
        clear hb0 hg0 hr0
        go_upto_region 2 with (fail)
        have BK4 : Aside0 (w3.drew.heap[gb]? = _) := BK
        have HB4 : Aside0 (Below w0.heap.size w0 w3.drew) := ⟨below_drew1 HB.out⟩
        have HK4 : Aside0 (KeepT w w3.drew) := ⟨HK.out.drew⟩
        have HS4 : Aside0 (w0.heap.size ≤ w3.drew.heap.size) := HS
        have HO4 : Aside0 (Kd.R Kd.string 9 w3.drew w0.heap.size (fun k => k ≠ g) (.slice A0 s.length c0) s) := ⟨Kd.R_drew HR0.out⟩
        have HC4 : Aside0 (w3.drew.heap[g]? = some (.cells #[.slice A0 s.length c0] 62 (0, 0))) := HB0
        clear BK HB HK HS HR0 HB0 HI hcz0
        have hca : ∀ o, (w3.alloc o).cell? ⟨g, 0, none⟩ = some (.slice A0 s.length c0) := fun o => (blk_cell (blk_alloc HC4.out o) 0).trans rfl
        have hcb : ∀ o, (w3.alloc o).cell? ⟨gb, 1, none⟩ = some (.string a0_1) := fun o => (blk_cell (blk_alloc BK4.out o) 1).trans rfl
        go_region_law ((refine Kd.R_append_step Kd.string (w0 := w0) w0.heap.size (by rfl) (.tmp 15) (.tmp 18) 22 9 (.string ⟨#[]⟩) 16 rfl Tryd.underlying22 info9 rfl (by decide) (by omega) (.slice A0 s.length c0) s a0_1 [.string a0_1] (fun k => k ≠ g) (fun _ => False) (by rfl) (by rfl) rfl (fun _ hk => hk.elim) (fun k hk e => fresh_ne HC4.out hk e) HO4.out HB4.out HS4.out (lim16 HL.out) ?_; intro v5 w5 ho hb hg hat; rw [← HY.out] at ho; obtain ⟨A5, c5, e5⟩ := Kd.R_slice ho; subst e5; have hcg5 : w5.cell? ⟨g, 0, none⟩ = some (.slice A0 s.length c0) := (blk_cell (blk_grown HC4.out hg (Kd.R_ne HO4.out HC4.out (by decide))) 0).trans rfl; have hfg5 := blk_frozen (blk_grown HC4.out hg (Kd.R_ne HO4.out HC4.out (by decide))) 0; have HG5 := Aside0.mk hg; have HO5 := Aside0.mk ho; have HB5 := Aside0.mk hb; clear ho hb hg hat))
        all_goals (go_wp2; go_meet; case rel => exact ⟨⟨OwnS62.put HC4.out HG0.out HG5.out (Kd.R_ne HO4.out HC4.out (by decide)) HO5.out⟩, ⟨blk_far (blk_grown BK4.out HG5.out (Kd.R_ne HO4.out BK4.out (by decide))) (ne_types BK4.out HC4.out (by decide)) _⟩, ⟨below_set HB5.out HG0.out⟩, ⟨KeepT.put HK4.out HC4.out HO4.out HG5.out⟩⟩)
      · rw [if_neg hl] at h1
        cases h1
    · have h1 := H.out
      rw [if_neg hc] at h1
      obtain rfl := Option.some.inj h1
      have hcb0 : (a0_0 == 3) = false := beq_eq_false_iff_ne.mpr hc
      clear h1 H hc
      go_wp2
      go_meet
      case rel => exact ⟨HI, BK, HB, HK⟩
  case rest =>
    clear HI BK HB HK
    obtain ⟨HI, BK, HB, HK⟩ := hcut
    have hcy3 : wc.cell? ⟨gb, 3, none⟩ = some (.slice A0_3 l0_3.length c0_3) := (blk_cell BK.out 3).trans rfl
    clear hcz0 hcz1 HS H
    go_wp2
    go_loopg [25] k (fun kr v25 w' => ∃ (x : List ByteArray) (i : Int), v25 = .int .i64 i ∧ Aside0 (shower_term.l0 kr x l0_3 i = some x2) ∧ Aside0 (OwnS62 w0 w' g x) ∧ Aside0 (w'.heap[gb]? = some (.cells #[.int .i64 a0_0, .string a0_1, .string a0_2, (.slice A0_3 l0_3.length c0_3), (.slice A0_4 l0_4.length c0_4)] 30 (0, 0))) ∧ Aside0 (Below w0.heap.size w0 w') ∧ Aside0 (KeepT w w'))
    case atStart => exact ⟨x1, 0, rfl, H2, HI, BK, HB, HK⟩
    case round =>
      clear H2 HI BK HB HK hcy3
      obtain ⟨x, i, rfl, HA, HI, BK, HB, HK⟩ := hrel
      cases gk with
      | zero => exact absurd HA.out (by simp [shower_term.l0])
      | succ k3 =>
        have H := HA.out
        clear HA
        simp only [shower_term.l0] at H
        by_cases c1 : i < (l0_3.length : Int)
        · rw [if_pos c1] at H
          have c1b : decide (i < (l0_3.length : Int)) = true := decide_eq_true c1
          by_cases c2 : 0 ≤ i
          · rw [if_pos c2] at H
            have c2b : decide (0 ≤ i) = true := decide_eq_true c2
            obtain ⟨t, A1, H⟩ := Option.bind_eq_some_iff.mp H
            have A1 := Aside0.mk A1
            have H := Aside0.mk H
            obtain ⟨ad, A3, c3, e3, hx0, hx1, hx2, hx3, hl3, hi3⟩ := at_T53 HR0_3.out i c2 c1
            cases e3
            replace hx0 := (HB.out.cell (World.block_lt_of_cell? w0 _ hx0)).trans hx0
            replace hx1 := (HB.out.cell (World.block_lt_of_cell? w0 _ hx1)).trans hx1
            replace hx2 := (HB.out.cell (World.block_lt_of_cell? w0 _ hx2)).trans hx2
            replace hx3 := (HB.out.cell (World.block_lt_of_cell? w0 _ hx3)).trans hx3
            have HR3 := Aside0.mk hi3
            have HC3 := Aside0.mk hl3
            clear hi3 hl3
            replace c1 := eq_true c1
            replace c2 := eq_true c2
            go_wp2_with (fail)
            refine (shower_term.calls k3 g x _ _ _ _ _ _ t w0 _ (HI.out.alloc _) (below_alloc HB.out _) HR3.out HC3.out A1.out).mono ?_
            rintro e w5 ⟨rfl, hI5, hB5, hK5⟩
            have BK5 := Aside0.mk (hK5 gb _ _ (blk_alloc BK.out _) (by decide) (by decide))
            have HI5 := Aside0.mk hI5
            have HB5 := Aside0.mk hB5
            have HK5 := Aside0.mk ((HK.out.alloc _).trans hK5)
            clear hI5 hB5 hK5 HI BK HB HK
            go_wp2_with (fail)
            go_roundg k3
            case measure => omega
            case rel => exact ⟨t, wrap64 (i + 1), (by first | rfl | simp), H, HI5, BK5, HB5, HK5⟩
          · rw [if_neg c2] at H
            cases H
        · rw [if_neg c1] at H
          have c1b : decide (i < (l0_3.length : Int)) = false := decide_eq_false c1
          clear c1
          obtain rfl := Option.some.inj H
          have hcy4 : wr.cell? ⟨gb, 4, none⟩ = some (.slice A0_4 l0_4.length c0_4) := (blk_cell BK.out 4).trans rfl
          clear H
          go_wp2
          go_loopg [36] k (fun kr v36 w' => ∃ (x : List ByteArray) (i : Int), v36 = .int .i64 i ∧ Aside0 (shower_claim.l1 kr x l0_4 i = some r) ∧ Aside0 (kr ≤ k) ∧ Aside0 (OwnS62 w0 w' g x) ∧ Aside0 (w'.heap[gb]? = some (.cells #[.int .i64 a0_0, .string a0_1, .string a0_2, (.slice A0_3 l0_3.length c0_3), (.slice A0_4 l0_4.length c0_4)] 30 (0, 0))) ∧ Aside0 (Below w0.heap.size w0 w') ∧ Aside0 (KeepT w w'))
          case atStart => exact ⟨x, 0, rfl, H3, ⟨Nat.le_refl _⟩, HI, BK, HB, HK⟩
          case round =>
            clear H3 HI BK HB HK hcy4
            obtain ⟨x, j, rfl, HA, HK1, HI, BK, HB, HK⟩ := hrel
            cases gk with
            | zero => exact absurd HA.out (by simp [shower_claim.l1])
            | succ k4 =>
              have H := HA.out
              clear HA
              simp only [shower_claim.l1] at H
              by_cases c1 : j < (l0_4.length : Int)
              · rw [if_pos c1] at H
                have c1b : decide (j < (l0_4.length : Int)) = true := decide_eq_true c1
                by_cases c2 : 0 ≤ j
                · rw [if_pos c2] at H
                  have c2b : decide (0 ≤ j) = true := decide_eq_true c2
                  obtain ⟨t, A1, H⟩ := Option.bind_eq_some_iff.mp H
                  have A1 := Aside0.mk A1
                  have H := Aside0.mk H
                  obtain ⟨ad, A3, c3, A4, c4, e3, hx0, hx1, hx2, hx3, hx4, hl3, hi3, hl4, hi4⟩ := at_T30 HR0_4.out j c2 c1
                  cases e3
                  replace hx0 := (HB.out.cell (World.block_lt_of_cell? w0 _ hx0)).trans hx0
                  replace hx1 := (HB.out.cell (World.block_lt_of_cell? w0 _ hx1)).trans hx1
                  replace hx2 := (HB.out.cell (World.block_lt_of_cell? w0 _ hx2)).trans hx2
                  replace hx3 := (HB.out.cell (World.block_lt_of_cell? w0 _ hx3)).trans hx3
                  replace hx4 := (HB.out.cell (World.block_lt_of_cell? w0 _ hx4)).trans hx4
                  have HR3 := Aside0.mk hi3
                  have HC3 := Aside0.mk hl3
                  have HR4 := Aside0.mk hi4
                  have HC4 := Aside0.mk hl4
                  clear hi3 hl3 hi4 hl4
                  replace c1 := eq_true c1
                  replace c2 := eq_true c2
                  go_wp2_with (fail)
                  refine (ih k4 (by have := HK1.out; omega) g x _ _ _ _ _ _ _ _ _ t w0 _ (HI.out.alloc _) (below_alloc HB.out _) HR3.out HC3.out HR4.out HC4.out A1.out).mono ?_
                  rintro e w5 ⟨rfl, hI5, hB5, hK5⟩
                  have BK5 := Aside0.mk (hK5 gb _ _ (blk_alloc BK.out _) (by decide) (by decide))
                  have HI5 := Aside0.mk hI5
                  have HB5 := Aside0.mk hB5
                  have HK5 := Aside0.mk ((HK.out.alloc _).trans hK5)
                  clear hI5 hB5 hK5 HI BK HB HK
                  go_wp2_with (fail)
                  go_roundg k4
                  case measure => have := HK1.out; omega
                  case rel => exact ⟨t, wrap64 (j + 1), (by first | rfl | simp), H, ⟨by have := HK1.out; omega⟩, HI5, BK5, HB5, HK5⟩
                · rw [if_neg c2] at H
                  cases H
              · rw [if_neg c1] at H
                have c1b : decide (j < (l0_4.length : Int)) = false := decide_eq_false c1
                clear c1
                obtain rfl := Option.some.inj H
                go_wp2
                (first | go_end0 | ((try simp only [Exit.inBlock, Exit.then]); refine bodyPost_ret (results_none rfl _ _ _) rfl ?_))
                exact ⟨rfl, HI.out, HB.out, HK.out⟩
end Go.Proofs.YtmlkllbaehegjaaDoor.PAll
end
section
/- Plain laws: the names a claim holds, gathered in one order by both. -/
namespace Go.Proofs.YtmlkllbaehegjaaDoor.PAll
open Go.RowKit
open Go.Proofs.YtmlkllbaehegjaaDoor
mutual
def nmT : S53 → List ByteArray
  | ⟨op, name, _, l⟩ => (if op = 1 ∨ op = 3 then [name] else []) ++ nmTs l
def nmTs : List S53 → List ByteArray
  | [] => []
  | t :: r => nmT t ++ nmTs r
end
mutual
def nmC : S30 → List ByteArray
  | ⟨op, name, _, l, c⟩ => (if op = 3 then [name] else []) ++ (nmTs l ++ nmCs c)
def nmCs : List S30 → List ByteArray
  | [] => []
  | t :: r => nmC t ++ nmCs r
end
theorem nmT_eq (t : S53) : nmT t = (if t.f0 = 1 ∨ t.f0 = 3 then [t.f1] else []) ++ nmTs t.f3 := by cases t; simp [nmT]
theorem nmC_eq (t : S30) : nmC t = (if t.f0 = 3 then [t.f1] else []) ++ (nmTs t.f3 ++ nmCs t.f4) := by cases t; simp [nmC]
theorem nmTs_drop {l : List S53} {i : Nat} (hi : i < l.length) : nmTs (l.drop i) = nmT l[i] ++ nmTs (l.drop (i + 1)) := by rw [List.drop_eq_getElem_cons hi, nmTs]
theorem nmCs_drop {l : List S30} {i : Nat} (hi : i < l.length) : nmCs (l.drop i) = nmC l[i] ++ nmCs (l.drop (i + 1)) := by rw [List.drop_eq_getElem_cons hi, nmCs]
mutual
theorem nmT_len : ∀ t : S53, (nmT t).length ≤ wT t
  | ⟨op, name, _, l⟩ => by
    have := nmTs_len l
    simp only [nmT, wT, List.length_append]
    split <;> simp <;> omega
theorem nmTs_len : ∀ l : List S53, (nmTs l).length ≤ wTs l
  | [] => by simp [nmTs]
  | t :: r => by
    have := nmT_len t
    have := nmTs_len r
    simp only [nmTs, wTs, List.length_append]
    omega
end
mutual
theorem nmC_len : ∀ t : S30, (nmC t).length ≤ wC t
  | ⟨op, name, _, l, c⟩ => by
    have := nmTs_len l
    have := nmCs_len c
    simp only [nmC, wC, List.length_append]
    split <;> simp <;> omega
theorem nmCs_len : ∀ l : List S30, (nmCs l).length ≤ wCs l
  | [] => by simp [nmCs]
  | t :: r => by
    have := nmC_len t
    have := nmCs_len r
    simp only [nmCs, wCs, List.length_append]
    omega
end
/-! ### the document's -/
/-! ### the program's -/
theorem shower_term_ev : ∀ (N : Nat) (t : S53), wT t ≤ N → N ≤ 100000 → ∀ s : List ByteArray, s.length + wT t ≤ 500000 → Ev (fun k => shower_term.f k s t.f0 t.f1 t.f2 t.f3) (s ++ nmT t)
  | 0, t, h, _, _, _ => by
    have := wT_pos t
    omega
  | N + 1, t, h, hN, s, hs => by
    rw [wT_eq] at h hs
    have hl2 := wTs_len t.f3
    have loop : ∀ (j i : Nat) (x : List ByteArray), i + j = t.f3.length → x.length + wTs (t.f3.drop i) ≤ 500000 → Ev (fun k => shower_term.l0 k x t.f3 (i : Int)) (x ++ nmTs (t.f3.drop i)) := by
      intro j
      induction j with
      | zero =>
        intro i x hi hx
        refine Ev.step ?_
        simp only [shower_term.l0]
        rw [List.drop_eq_nil_of_le (by omega), nmTs, List.append_nil]
        exact Ev.neg (by omega) (Ev.const _)
      | succ j ih =>
        intro i x hi hx
        have hlt : i < t.f3.length := by omega
        have hw := wT_mem hlt
        have hn := nmT_len t.f3[i]
        rw [wTs_drop hlt] at hx
        refine Ev.step ?_
        simp only [shower_term.l0]
        rw [rdT hlt, wrapN (x := (i : Int) + 1) (n := i + 1) (by omega) (by omega)]
        refine Ev.pos (by omega) (Ev.pos (by omega) (Ev.bind (shower_term_ev N t.f3[i] (by omega) (by omega) x (by omega)) ?_))
        refine (ih (i + 1) (x ++ nmT t.f3[i]) (by omega) (by rw [List.length_append]; omega)).eq ?_
        rw [nmTs_drop hlt, List.append_assoc]
    refine Ev.step ?_
    simp only [shower_term.f]
    rw [nmT_eq]
    by_cases q : t.f0 = 1 ∨ t.f0 = 3
    · rw [if_pos q]
      refine Ev.pos q (Ev.pos (by omega) ?_)
      have := loop t.f3.length 0 (s ++ [t.f1]) (by omega) (by rw [List.drop_zero, List.length_append, List.length_singleton]; omega)
      rw [List.drop_zero, List.append_assoc] at this
      exact this
    · rw [if_neg q]
      refine Ev.neg q ?_
      have := loop t.f3.length 0 s (by omega) (by rw [List.drop_zero]; omega)
      rw [List.drop_zero] at this
      rw [List.nil_append]
      exact this
theorem shower_claim_ev : ∀ (N : Nat) (t : S30), wC t ≤ N → N ≤ 100000 → ∀ s : List ByteArray, s.length + wC t ≤ 400000 → Ev (fun k => shower_claim.f k s t.f0 t.f1 t.f2 t.f3 t.f4) (s ++ nmC t)
  | 0, t, h, _, _, _ => by
    have := wC_pos t
    omega
  | N + 1, t, h, hN, s, hs => by
    rw [wC_eq] at h hs
    have hl2 := wTs_len t.f3
    have hl4 := wCs_len t.f4
    have hn3 := nmTs_len t.f3
    have loop1 : ∀ (j i : Nat) (x : List ByteArray), i + j = t.f4.length → x.length + wCs (t.f4.drop i) ≤ 400000 → Ev (fun k => shower_claim.l1 k x t.f4 (i : Int)) (x ++ nmCs (t.f4.drop i)) := by
      intro j
      induction j with
      | zero =>
        intro i x hi hx
        refine Ev.step ?_
        simp only [shower_claim.l1]
        rw [List.drop_eq_nil_of_le (by omega), nmCs, List.append_nil]
        exact Ev.neg (by omega) (Ev.const _)
      | succ j ih =>
        intro i x hi hx
        have hlt : i < t.f4.length := by omega
        have hw := wC_mem hlt
        have hn := nmC_len t.f4[i]
        rw [wCs_drop hlt] at hx
        refine Ev.step ?_
        simp only [shower_claim.l1]
        rw [rdC hlt, wrapN (x := (i : Int) + 1) (n := i + 1) (by omega) (by omega)]
        refine Ev.pos (by omega) (Ev.pos (by omega) (Ev.bind (shower_claim_ev N t.f4[i] (by omega) (by omega) x (by omega)) ?_))
        refine (ih (i + 1) (x ++ nmC t.f4[i]) (by omega) (by rw [List.length_append]; omega)).eq ?_
        rw [nmCs_drop hlt, List.append_assoc]
    have loop : ∀ (j i : Nat) (x : List ByteArray), i + j = t.f3.length → x.length + wTs (t.f3.drop i) ≤ 400000 → Ev (fun k => shower_term.l0 k x t.f3 (i : Int)) (x ++ nmTs (t.f3.drop i)) := by
      intro j
      induction j with
      | zero =>
        intro i x hi hx
        refine Ev.step ?_
        simp only [shower_term.l0]
        rw [List.drop_eq_nil_of_le (by omega), nmTs, List.append_nil]
        exact Ev.neg (by omega) (Ev.const _)
      | succ j ih =>
        intro i x hi hx
        have hlt : i < t.f3.length := by omega
        have hw := wT_mem hlt
        have hn := nmT_len t.f3[i]
        rw [wTs_drop hlt] at hx
        refine Ev.step ?_
        simp only [shower_term.l0]
        rw [rdT hlt, wrapN (x := (i : Int) + 1) (n := i + 1) (by omega) (by omega)]
        refine Ev.pos (by omega) (Ev.pos (by omega) (Ev.bind (shower_term_ev N t.f3[i] (by omega) (by omega) x (by omega)) ?_))
        refine (ih (i + 1) (x ++ nmT t.f3[i]) (by omega) (by rw [List.length_append]; omega)).eq ?_
        rw [nmTs_drop hlt, List.append_assoc]
    refine Ev.step ?_
    simp only [shower_claim.f]
    refine Ev.bind (a := s ++ (if t.f0 = 3 then [t.f1] else [])) ?_ ?_
    · by_cases q : t.f0 = 3
      · exact (Ev.pos q (Ev.pos (by omega) (Ev.const _))).eq (by rw [if_pos q])
      · exact (Ev.neg q (Ev.const _)).eq (by rw [if_neg q, List.append_nil])
    · obtain ⟨y, hy⟩ : ∃ y : List ByteArray, y = (if t.f0 = 3 then [t.f1] else []) := ⟨_, rfl⟩
      have hyl : y.length ≤ 1 := by rw [hy]; split <;> simp
      rw [nmC_eq, ← hy]
      have h1 := loop t.f3.length 0 (s ++ y) (by omega) (by rw [List.drop_zero, List.length_append]; omega)
      rw [List.drop_zero] at h1
      have h2 := loop1 t.f4.length 0 ((s ++ y) ++ nmTs t.f3) (by omega) (by rw [List.drop_zero, List.length_append, List.length_append]; omega)
      rw [List.drop_zero] at h2
      refine Ev.bind h1 (h2.eq ?_)
      simp only [List.append_assoc]
end Go.Proofs.YtmlkllbaehegjaaDoor.PAll
end
section
namespace Go.Proofs.YtmlkllbaehegjaaDoor
open Go Go.RowKit
def letterI (c : Int) : Bool := (decide (65 ≤ c) && decide (c ≤ 90)) || (decide (97 ≤ c) && decide (c ≤ 122)) || c == 95
def innerI (c : Int) : Bool := letterI c || (decide (48 ≤ c) && decide (c ≤ 57)) || c == 39
def nameB (l : List UInt8) : Bool := !l.isEmpty && decide (l.length ≤ 32) && letterI (l.headD 0).toNat && l.all fun b => innerI b.toNat
theorem size_list (s : ByteArray) : s.data.toList.length = s.size := Array.length_toList ..
theorem ret_int {k : IntKind} {a b : Int} (h : a = b) : Ending.returned (.int k a) = .returned (.int k b) := by rw [h]
theorem ret_bool {a b : Bool} (h : a = b) : Ending.returned (.bool a) = .returned (.bool b) := by rw [h]
theorem letter_any (c : Int) (w : World) : Calls Tryd.prog 76 #[.int .u8 c] w fun e w' => e = .returned (.bool (letterI c)) ∧ w = w' := by
  have H : letterI c = ((decide (65 ≤ c) && decide (c ≤ 90)) || (decide (97 ≤ c) && decide (c ≤ 122)) || c == 95) := rfl
  generalize letterI c = r at H
  by_cases h1 : 65 ≤ c <;> by_cases h2 : c ≤ 90 <;> by_cases h3 : 97 ≤ c <;> by_cases h4 : c ≤ 122 <;> by_cases h5 : c = 95 <;> simp [h1, h2, h3, h4, h5] at H <;> subst H <;> first | omega | skip
  all_goals
    go_enter Tryd.func76, Tryd.ntmps76
    go_wp2
    go_ret
    exact ⟨rfl, rfl⟩
theorem digit_any (c : Int) (w : World) : Calls Tryd.prog 90 #[.int .u8 c] w fun e w' => e = .returned (.bool (decide (48 ≤ c) && decide (c ≤ 57))) ∧ w = w' := by
  go_enter Tryd.func90, Tryd.ntmps90
  by_cases h1 : 48 ≤ c <;> by_cases h2 : c ≤ 57 <;> go_wp2 <;> go_ret <;> exact ⟨by simp [*], rfl⟩
theorem inner_any (c : Int) (w : World) : Calls Tryd.prog 78 #[.int .u8 c] w fun e w' => e = .returned (.bool (innerI c)) ∧ w = w' := by
  unfold innerI
  go_enter Tryd.func78, Tryd.ntmps78
  go_wp2_with (first | (go_at_call 76; refine (letter_any _ _).mono ?_; rintro e w' ⟨rfl, rfl⟩) | (go_at_call 90; refine (digit_any _ _).mono ?_; rintro e w' ⟨rfl, rfl⟩))
  all_goals go_ret
  · exact ⟨by simp [*], rfl⟩
  · rename_i h1 h2
    exact ⟨ret_bool (by rw [Bool.not_eq_true] at h1; rw [h1]; rcases h2 with h | h <;> simp <;> omega), rfl⟩
  · rename_i h1 h2
    exact ⟨ret_bool (by rw [Bool.not_eq_true] at h1; rw [h1]; simp; omega), rfl⟩
theorem take_all_step (l : List UInt8) (k : Nat) (hk : k < l.length) (h : (l.take k).all (fun b => innerI b.toNat) = true) (hb : innerI (l[k].toNat) = true) : (l.take (k + 1)).all (fun b => innerI b.toNat) = true := by
  rw [List.take_succ_eq_append_getElem hk, List.all_append, h]
  simp [hb]
theorem takeWhile_at (l : List UInt8) (k : Nat) (hk : k ≤ l.length) (h : (l.take k).all (fun b => innerI b.toNat) = true) (he : k = l.length ∨ ∃ hk : k < l.length, innerI (l[k].toNat) = false) : (l.takeWhile fun b => innerI b.toNat).length = k := by
  have e : l = l.take k ++ l.drop k := (List.take_append_drop k l).symm
  rw [e, List.takeWhile_append_of_pos (by simpa using h)]
  have : (l.drop k).takeWhile (fun b => innerI b.toNat) = [] := by
    rcases he with he | ⟨hk, hb⟩
    · simp [he]
    · rw [List.drop_eq_getElem_cons hk, List.takeWhile_cons_of_neg (by rw [hb]; exact Bool.false_ne_true)]
  rw [this]; simp; omega
theorem run_any (s : ByteArray) (hs : s.size ≤ 1000) (w : World) : Calls Tryd.prog 77 #[.string s, .int .i64 0, .func (.func 78) #[] #[]] w fun e w' => e = .returned (.int .i64 (s.data.toList.takeWhile fun b => innerI b.toNat).length) ∧ w = w' := by
  go_enter Tryd.func77, Tryd.ntmps77
  go_wp2
  go_loop [7] (fun n => ∃ k : Nat, k ≤ s.size ∧ n = .int .i64 k ∧ Hid ((s.data.toList.take k).all (fun b => innerI b.toNat) = true)) (fun n => s.size - (intOf n).toNat)
  case atStart => exact ⟨0, Nat.zero_le _, rfl, Lib.hid rfl⟩
  case round =>
    obtain ⟨k, hk, rfl, hall⟩ := hrel
    by_cases hlt : k < s.size
    · have hl : k < s.data.toList.length := by simpa using hlt
      go_wp2_with (go_at_call 78; refine (inner_any _ _).mono ?_; rintro e w' ⟨rfl, rfl⟩)
      · rename_i h1
        exact ⟨⟨k + 1, by omega, by go_num, Lib.hid (take_all_step _ _ hl hall.out h1)⟩, by simp [intOf]; omega⟩
      · rename_i h1
        go_ret
        exact ⟨ret_int (by rw [takeWhile_at _ k (by omega) hall.out (.inr ⟨hl, h1⟩)]), rfl⟩
    · go_wp2
      go_ret
      have hk' : k = s.data.toList.length := by have := size_list s; omega
      exact ⟨ret_int (by rw [takeWhile_at _ k (by omega) hall.out (.inl hk')]), rfl⟩
theorem takeWhile_all (l : List UInt8) : ((((l.takeWhile fun b => innerI b.toNat).length : Int)) == (l.length : Int)) = l.all (fun b => innerI b.toNat) := by
  induction l with
  | nil => rfl
  | cons b l ih =>
    cases h : innerI b.toNat with
    | true => rw [List.takeWhile_cons_of_pos (by exact h), List.all_cons, h, Bool.true_and, ← ih, Bool.eq_iff_iff]; simp only [List.length_cons, beq_iff_eq]; omega
    | false =>
      rw [List.takeWhile_cons_of_neg (by rw [h]; exact Bool.false_ne_true), List.all_cons, h, Bool.false_and, beq_eq_false_iff_ne]
      simp only [List.length_nil, List.length_cons]; omega
def token_Name.f (a0 : ByteArray) : Option Bool := some (nameB a0.data.toList)
theorem nameB_nil {s : ByteArray} (h : s.toList = []) : nameB s.data.toList = false := by
  have : s.data.toList = [] := by rw [← ByteArray.toList_eq]; exact h
  rw [this]; rfl
theorem nameB_long {s : ByteArray} (h : 32 < s.size) : nameB s.data.toList = false := by
  have hlen : s.data.toList.length = s.size := size_list _
  have : decide (s.data.toList.length ≤ 32) = false := by simp only [decide_eq_false_iff_not]; omega
  unfold nameB; rw [this]; simp
theorem headD_zero {s : ByteArray} (h : 0 < s.size) : s.data.toList.headD 0 = s[0] := by
  have hlen : s.data.toList.length = s.size := size_list _
  have : s.data.toList ≠ [] := fun e => by rw [e] at hlen; simp at hlen; omega
  cases hl : s.data.toList with
  | nil => exact absurd hl this
  | cons b l =>
    have : s[0] = s.data.toList[0]'(by omega) := rfl
    rw [this]; simp [hl]
theorem nameB_head {s : ByteArray} (h : 0 < s.size) (hb : letterI (s[0].toNat) = false) : nameB s.data.toList = false := by
  unfold nameB; rw [headD_zero h, hb]; simp
theorem nameB_all {s : ByteArray} (h : 0 < s.size) (h1 : s.size ≤ 32) (hb : letterI (s[0].toNat) = true) : nameB s.data.toList = (((s.data.toList.takeWhile fun b => innerI b.toNat).length : Int) == (s.size : Int)) := by
  have hlen : s.data.toList.length = s.size := size_list _
  have h2 : decide (s.data.toList.length ≤ 32) = true := by simp only [decide_eq_true_eq]; omega
  have h3 : s.data.toList.isEmpty = false := by
    cases hl : s.data.toList with
    | nil => rw [hl] at hlen; simp at hlen; omega
    | cons b l => rfl
  have := takeWhile_all s.data.toList
  rw [hlen] at this
  unfold nameB; rw [headD_zero h, hb, h2, h3, this]; simp
theorem token_Name.calls (a0 : ByteArray) (r : Bool) (w : World) (h : token_Name.f a0 = some r) : Calls Tryd.prog 65 #[.string a0] w fun e w' => e = .returned (.bool r) ∧ Below w.heap.size w w' := by
  have H := Lib.hid (Option.some.inj h)
  clear h
  by_cases h0 : a0.size = 0
  · have he : a0.toList = [] := by
      have hlen : a0.data.toList.length = a0.size := size_list _
      rw [ByteArray.toList_eq]
      exact List.eq_nil_of_length_eq_zero (by omega)
    go_enter Tryd.func65, Tryd.ntmps65
    go_wp2
    go_ret
    exact ⟨ret_bool (by rw [← H.out, nameB_nil he]), Below.refl _ _⟩
  · have hne : ¬ a0.toList = [] := fun e => h0 (by
      have : a0.data.toList.length = a0.size := size_list _
      rw [ByteArray.toList_eq] at e
      rw [e] at this; simp at this; omega)
    by_cases h1 : a0.size ≤ 32
    · have hp : 0 < a0.size := by omega
      clear h0
      go_enter Tryd.func65, Tryd.ntmps65
      go_wp2_with (first | (go_at_call 76; refine (letter_any _ _).mono ?_; rintro e w' ⟨rfl, rfl⟩) | (go_at_call 77; refine (run_any _ (by omega) _).mono ?_; rintro e w' ⟨rfl, rfl⟩))
      all_goals go_ret
      · rename_i _ hb
        exact ⟨ret_bool (by
          rw [← H.out, nameB_all hp (by omega) hb]
          have : a0.toList.isEmpty = false := by cases hl : a0.toList with
            | nil => exact absurd hl hne
            | cons b l => rfl
          rw [this]; simp), Below.refl _ _⟩
      · rename_i _ hb
        exact ⟨ret_bool (by rw [← H.out, nameB_head hp (by simpa using hb)]), Below.refl _ _⟩
    · have hl := nameB_long (s := a0) (by omega)
      have Hl := Lib.hid hl
      clear hl
      go_enter Tryd.func65, Tryd.ntmps65
      go_wp2
      go_ret
      exact ⟨ret_bool (by rw [← H.out, Hl.out]), Below.refl _ _⟩
end Go.Proofs.YtmlkllbaehegjaaDoor
end
section
namespace Go.Proofs.YtmlkllbaehegjaaDoor
open Go Go.RowKit Go.Maps Go.WideMaps
def wordsL : List ByteArray := [⟨#[116, 114, 117, 101]⟩, ⟨#[102, 97, 108, 115, 101]⟩, ⟨#[115, 111, 114, 116]⟩, ⟨#[102, 117, 110]⟩, ⟨#[112, 114, 101, 100]⟩, ⟨#[97, 120, 105, 111, 109]⟩, ⟨#[116, 104, 101, 111, 114, 101, 109]⟩, ⟨#[112, 114, 111, 111, 102]⟩, ⟨#[113, 101, 100]⟩, ⟨#[97, 115]⟩, ⟨#[98, 97, 99, 107]⟩, ⟨#[105, 110, 116, 114, 111]⟩, ⟨#[115, 112, 108, 105, 116]⟩, ⟨#[108, 101, 102, 116]⟩, ⟨#[114, 105, 103, 104, 116]⟩, ⟨#[101, 120, 97, 99, 116]⟩, ⟨#[97, 115, 115, 117, 109, 101]⟩, ⟨#[97, 112, 112, 108, 121]⟩, ⟨#[119, 105, 116, 110, 101, 115, 115]⟩, ⟨#[99, 97, 115, 101, 115]⟩, ⟨#[104, 97, 118, 101]⟩, ⟨#[99, 111, 110, 116, 114, 97]⟩, ⟨#[114, 101, 102, 108]⟩, ⟨#[115, 119, 97, 112]⟩, ⟨#[112, 114, 111, 112]⟩, ⟨#[97, 114, 105, 116, 104]⟩, ⟨#[109, 105, 120, 101, 100]⟩, ⟨#[97, 117, 116, 111]⟩, ⟨#[99, 111, 110, 103, 114]⟩, ⟨#[116, 114, 121]⟩, ⟨#[108, 111, 111, 112]⟩, ⟨#[101, 97, 99, 104]⟩, ⟨#[115, 107, 105, 112]⟩, ⟨#[102, 97, 105, 108]⟩]
def wordsB : List UInt8 := [116, 114, 117, 101, 32, 102, 97, 108, 115, 101, 32, 115, 111, 114, 116, 32, 102, 117, 110, 32, 112, 114, 101, 100, 32, 97, 120, 105, 111, 109, 32, 116, 104, 101, 111, 114, 101, 109, 32, 112, 114, 111, 111, 102, 32, 113, 101, 100, 32, 97, 115, 32, 98, 97, 99, 107, 32, 105, 110, 116, 114, 111, 32, 115, 112, 108, 105, 116, 32, 108, 101, 102, 116, 32, 114, 105, 103, 104, 116, 32, 101, 120, 97, 99, 116, 32, 97, 115, 115, 117, 109, 101, 32, 97, 112, 112, 108, 121, 32, 119, 105, 116, 110, 101, 115, 115, 32, 99, 97, 115, 101, 115, 32, 104, 97, 118, 101, 32, 99, 111, 110, 116, 114, 97, 32, 114, 101, 102, 108, 32, 115, 119, 97, 112, 32, 112, 114, 111, 112, 32, 97, 114, 105, 116, 104, 32, 109, 105, 120, 101, 100, 32, 97, 117, 116, 111, 32, 99, 111, 110, 103, 114, 32, 116, 114, 121, 32, 108, 111, 111, 112, 32, 101, 97, 99, 104, 32, 115, 107, 105, 112, 32, 102, 97, 105, 108]
theorem fields_words : Lib.fields wordsB = wordsL.map (fun s => s.data.toList) := by decide +kernel
theorem ascii_words : wordsB.all (fun b => decide (b.toNat < 128)) = true := by decide +kernel
theorem wordsL_small : wordsL.all (fun s => decide (s.size ≤ 10)) = true := by decide +kernel
def FieldsPost (w : World) (e : Ending) (w' : World) : Prop := ∃ ws : List ByteArray, e = .returned (.slice (some ⟨w.heap.size, 0, none⟩) ws.length ws.length) ∧ w' = w.alloc (.cells (ws.map Value.string).toArray 9) ∧ ws = wordsL
theorem fields_any (s : ByteArray) (hs : s.data.toList = wordsB) (w : World) (hG : Laid w) : Calls Tryd.prog 91 #[.string s] w (FieldsPost w) := by
  have hsz : s.size = wordsB.length := by rw [← hs]; exact (Array.length_toList ..).symm
  refine (Tryd.strings_Fields s w (by rw [hsz]; decide +kernel) ?_ hG.space).mono ?_
  · intro j b hb
    rw [hs] at hb
    have := List.all_eq_true.mp ascii_words b (List.mem_of_getElem? hb)
    simpa using this
  · rintro e w' ⟨rfl, rfl⟩
    refine ⟨wordsL, ?_, ?_, rfl⟩
    · rw [hs, fields_words, List.length_map]
    · rw [hs, fields_words, List.map_map]
      rfl
def C (ws : List ByteArray) (k : Nat) : DataW Unit := (ws.take k).foldl (fun D s => D.put (.string s.data.toList) (.lit (.bool true))) (.map [])
theorem C_step (ws : List ByteArray) (k : Nat) (hk : k < ws.length) : C ws (k + 1) = (C ws k).put (.string ws[k].data.toList) (.lit (.bool true)) := by
  unfold C
  rw [List.take_succ_eq_append_getElem hk, List.foldl_append]
  rfl
def wordB (l : List UInt8) : Bool := wordsL.any fun s => s.data.toList == l
theorem fold_at (ws : List ByteArray) (l : List UInt8) : ∀ (D : DataW Unit) (b : Bool), IsMap D → D.atKey (.string l) (.lit (.bool false)) = .lit (.bool b) →
    (ws.foldl (fun D s => D.put (.string s.data.toList) (.lit (.bool true))) D).atKey (.string l) (.lit (.bool false)) = .lit (.bool (b || ws.any fun s => s.data.toList == l)) := by
  induction ws with
  | nil => intro D b _ h; simpa using h
  | cons s r ih =>
    intro D b hD h
    by_cases hs : s.data.toList = l
    · have := ih (D.put (.string s.data.toList) (.lit (.bool true))) true (hD.put _ _) (by rw [hs]; exact atKey_put_same hD (by simp [WideAt.IsKeyLit]) _ _)
      simp only [List.foldl_cons, List.any_cons]
      rw [this, beq_iff_eq.mpr hs]; simp
    · have := ih (D.put (.string s.data.toList) (.lit (.bool true))) b (hD.put _ _) (by rw [atKey_put_other (by intro e; injection e with e; exact hs e.symm)]; exact h)
      simp only [List.foldl_cons, List.any_cons]
      rw [this, beq_eq_false_iff_ne.mpr hs, Bool.false_or]
theorem C_at (l : List UInt8) : (C wordsL wordsL.length).atKey (.string l) (.lit (.bool false)) = .lit (.bool (wordB l)) := by
  unfold C wordB
  rw [List.take_length, fold_at wordsL l (.map []) false isMap_empty rfl]
  simp
theorem law9 : Keyed Tryd.prog 9 := string_keyed Tryd.underlying9
theorem zero4 (w : World) : (zeroValue 4).run Tryd.prog w = .ok (.bool false) w := by kernel_rfl
def KnownPost (w : World) (e : Ending) (w' : World) : Prop := ∃ b n, e = .returned (.map (some b)) ∧ w'.ownsMap Tryd.prog 9 (plainElem Tryd.prog 4) b n (C wordsL wordsL.length) ∧ Below w.heap.size w w'
set_option maxRecDepth 100000 in
theorem known_any (w : World) (hG : Laid w) : Calls Tryd.prog 79 #[] w (KnownPost w) := by
  have HG := Lib.hid hG
  clear hG
  have hmm := @run_makeMap Tryd.prog
  go_enter Tryd.func79, Tryd.ntmps79
  go_wp2_with (go_at_call 91; refine (fields_any _ (by decide +kernel) _ (Laid.below HG.out ((Below.refl _ _).alloc (Nat.le_refl _) _))).mono ?_; rintro e w' ⟨ws, rfl, rfl, hws⟩; have Hws := Lib.hid hws; clear hws)
  have hlen : ws.length = 34 := by rw [Hws.out]; rfl
  have hlen2 : ws.length ≤ 34 := by omega
  have hsmall : ∀ k (h : k < ws.length), ws[k].size ≤ 10 := by
    intro k h
    have := List.all_eq_true.mp wordsL_small ws[k] (by have := Hws.out; subst this; exact List.getElem_mem h)
    simpa using this
  have Hsmall := Lib.hid hsmall
  clear hlen hsmall
  go_loopw [7] (fun i wr => ∃ k : Nat, k ≤ ws.length ∧ i = .int .i64 k ∧ wr.ownsMap Tryd.prog 9 (plainElem Tryd.prog 4) w.heap.size k (C ws k) ∧ Below w.heap.size w wr ∧ wr.heap[w.heap.size + 1]? = some (.cells (ws.map Value.string).toArray 9 (0, 0)))
    (fun i _ => ws.length - (intOf i).toNat)
  case atStart =>
    refine ⟨0, Nat.zero_le _, rfl, (World.ownsMap_made w Tryd.prog 9 _).alloc _, ((Below.refl _ _).alloc (Nat.le_refl _) _).alloc (by simp) _, ?_⟩
    have h1 : (w.alloc (.map #[] 0)).heap.size = w.heap.size + 1 := by simp
    rw [← h1]
    exact (MapKept.heap_alloc _ _).1
  case round =>
    obtain ⟨k, hk, rfl, hown, hb, hcells⟩ := hrel
    by_cases hlt : k < ws.length
    · obtain ⟨s, hs⟩ : ∃ s, s = ws[k] := ⟨_, rfl⟩
      have hcell : wr.cell? ⟨w.heap.size + 1, k, none⟩ = some (.string s) := by
        rw [hs, cell_of_row wr _ k _ _ _ hcells]
        simp [hlt]
      have hkey : keyOf Tryd.prog 9 (.string s) = some (.string s.data.toList) := keyOf_string_mk Tryd.underlying9 (by rw [hs]; have := Hsmall.out k hlt; unfold maxLen; omega)
      have Hs := Lib.hid hs
      clear hs
      go_wp2_with (at_mapUpdate; refine wpList_mapUpdate_own _ rfl _ _ _ 106 rfl 9 4 law9 Tryd.underlying106 _ w.heap.size k _ rfl hown (by unfold maxLen; omega) _ _ _ rfl rfl hkey _ [] (by rfl) ?_)
      intro w1 hown1 hgrow1
      have R1 := (C_step ws k hlt).symm
      rw [← Hs.out] at R1
      rw [R1] at hown1
      have R2 := hb.grown hgrow1 hb.size (fun j hj => by cases hj; exact Nat.le_refl _)
      have R3 : w1.heap[w.heap.size + 1]? = some (.cells (ws.map Value.string).toArray 9 (0, 0)) := (hgrow1.block _ (Array.getElem?_eq_some_iff.1 hcells).1 (by simp)).trans hcells
      have H1 := Lib.hid hown1
      have H2 := Lib.hid R2
      have H3 := Lib.hid R3
      clear R1 hown1 hgrow1 hown R2 R3 hcells hb hcell hkey
      go_wp2
      go_roundw
      case rel => exact ⟨k + 1, by omega, by go_num, H1.out, H2.out, H3.out⟩
      case measure => simp [intOf]; omega
    · have hkl : k = ws.length := by omega
      subst hkl
      go_wp2
      go_ret
      have e := Hws.out
      subst e
      exact ⟨w.heap.size, _, rfl, hown, hb⟩
theorem elem_bool {P : Program} {e : TypeId} (he : P.underlying e = some .bool) {v : Value} {r : Bool} {ps : List MemPlace} (h : plainElem (H := Unit) P e v = some (.lit (.bool r), ps)) : v = .bool r := by
  unfold plainElem at h
  rw [he] at h
  cases v <;> simp at h
  obtain ⟨rfl, _⟩ := h
  rfl
def token_Word.f (a0 : ByteArray) : Option Bool := if a0.size ≤ 1000000000 then some (wordB a0.data.toList) else none
set_option maxRecDepth 100000 in
theorem token_Word.calls (a0 : ByteArray) (r : Bool) (w : World) (hG : Laid w) (h : token_Word.f a0 = some r) : Calls Tryd.prog 66 #[.string a0] w fun e w' => e = .returned (.bool r) ∧ Below w.heap.size w w' := by
  unfold token_Word.f at h
  by_cases hs : a0.size ≤ 1000000000
  · rw [if_pos hs] at h
    have H := Lib.hid (Option.some.inj h)
    clear h
    go_enter Tryd.func66, Tryd.ntmps66
    go_wp2_with (go_at_call 79; refine (known_any _ hG).mono ?_; rintro e w' ⟨b, n, rfl, hown, hb⟩; obtain ⟨v, ps, hrun, hv⟩ := hown.lookup law9 Tryd.underlying106 (zero4 _) (by rfl) (keyOf_string_mk Tryd.underlying9 (s := a0) (by unfold maxLen; omega)); rw [C_at, H.out] at hv; obtain rfl := elem_bool Tryd.underlying4 hv; clear hown hv)
    go_ret
    exact ⟨rfl, hb⟩
  · rw [if_neg hs] at h
    cases h
end Go.Proofs.YtmlkllbaehegjaaDoor
end
