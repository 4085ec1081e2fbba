/- (*shower).term, (*shower).claim: they append to the state's slice. -/
import Derived.Test.YtmlkllbaehegjaaDoorPAllx0
import Derived.Test.YtmlkllbaehegjaaDoorLaid
import Derived.Test.YtmlkllbaehegjaaDoorPAllx11
import Derived.Deep.RegionLaw
import Derived.Lib.Hide
namespace Go.Proofs.YtmlkllbaehegjaaDoor.PAll
open Go.RowKit Go.Proofs.YtmlkllbaehegjaaDoorW.PrintWords Go.Proofs.YtmlkllbaehegjaaDoorW.PrintLast Go.Proofs.YtmlkllbaehegjaaDoorW.PrintMore
open Go.Proofs.YtmlkllbaehegjaaDoor
set_option linter.unusedVariables false
set_option linter.unusedSimpArgs false

/-- The state of type 62 at block g; its slice is its own, made behind w0. -/
def OwnS62 (w0 W : World) (g : Nat) (f0 : List ByteArray) : Prop := ∃ A0 c0, W.heap[g]? = some (.cells #[.slice A0 f0.length c0] 62 (0, 0)) ∧ w0.heap.size ≤ g ∧ Kd.R Kd.string 9 W w0.heap.size (fun k => k ≠ g) (.slice A0 f0.length c0) f0
/-- What is neither a state nor a row of strings is as it was. -/
def KeepT (w W : World) : Prop := ∀ (i : Nat) (cs : Array Value) (t : TypeId), w.heap[i]? = some (.cells cs t (0, 0)) → t ≠ 62 → t ≠ 9 → W.heap[i]? = some (.cells cs t (0, 0))
theorem KeepT.refl (w : World) : KeepT w w := fun _ _ _ h _ _ => h
theorem KeepT.trans {w W W2 : World} (h : KeepT w W) (h2 : KeepT W W2) : KeepT w W2 := fun i cs t hb h62 h9 => h2 i cs t (h i cs t hb h62 h9) h62 h9
theorem KeepT.alloc {w W : World} (h : KeepT w W) (o : Obj) : KeepT w (W.alloc o) := fun i cs t hb h62 h9 => blk_alloc (h i cs t hb h62 h9) o
theorem KeepT.drew {w W : World} (h : KeepT w W) : KeepT w W.drew := h
theorem KeepT.below {w W W2 : World} (h : KeepT w W) (hb : Below W.heap.size W W2) : KeepT w W2 := fun i cs t hi h62 h9 => blk_below (h i cs t hi h62 h9) hb
theorem OwnS62.alloc {w0 W : World} {g : Nat} {f0 : List ByteArray} (h : OwnS62 w0 W g f0) (o : Obj) : OwnS62 w0 (W.alloc o) g f0 := by
  obtain ⟨A0, c0, hb, hg, hr⟩ := h
  exact ⟨A0, c0, blk_alloc hb o, hg, Kd.R_alloc hr o⟩
theorem OwnS62.drew {w0 W : World} {g : Nat} {f0 : List ByteArray} (h : OwnS62 w0 W g f0) : OwnS62 w0 W.drew g f0 := by
  obtain ⟨A0, c0, hb, hg, hr⟩ := h
  exact ⟨A0, c0, hb, hg, Kd.R_drew hr⟩
theorem OwnS62.below {w0 W W2 : World} {g : Nat} {f0 : List ByteArray} (h : OwnS62 w0 W g f0) (hb2 : Below W.heap.size W W2) : OwnS62 w0 W2 g f0 := by
  obtain ⟨A0, c0, hb, hg, hr⟩ := h
  exact ⟨A0, c0, blk_below hb hb2, hg, Kd.R_below hr hb2⟩
/-- A store of the new slice into the state. -/
theorem OwnS62.put {w0 W W1 : World} {g : Nat} {f0 f1 : List ByteArray} {A0 : Option Addr} {c0 : Nat} {v1 : Value} (hb : W.heap[g]? = some (.cells #[.slice A0 f0.length c0] 62 (0, 0))) (hg : w0.heap.size ≤ g)
    (hgr : W.grownBy W1 (.slice A0 f0.length c0 : Value).ownBlock) (hne : some g ≠ (.slice A0 f0.length c0 : Value).ownBlock) (hr : Kd.R Kd.string 9 W1 w0.heap.size (fun k => k ≠ g) v1 f1) : OwnS62 w0 (W1.setCell ⟨g, 0, none⟩ v1) g f1 := by
  obtain ⟨A1, c1, rfl⟩ := Kd.R_slice hr
  have hb1 := blk_grown hb hgr hne
  refine ⟨A1, c1, ?_, hg, Kd.R_far hr (p := ⟨g, 0, none⟩) (fun k hk => hk) _⟩
  exact blk_put hb1 0 _ rfl
theorem KeepT.put {w W W1 : World} {g : Nat} {f0 : List ByteArray} {A0 : Option Addr} {c0 : Nat} {base : Nat} {ok : Nat → Prop} {v1 : Value} (h : KeepT w W) (hb : W.heap[g]? = some (.cells #[.slice A0 f0.length c0] 62 (0, 0)))
    (hr : Kd.R Kd.string 9 W base ok (.slice A0 f0.length c0) f0) (hgr : W.grownBy W1 (.slice A0 f0.length c0 : Value).ownBlock) : KeepT w (W1.setCell ⟨g, 0, none⟩ v1) := by
  intro i cs t hi h62 h9
  have h1 := h i cs t hi h62 h9
  have h2 := blk_grown h1 hgr (Kd.R_ne hr h1 (fun e => h9 e.symm))
  refine blk_far h2 ?_ _
  rintro rfl
  rw [hb] at h1
  injection h1 with h1
  injection h1 with _ ht _
  exact h62 ht.symm

theorem ne_types {w : World} {g1 g2 : Nat} {c1 c2 : Array Value} {t1 t2 : TypeId} (h1 : w.heap[g1]? = some (.cells c1 t1 (0, 0))) (h2 : w.heap[g2]? = some (.cells c2 t2 (0, 0))) (ht : t1 ≠ t2) : g1 ≠ g2 := by
  rintro rfl
  rw [h1] at h2
  injection h2 with h2
  injection h2 with _ h3 _
  exact ht h3

theorem fresh_ne {w : World} {g k : Nat} {o : Obj} (h : w.heap[g]? = some o) (hk : w.heap.size ≤ k) (e : k = g) : False := by
  have := blk_lt h
  omega
theorem lim16 {n : Nat} (h : n < 8796093022208) : (n + 1) * 16 ≤ 140737488355328 := by omega

mutual
def shower_term.l0 : Nat → List ByteArray → List S53 → Int → Option (List ByteArray)
  | 0, _, _, _ => none
  | k + 1, s, l, i => if i < (l.length : Int) then (if 0 ≤ i then ((shower_term.f k s ((rd_T53 l i).f0) ((rd_T53 l i).f1) ((rd_T53 l i).f2) ((rd_T53 l i).f3)).bind fun t => shower_term.l0 k t l (wrap64 (i + 1))) else none) else some s
def shower_term.f : Nat → List ByteArray → Int → ByteArray → Int → List S53 → Option (List ByteArray)
  | 0, _, _, _, _, _ => none
  | k + 1, s, a0, a1, _, l => if a0 = 1 ∨ a0 = 3 then (if s.length < 8796093022208 then shower_term.l0 k (s ++ [a1]) l 0 else none) else shower_term.l0 k s l 0
end

set_option maxHeartbeats 2000000 in
set_option maxRecDepth 100000 in
theorem shower_term.calls (k : Nat) : ∀ (g : Nat) (s : List ByteArray) (a0_0 : Int) (a0_1 : ByteArray) (a0_2 : Int) (A0_3 : Option Addr) (c0_3 : Nat) (l0_3 : List S53) (r : List ByteArray) (w0 w : World) (hI : OwnS62 w0 w g s) (hB : Below w0.heap.size w0 w) (hr0_3 : Kd.C k53 w0 A0_3 l0_3.length l0_3) (hc0_3 : l0_3.length ≤ c0_3) (h : shower_term.f k s a0_0 a0_1 a0_2 l0_3 = some r),
    Calls Tryd.prog 48 #[.pointer (some ⟨g, 0, none⟩), .agg #[.int .i64 a0_0, .string a0_1, .int .i64 a0_2, .slice A0_3 l0_3.length c0_3]] w fun e w' => e = .returned (.tuple #[]) ∧ OwnS62 w0 w' g r ∧ Below w0.heap.size w0 w' ∧ KeepT w w' := by
  induction k using Nat.strongRecOn with
  | _ k ih =>
  intro g s a0_0 a0_1 a0_2 A0_3 c0_3 l0_3 r w0 w hI hB hr0_3 hc0_3 h
  cases k with
  | zero => exact absurd h (by simp [shower_term.f])
  | succ k =>
  simp only [shower_term.f] at h
  have hu53 := Tryd.underlying53
  have HR0_3 := Aside0.mk hr0_3
  have HC0_3 := Aside0.mk hc0_3
  have HB := Aside0.mk hB
  have HI := Aside0.mk hI
  have HK := Aside0.mk (KeepT.refl w)
  have H := Aside0.mk h
  have HS := Aside0.mk hB.size
  clear hr0_3 hc0_3 hB hI h
  go_enter Tryd.func48, Tryd.ntmps48
  go_upto_region 1 with (first | ((with_reducible refine gate_dst (N := 3) rfl ?_); refine box_event ?hg (N := 3) ?hd (cs := #[.int .i64 a0_0, .string a0_1, .int .i64 a0_2, .slice A0_3 l0_3.length c0_3]) (t := 53) ?hr ?_; (case hd => rfl); (case hg => rfl); (case hr => first | (go_simp; done) | (go_simp; rfl)); intro gb hg w3 hbox hb; have n0_ := Aside0.mk (below_then HB.out HS.out hb); have n1_ := Aside0.mk hbox; have n2_ := Aside0.mk (HI.out.below hb); have n3_ := Aside0.mk (HK.out.below hb); have n4_ := Aside0.mk (Nat.le_trans HS.out hb.size); clear HB HI HK HS; have HB := n0_; have BK := n1_; have HI := n2_; have HK := n3_; have HS := n4_; clear n0_ n1_ n2_ n3_ n4_ hb hbox hg))
  have hcz0 : w3.cell? ⟨gb, 0, none⟩ = some (.int .i64 a0_0) := (blk_cell BK.out 0).trans rfl
  have hcz1 : w3.cell? ⟨gb, 1, none⟩ = some (.string a0_1) := (blk_cell BK.out 1).trans rfl
  have hcz3 : w3.cell? ⟨gb, 3, none⟩ = some (.slice A0_3 l0_3.length c0_3) := (blk_cell BK.out 3).trans rfl
  (try simp only [Act.put, List.setIfInBounds_toArray, List.set_cons_zero, List.set_cons_succ])
  go_cut [13] (fun v13 wc => ∃ b : Bool, v13 = .bool b ∧ Aside0 (b = decide (a0_0 = 1 ∨ a0_0 = 3)) ∧ wc = w3)
  case first =>
    by_cases c1 : a0_0 = 1
    · subst c1
      go_wp2
      go_meet
      case rel => exact ⟨true, rfl, ⟨by simp⟩, rfl⟩
    · have c1b : (a0_0 == 1) = false := beq_eq_false_iff_ne.mpr c1
      go_wp2
      go_meet
      case rel => exact ⟨a0_0 == 3, (by first | rfl | simp), ⟨by simp [c1]; by_cases c3 : a0_0 = 3 <;> simp [c3]⟩, rfl⟩
  case rest =>
  obtain ⟨b, rfl, Hb, hw⟩ := hcut
  rw [hw]
  clear hw
  go_upto_if 13 with (fail)
  go_cut [] (fun wc => ∃ (kq : Nat) (xs : List ByteArray), Aside0 (shower_term.l0 kq xs l0_3 0 = some r) ∧ Aside0 (kq ≤ k) ∧ Aside0 (OwnS62 w0 wc g xs) ∧ Aside0 (wc.heap[gb]? = some (.cells #[.int .i64 a0_0, .string a0_1, .int .i64 a0_2, (.slice A0_3 l0_3.length c0_3)] 53 (0, 0))) ∧ Aside0 (Below w0.heap.size w0 wc) ∧ Aside0 (KeepT w wc))
  case first =>
    cases b with
    | true =>
      have hc := of_decide_eq_true Hb.out.symm
      have h1 := H.out
      rw [if_pos hc] at h1
      by_cases hl : s.length < 8796093022208
      · rw [if_pos hl] at h1
        obtain ⟨y, hy⟩ : ∃ y : List ByteArray, y = s ++ [a0_1] := ⟨_, rfl⟩
        rw [← hy] at h1
        have HY := Aside0.mk hy
        have H1 := Aside0.mk h1
        have HL := Aside0.mk hl
        clear h1 H hl hc hy
        obtain ⟨A0, c0, hb0, hg0, hr0⟩ := HI.out
        have hcg : w3.cell? ⟨g, 0, none⟩ = some (.slice A0 s.length c0) := (blk_cell hb0 0).trans rfl
        have HB0 := Aside0.mk hb0
        have HG0 := Aside0.mk hg0
        have HR0 := Aside0.mk hr0
        clear hb0 hg0 hr0
        go_upto_region 2 with (fail)
        have BK4 : Aside0 (w3.drew.heap[gb]? = _) := BK
        have HB4 : Aside0 (Below w0.heap.size w0 w3.drew) := ⟨below_drew1 HB.out⟩
        have HK4 : Aside0 (KeepT w w3.drew) := ⟨HK.out.drew⟩
        have HS4 : Aside0 (w0.heap.size ≤ w3.drew.heap.size) := HS
        have HO4 : Aside0 (Kd.R Kd.string 9 w3.drew w0.heap.size (fun k => k ≠ g) (.slice A0 s.length c0) s) := ⟨Kd.R_drew HR0.out⟩
        have HC4 : Aside0 (w3.drew.heap[g]? = some (.cells #[.slice A0 s.length c0] 62 (0, 0))) := HB0
        clear BK HB HK HS HR0 HB0 HI hcz0 hcz3
        have hca : ∀ o, (w3.alloc o).cell? ⟨g, 0, none⟩ = some (.slice A0 s.length c0) := fun o => (blk_cell (blk_alloc HC4.out o) 0).trans rfl
        have hcb : ∀ o, (w3.alloc o).cell? ⟨gb, 1, none⟩ = some (.string a0_1) := fun o => (blk_cell (blk_alloc BK4.out o) 1).trans rfl
        go_region_law ((refine Kd.R_append_step Kd.string (w0 := w0) w0.heap.size (by rfl) (.tmp 18) (.tmp 21) 22 9 (.string ⟨#[]⟩) 16 rfl Tryd.underlying22 info9 rfl (by decide) (by omega) (.slice A0 s.length c0) s a0_1 [.string a0_1] (fun k => k ≠ g) (fun _ => False) (by rfl) (by rfl) rfl (fun _ hk => hk.elim) (fun k hk e => fresh_ne HC4.out hk e) HO4.out HB4.out HS4.out (lim16 HL.out) ?_; intro v5 w5 ho hb hg hat; rw [← HY.out] at ho; obtain ⟨A5, c5, e5⟩ := Kd.R_slice ho; subst e5; have hcg5 : w5.cell? ⟨g, 0, none⟩ = some (.slice A0 s.length c0) := (blk_cell (blk_grown HC4.out hg (Kd.R_ne HO4.out HC4.out (by decide))) 0).trans rfl; have hfg5 := blk_frozen (blk_grown HC4.out hg (Kd.R_ne HO4.out HC4.out (by decide))) 0; have HG5 := Aside0.mk hg; have HO5 := Aside0.mk ho; have HB5 := Aside0.mk hb; clear ho hb hg hat))
        all_goals (go_wp2; go_meet; case rel => exact ⟨k, y, H1, ⟨Nat.le_refl _⟩, ⟨OwnS62.put HC4.out HG0.out HG5.out (Kd.R_ne HO4.out HC4.out (by decide)) HO5.out⟩, ⟨blk_far (blk_grown BK4.out HG5.out (Kd.R_ne HO4.out BK4.out (by decide))) (ne_types BK4.out HC4.out (by decide)) _⟩, ⟨below_set HB5.out HG0.out⟩, ⟨KeepT.put HK4.out HC4.out HO4.out HG5.out⟩⟩)
      · rw [if_neg hl] at h1
        cases h1
    | false =>
      have hc := of_decide_eq_false Hb.out.symm
      have h1 := H.out
      rw [if_neg hc] at h1
      have H1 := Aside0.mk h1
      clear h1 H hc
      go_wp2
      go_meet
      case rel => exact ⟨k, s, H1, ⟨Nat.le_refl _⟩, HI, BK, HB, HK⟩
  case rest =>
    clear HI BK HB HK
    obtain ⟨kq, xs, HA, HJ, HI, BK, HB, HK⟩ := hcut
    have hcy3 : wc.cell? ⟨gb, 3, none⟩ = some (.slice A0_3 l0_3.length c0_3) := (blk_cell BK.out 3).trans rfl
    clear hcz0 hcz1 hcz3 HS H Hb
    go_wp2
    go_loopg [28] kq (fun kr v28 w' => ∃ (x : List ByteArray) (i : Int), v28 = .int .i64 i ∧ Aside0 (shower_term.l0 kr x l0_3 i = some r) ∧ Aside0 (kr ≤ kq) ∧ Aside0 (OwnS62 w0 w' g x) ∧ Aside0 (w'.heap[gb]? = some (.cells #[.int .i64 a0_0, .string a0_1, .int .i64 a0_2, (.slice A0_3 l0_3.length c0_3)] 53 (0, 0))) ∧ Aside0 (Below w0.heap.size w0 w') ∧ Aside0 (KeepT w w'))
    case atStart => exact ⟨xs, 0, rfl, HA, ⟨Nat.le_refl _⟩, HI, BK, HB, HK⟩
    case round =>
      clear HA HI BK HB HK hcy3
      obtain ⟨x, i, rfl, HA, HK1, HI, BK, HB, HK⟩ := hrel
      cases gk with
      | zero => exact absurd HA.out (by simp [shower_term.l0])
      | succ k3 =>
        have H := HA.out
        clear HA
        simp only [shower_term.l0] at H
        by_cases c1 : i < (l0_3.length : Int)
        · rw [if_pos c1] at H
          have c1b : decide (i < (l0_3.length : Int)) = true := decide_eq_true c1
          by_cases c2 : 0 ≤ i
          · rw [if_pos c2] at H
            have c2b : decide (0 ≤ i) = true := decide_eq_true c2
            obtain ⟨t, A1, H⟩ := Option.bind_eq_some_iff.mp H
            have A1 := Aside0.mk A1
            have H := Aside0.mk H
            have HS : Aside0 (w0.heap.size ≤ _) := ⟨HB.out.size⟩
            obtain ⟨ad, A3, c3, e3, hx0, hx1, hx2, hx3, hl3, hi3⟩ := at_T53 HR0_3.out i c2 c1
            cases e3
            replace hx0 := (HB.out.cell (World.block_lt_of_cell? w0 _ hx0)).trans hx0
            replace hx1 := (HB.out.cell (World.block_lt_of_cell? w0 _ hx1)).trans hx1
            replace hx2 := (HB.out.cell (World.block_lt_of_cell? w0 _ hx2)).trans hx2
            replace hx3 := (HB.out.cell (World.block_lt_of_cell? w0 _ hx3)).trans hx3
            have HR3 := Aside0.mk hi3
            have HC3 := Aside0.mk hl3
            clear hi3 hl3
            replace c1 := eq_true c1
            replace c2 := eq_true c2
            go_wp2_with (fail)
            refine (ih k3 (by have := HJ.out; have := HK1.out; omega) g x _ _ _ _ _ _ t w0 _ (HI.out.alloc _) (below_alloc HB.out _) HR3.out HC3.out A1.out).mono ?_
            rintro e w5 ⟨rfl, hI5, hB5, hK5⟩
            have BK5 := Aside0.mk (hK5 gb _ _ (blk_alloc BK.out _) (by decide) (by decide))
            have HI5 := Aside0.mk hI5
            have HB5 := Aside0.mk hB5
            have HK5 := Aside0.mk ((HK.out.alloc _).trans hK5)
            clear hI5 hB5 hK5 HI BK HB HK
            go_wp2_with (fail)
            go_roundg k3
            case measure => have := HK1.out; omega
            case rel => exact ⟨t, wrap64 (i + 1), (by first | rfl | simp), H, ⟨by have := HK1.out; omega⟩, HI5, BK5, HB5, HK5⟩
          · rw [if_neg c2] at H
            cases H
        · rw [if_neg c1] at H
          have c1b : decide (i < (l0_3.length : Int)) = false := decide_eq_false c1
          clear c1
          obtain rfl := Option.some.inj H
          go_wp2
          (first | go_end0 | ((try simp only [Exit.inBlock, Exit.then]); refine bodyPost_ret (results_none rfl _ _ _) rfl ?_))
          exact ⟨rfl, HI.out, HB.out, HK.out⟩

theorem shower_term.mono_l : ∀ k, (∀ y0 y1 y2, LeO (shower_term.l0 k y0 y1 y2) (shower_term.l0 (k + 1) y0 y1 y2)) ∧ (∀ y0 y1 y2 y3 y4, LeO (shower_term.f k y0 y1 y2 y3 y4) (shower_term.f (k + 1) y0 y1 y2 y3 y4))
  | 0 => ⟨fun _ _ _ r h => by simp [shower_term.l0] at h, fun _ _ _ _ _ r h => by simp [shower_term.f] at h⟩
  | k + 1 => by
    obtain ⟨ih0, ih1⟩ := shower_term.mono_l k
    refine ⟨?_, ?_⟩
    · intro y0 y1 y2
      unfold shower_term.l0
      refine LeO.ite (LeO.ite (LeO.bind (ih1 _ _ _ _ _) (fun _ => ih0 _ _ _)) (LeO.none _)) (LeO.refl _)
    · intro y0 y1 y2 y3 y4
      unfold shower_term.f
      refine LeO.ite (LeO.ite (ih0 _ _ _) (LeO.none _)) (ih0 _ _ _)

mutual
def shower_claim.l1 : Nat → List ByteArray → List S30 → Int → Option (List ByteArray)
  | 0, _, _, _ => none
  | k + 1, s, l, i => if i < (l.length : Int) then (if 0 ≤ i then ((shower_claim.f k s ((rd_T30 l i).f0) ((rd_T30 l i).f1) ((rd_T30 l i).f2) ((rd_T30 l i).f3) ((rd_T30 l i).f4)).bind fun t => shower_claim.l1 k t l (wrap64 (i + 1))) else none) else some s
def shower_claim.f : Nat → List ByteArray → Int → ByteArray → ByteArray → List S53 → List S30 → Option (List ByteArray)
  | 0, _, _, _, _, _, _ => none
  | k + 1, s, a0, a1, _, l3, l4 => (if a0 = 3 then (if s.length < 8796093022208 then some (s ++ [a1]) else none) else some s).bind fun x => (shower_term.l0 k x l3 0).bind fun y => shower_claim.l1 k y l4 0
end
theorem shower_claim.mono_l : ∀ k, (∀ y0 y1 y2, LeO (shower_claim.l1 k y0 y1 y2) (shower_claim.l1 (k + 1) y0 y1 y2)) ∧ (∀ y0 y1 y2 y3 y4 y5, LeO (shower_claim.f k y0 y1 y2 y3 y4 y5) (shower_claim.f (k + 1) y0 y1 y2 y3 y4 y5))
  | 0 => ⟨fun _ _ _ r h => by simp [shower_claim.l1] at h, fun _ _ _ _ _ _ r h => by simp [shower_claim.f] at h⟩
  | k + 1 => by
    obtain ⟨ih0, ih1⟩ := shower_claim.mono_l k
    refine ⟨?_, ?_⟩
    · intro y0 y1 y2
      unfold shower_claim.l1
      refine LeO.ite (LeO.ite (LeO.bind (ih1 _ _ _ _ _ _) (fun _ => ih0 _ _ _)) (LeO.none _)) (LeO.refl _)
    · intro y0 y1 y2 y3 y4 y5
      unfold shower_claim.f
      refine LeO.bind (LeO.refl _) (fun _ => LeO.bind ((shower_term.mono_l k).1 _ _ _) (fun _ => ih0 _ _ _))

set_option maxHeartbeats 2000000 in
set_option maxRecDepth 100000 in
theorem shower_claim.calls (k : Nat) : ∀ (g : Nat) (s : List ByteArray) (a0_0 : Int) (a0_1 a0_2 : ByteArray) (A0_3 : Option Addr) (c0_3 : Nat) (l0_3 : List S53) (A0_4 : Option Addr) (c0_4 : Nat) (l0_4 : List S30) (r : List ByteArray) (w0 w : World) (hI : OwnS62 w0 w g s) (hB : Below w0.heap.size w0 w) (hr0_3 : Kd.C k53 w0 A0_3 l0_3.length l0_3) (hc0_3 : l0_3.length ≤ c0_3) (hr0_4 : Kd.C k30 w0 A0_4 l0_4.length l0_4) (hc0_4 : l0_4.length ≤ c0_4) (h : shower_claim.f k s a0_0 a0_1 a0_2 l0_3 l0_4 = some r),
    Calls Tryd.prog 32 #[.pointer (some ⟨g, 0, none⟩), .agg #[.int .i64 a0_0, .string a0_1, .string a0_2, .slice A0_3 l0_3.length c0_3, .slice A0_4 l0_4.length c0_4]] w fun e w' => e = .returned (.tuple #[]) ∧ OwnS62 w0 w' g r ∧ Below w0.heap.size w0 w' ∧ KeepT w w' := by
  induction k using Nat.strongRecOn with
  | _ k ih =>
  intro g s a0_0 a0_1 a0_2 A0_3 c0_3 l0_3 A0_4 c0_4 l0_4 r w0 w hI hB hr0_3 hc0_3 hr0_4 hc0_4 h
  cases k with
  | zero => exact absurd h (by simp [shower_claim.f])
  | succ k =>
  simp only [shower_claim.f] at h
  obtain ⟨x1, h1, h⟩ := Option.bind_eq_some_iff.mp h
  obtain ⟨x2, h2, h3⟩ := Option.bind_eq_some_iff.mp h
  clear h
  have hu30 := Tryd.underlying30
  have hu53 := Tryd.underlying53
  have HR0_3 := Aside0.mk hr0_3
  have HC0_3 := Aside0.mk hc0_3
  have HR0_4 := Aside0.mk hr0_4
  have HC0_4 := Aside0.mk hc0_4
  have HB := Aside0.mk hB
  have HI := Aside0.mk hI
  have HK := Aside0.mk (KeepT.refl w)
  have H := Aside0.mk h1
  have H2 := Aside0.mk h2
  have H3 := Aside0.mk h3
  have HS := Aside0.mk hB.size
  clear hr0_3 hc0_3 hr0_4 hc0_4 hB hI h1 h2 h3
  go_enter Tryd.func32, Tryd.ntmps32
  go_upto_region 1 with (first | ((with_reducible refine gate_dst (N := 3) rfl ?_); refine box_event ?hg (N := 3) ?hd (cs := #[.int .i64 a0_0, .string a0_1, .string a0_2, .slice A0_3 l0_3.length c0_3, .slice A0_4 l0_4.length c0_4]) (t := 30) ?hr ?_; (case hd => rfl); (case hg => rfl); (case hr => first | (go_simp; done) | (go_simp; rfl)); intro gb hg w3 hbox hb; have n0_ := Aside0.mk (below_then HB.out HS.out hb); have n1_ := Aside0.mk hbox; have n2_ := Aside0.mk (HI.out.below hb); have n3_ := Aside0.mk (HK.out.below hb); have n4_ := Aside0.mk (Nat.le_trans HS.out hb.size); clear HB HI HK HS; have HB := n0_; have BK := n1_; have HI := n2_; have HK := n3_; have HS := n4_; clear n0_ n1_ n2_ n3_ n4_ hb hbox hg))
  have hcz0 : w3.cell? ⟨gb, 0, none⟩ = some (.int .i64 a0_0) := (blk_cell BK.out 0).trans rfl
  have hcz1 : w3.cell? ⟨gb, 1, none⟩ = some (.string a0_1) := (blk_cell BK.out 1).trans rfl
  (try simp only [Act.put, List.setIfInBounds_toArray, List.set_cons_zero, List.set_cons_succ])
  go_upto_if 10 with (fail)
  go_cut [] (fun wc => Aside0 (OwnS62 w0 wc g x1) ∧ Aside0 (wc.heap[gb]? = some (.cells #[.int .i64 a0_0, .string a0_1, .string a0_2, (.slice A0_3 l0_3.length c0_3), (.slice A0_4 l0_4.length c0_4)] 30 (0, 0))) ∧ Aside0 (Below w0.heap.size w0 wc) ∧ Aside0 (KeepT w wc))
  case first =>
    by_cases hc : a0_0 = 3
    · have h1 := H.out
      rw [if_pos hc] at h1
      subst hc
      by_cases hl : s.length < 8796093022208
      · rw [if_pos hl] at h1
        have hy := (Option.some.inj h1).symm
        have HY := Aside0.mk hy
        have HL := Aside0.mk hl
        clear h1 H hl hy
        obtain ⟨A0, c0, hb0, hg0, hr0⟩ := HI.out
        have hcg : w3.cell? ⟨g, 0, none⟩ = some (.slice A0 s.length c0) := (blk_cell hb0 0).trans rfl
        have HB0 := Aside0.mk hb0
        have HG0 := Aside0.mk hg0
        have HR0 := Aside0.mk hr0
        clear hb0 hg0 hr0
        go_upto_region 2 with (fail)
        have BK4 : Aside0 (w3.drew.heap[gb]? = _) := BK
        have HB4 : Aside0 (Below w0.heap.size w0 w3.drew) := ⟨below_drew1 HB.out⟩
        have HK4 : Aside0 (KeepT w w3.drew) := ⟨HK.out.drew⟩
        have HS4 : Aside0 (w0.heap.size ≤ w3.drew.heap.size) := HS
        have HO4 : Aside0 (Kd.R Kd.string 9 w3.drew w0.heap.size (fun k => k ≠ g) (.slice A0 s.length c0) s) := ⟨Kd.R_drew HR0.out⟩
        have HC4 : Aside0 (w3.drew.heap[g]? = some (.cells #[.slice A0 s.length c0] 62 (0, 0))) := HB0
        clear BK HB HK HS HR0 HB0 HI hcz0
        have hca : ∀ o, (w3.alloc o).cell? ⟨g, 0, none⟩ = some (.slice A0 s.length c0) := fun o => (blk_cell (blk_alloc HC4.out o) 0).trans rfl
        have hcb : ∀ o, (w3.alloc o).cell? ⟨gb, 1, none⟩ = some (.string a0_1) := fun o => (blk_cell (blk_alloc BK4.out o) 1).trans rfl
        go_region_law ((refine Kd.R_append_step Kd.string (w0 := w0) w0.heap.size (by rfl) (.tmp 15) (.tmp 18) 22 9 (.string ⟨#[]⟩) 16 rfl Tryd.underlying22 info9 rfl (by decide) (by omega) (.slice A0 s.length c0) s a0_1 [.string a0_1] (fun k => k ≠ g) (fun _ => False) (by rfl) (by rfl) rfl (fun _ hk => hk.elim) (fun k hk e => fresh_ne HC4.out hk e) HO4.out HB4.out HS4.out (lim16 HL.out) ?_; intro v5 w5 ho hb hg hat; rw [← HY.out] at ho; obtain ⟨A5, c5, e5⟩ := Kd.R_slice ho; subst e5; have hcg5 : w5.cell? ⟨g, 0, none⟩ = some (.slice A0 s.length c0) := (blk_cell (blk_grown HC4.out hg (Kd.R_ne HO4.out HC4.out (by decide))) 0).trans rfl; have hfg5 := blk_frozen (blk_grown HC4.out hg (Kd.R_ne HO4.out HC4.out (by decide))) 0; have HG5 := Aside0.mk hg; have HO5 := Aside0.mk ho; have HB5 := Aside0.mk hb; clear ho hb hg hat))
        all_goals (go_wp2; go_meet; case rel => exact ⟨⟨OwnS62.put HC4.out HG0.out HG5.out (Kd.R_ne HO4.out HC4.out (by decide)) HO5.out⟩, ⟨blk_far (blk_grown BK4.out HG5.out (Kd.R_ne HO4.out BK4.out (by decide))) (ne_types BK4.out HC4.out (by decide)) _⟩, ⟨below_set HB5.out HG0.out⟩, ⟨KeepT.put HK4.out HC4.out HO4.out HG5.out⟩⟩)
      · rw [if_neg hl] at h1
        cases h1
    · have h1 := H.out
      rw [if_neg hc] at h1
      obtain rfl := Option.some.inj h1
      have hcb0 : (a0_0 == 3) = false := beq_eq_false_iff_ne.mpr hc
      clear h1 H hc
      go_wp2
      go_meet
      case rel => exact ⟨HI, BK, HB, HK⟩
  case rest =>
    clear HI BK HB HK
    obtain ⟨HI, BK, HB, HK⟩ := hcut
    have hcy3 : wc.cell? ⟨gb, 3, none⟩ = some (.slice A0_3 l0_3.length c0_3) := (blk_cell BK.out 3).trans rfl
    clear hcz0 hcz1 HS H
    go_wp2
    go_loopg [25] k (fun kr v25 w' => ∃ (x : List ByteArray) (i : Int), v25 = .int .i64 i ∧ Aside0 (shower_term.l0 kr x l0_3 i = some x2) ∧ Aside0 (OwnS62 w0 w' g x) ∧ Aside0 (w'.heap[gb]? = some (.cells #[.int .i64 a0_0, .string a0_1, .string a0_2, (.slice A0_3 l0_3.length c0_3), (.slice A0_4 l0_4.length c0_4)] 30 (0, 0))) ∧ Aside0 (Below w0.heap.size w0 w') ∧ Aside0 (KeepT w w'))
    case atStart => exact ⟨x1, 0, rfl, H2, HI, BK, HB, HK⟩
    case round =>
      clear H2 HI BK HB HK hcy3
      obtain ⟨x, i, rfl, HA, HI, BK, HB, HK⟩ := hrel
      cases gk with
      | zero => exact absurd HA.out (by simp [shower_term.l0])
      | succ k3 =>
        have H := HA.out
        clear HA
        simp only [shower_term.l0] at H
        by_cases c1 : i < (l0_3.length : Int)
        · rw [if_pos c1] at H
          have c1b : decide (i < (l0_3.length : Int)) = true := decide_eq_true c1
          by_cases c2 : 0 ≤ i
          · rw [if_pos c2] at H
            have c2b : decide (0 ≤ i) = true := decide_eq_true c2
            obtain ⟨t, A1, H⟩ := Option.bind_eq_some_iff.mp H
            have A1 := Aside0.mk A1
            have H := Aside0.mk H
            obtain ⟨ad, A3, c3, e3, hx0, hx1, hx2, hx3, hl3, hi3⟩ := at_T53 HR0_3.out i c2 c1
            cases e3
            replace hx0 := (HB.out.cell (World.block_lt_of_cell? w0 _ hx0)).trans hx0
            replace hx1 := (HB.out.cell (World.block_lt_of_cell? w0 _ hx1)).trans hx1
            replace hx2 := (HB.out.cell (World.block_lt_of_cell? w0 _ hx2)).trans hx2
            replace hx3 := (HB.out.cell (World.block_lt_of_cell? w0 _ hx3)).trans hx3
            have HR3 := Aside0.mk hi3
            have HC3 := Aside0.mk hl3
            clear hi3 hl3
            replace c1 := eq_true c1
            replace c2 := eq_true c2
            go_wp2_with (fail)
            refine (shower_term.calls k3 g x _ _ _ _ _ _ t w0 _ (HI.out.alloc _) (below_alloc HB.out _) HR3.out HC3.out A1.out).mono ?_
            rintro e w5 ⟨rfl, hI5, hB5, hK5⟩
            have BK5 := Aside0.mk (hK5 gb _ _ (blk_alloc BK.out _) (by decide) (by decide))
            have HI5 := Aside0.mk hI5
            have HB5 := Aside0.mk hB5
            have HK5 := Aside0.mk ((HK.out.alloc _).trans hK5)
            clear hI5 hB5 hK5 HI BK HB HK
            go_wp2_with (fail)
            go_roundg k3
            case measure => omega
            case rel => exact ⟨t, wrap64 (i + 1), (by first | rfl | simp), H, HI5, BK5, HB5, HK5⟩
          · rw [if_neg c2] at H
            cases H
        · rw [if_neg c1] at H
          have c1b : decide (i < (l0_3.length : Int)) = false := decide_eq_false c1
          clear c1
          obtain rfl := Option.some.inj H
          have hcy4 : wr.cell? ⟨gb, 4, none⟩ = some (.slice A0_4 l0_4.length c0_4) := (blk_cell BK.out 4).trans rfl
          clear H
          go_wp2
          go_loopg [36] k (fun kr v36 w' => ∃ (x : List ByteArray) (i : Int), v36 = .int .i64 i ∧ Aside0 (shower_claim.l1 kr x l0_4 i = some r) ∧ Aside0 (kr ≤ k) ∧ Aside0 (OwnS62 w0 w' g x) ∧ Aside0 (w'.heap[gb]? = some (.cells #[.int .i64 a0_0, .string a0_1, .string a0_2, (.slice A0_3 l0_3.length c0_3), (.slice A0_4 l0_4.length c0_4)] 30 (0, 0))) ∧ Aside0 (Below w0.heap.size w0 w') ∧ Aside0 (KeepT w w'))
          case atStart => exact ⟨x, 0, rfl, H3, ⟨Nat.le_refl _⟩, HI, BK, HB, HK⟩
          case round =>
            clear H3 HI BK HB HK hcy4
            obtain ⟨x, j, rfl, HA, HK1, HI, BK, HB, HK⟩ := hrel
            cases gk with
            | zero => exact absurd HA.out (by simp [shower_claim.l1])
            | succ k4 =>
              have H := HA.out
              clear HA
              simp only [shower_claim.l1] at H
              by_cases c1 : j < (l0_4.length : Int)
              · rw [if_pos c1] at H
                have c1b : decide (j < (l0_4.length : Int)) = true := decide_eq_true c1
                by_cases c2 : 0 ≤ j
                · rw [if_pos c2] at H
                  have c2b : decide (0 ≤ j) = true := decide_eq_true c2
                  obtain ⟨t, A1, H⟩ := Option.bind_eq_some_iff.mp H
                  have A1 := Aside0.mk A1
                  have H := Aside0.mk H
                  obtain ⟨ad, A3, c3, A4, c4, e3, hx0, hx1, hx2, hx3, hx4, hl3, hi3, hl4, hi4⟩ := at_T30 HR0_4.out j c2 c1
                  cases e3
                  replace hx0 := (HB.out.cell (World.block_lt_of_cell? w0 _ hx0)).trans hx0
                  replace hx1 := (HB.out.cell (World.block_lt_of_cell? w0 _ hx1)).trans hx1
                  replace hx2 := (HB.out.cell (World.block_lt_of_cell? w0 _ hx2)).trans hx2
                  replace hx3 := (HB.out.cell (World.block_lt_of_cell? w0 _ hx3)).trans hx3
                  replace hx4 := (HB.out.cell (World.block_lt_of_cell? w0 _ hx4)).trans hx4
                  have HR3 := Aside0.mk hi3
                  have HC3 := Aside0.mk hl3
                  have HR4 := Aside0.mk hi4
                  have HC4 := Aside0.mk hl4
                  clear hi3 hl3 hi4 hl4
                  replace c1 := eq_true c1
                  replace c2 := eq_true c2
                  go_wp2_with (fail)
                  refine (ih k4 (by have := HK1.out; omega) g x _ _ _ _ _ _ _ _ _ t w0 _ (HI.out.alloc _) (below_alloc HB.out _) HR3.out HC3.out HR4.out HC4.out A1.out).mono ?_
                  rintro e w5 ⟨rfl, hI5, hB5, hK5⟩
                  have BK5 := Aside0.mk (hK5 gb _ _ (blk_alloc BK.out _) (by decide) (by decide))
                  have HI5 := Aside0.mk hI5
                  have HB5 := Aside0.mk hB5
                  have HK5 := Aside0.mk ((HK.out.alloc _).trans hK5)
                  clear hI5 hB5 hK5 HI BK HB HK
                  go_wp2_with (fail)
                  go_roundg k4
                  case measure => have := HK1.out; omega
                  case rel => exact ⟨t, wrap64 (j + 1), (by first | rfl | simp), H, ⟨by have := HK1.out; omega⟩, HI5, BK5, HB5, HK5⟩
                · rw [if_neg c2] at H
                  cases H
              · rw [if_neg c1] at H
                have c1b : decide (j < (l0_4.length : Int)) = false := decide_eq_false c1
                clear c1
                obtain rfl := Option.some.inj H
                go_wp2
                (first | go_end0 | ((try simp only [Exit.inBlock, Exit.then]); refine bodyPost_ret (results_none rfl _ _ _) rfl ?_))
                exact ⟨rfl, HI.out, HB.out, HK.out⟩
end Go.Proofs.YtmlkllbaehegjaaDoor.PAll
