/- show.Claim. -/
import Derived.Test.YtmlkllbaehegjaaDoorOwn
import Derived.Test.YtmlkllbaehegjaaDoorPAllx12
namespace Go.Proofs.YtmlkllbaehegjaaDoor.PAll
open Go.RowKit Go.Proofs.YtmlkllbaehegjaaDoorW.PrintWords Go.Proofs.YtmlkllbaehegjaaDoorW.PrintLast Go.Proofs.YtmlkllbaehegjaaDoorW.PrintMore
open Go.Proofs.YtmlkllbaehegjaaDoor
set_option linter.unusedVariables false
set_option linter.unusedSimpArgs false

def show_Claim.f (k : Nat) (a0_0 : Int) (a0_1 a0_2 : ByteArray) (l0_3 : List S53) (l0_4 : List S30) : Option ByteArray :=
  (shower_claim.f k [] a0_0 a0_1 a0_2 l0_3 l0_4).bind fun t => show_shower_show.f k t a0_0 a0_1 a0_2 l0_3 l0_4 [] 1 true
theorem show_Claim.mono : ∀ a0 a1 a2 a3 a4 k, LeO (show_Claim.f k a0 a1 a2 a3 a4) (show_Claim.f (k + 1) a0 a1 a2 a3 a4) := by
  intro a0 a1 a2 a3 a4 k
  unfold show_Claim.f
  exact LeO.bind ((shower_claim.mono_l k).2 _ _ _ _ _ _) (fun _ => show_shower_show.mono _ _ _ _ _ _ _ _ _ _)

/-- What came in is read past what is made. -/
theorem V_came {α : Type} {d : Kd α} (hd : Kd.Heap d) {w0 W : World} {A : Option Addr} {c e base g : Nat} {xs : List α} (h : d.C w0 A xs.length xs) (hc : xs.length ≤ c) (hb : Below w0.heap.size w0 W) (hg : w0.heap.size ≤ g) :
    Kd.V d e W base (fun k => k < w0.heap.size ∧ k ≠ g) (.slice A xs.length c) xs :=
  Kd.V_mk hc (fun W' hW => hd.C (fun k hlt => (hW k ⟨hlt, by omega⟩ (Nat.lt_of_lt_of_le hlt hb.size)).trans (hb.block k hlt)) h)

set_option maxHeartbeats 2000000 in
set_option maxRecDepth 100000 in
theorem show_Claim.calls (k : Nat) (a0_0 : Int) (a0_1 a0_2 : ByteArray) (A0_3 : Option Addr) (c0_3 : Nat) (l0_3 : List S53) (A0_4 : Option Addr) (c0_4 : Nat) (l0_4 : List S30) (r : ByteArray) (w : World) (hG : Laid w) (hr0_3 : Kd.C k53 w A0_3 l0_3.length l0_3) (hc0_3 : l0_3.length ≤ c0_3) (hr0_4 : Kd.C k30 w A0_4 l0_4.length l0_4) (hc0_4 : l0_4.length ≤ c0_4) (h : show_Claim.f k a0_0 a0_1 a0_2 l0_3 l0_4 = some r) :
    Calls Tryd.prog 14 #[.agg #[.int .i64 a0_0, .string a0_1, .string a0_2, .slice A0_3 l0_3.length c0_3, .slice A0_4 l0_4.length c0_4]] w fun e w' => e = .returned (.string r) ∧ Below w.heap.size w w' := by
  unfold show_Claim.f at h
  obtain ⟨t, h1, h2⟩ := Option.bind_eq_some_iff.mp h
  clear h
  have hu30 := Tryd.underlying30
  have hu62 := Tryd.underlying62
  have HG := Aside0.mk hG
  have HR0_3 := Aside0.mk hr0_3
  have HC0_3 := Aside0.mk hc0_3
  have HR0_4 := Aside0.mk hr0_4
  have HC0_4 := Aside0.mk hc0_4
  have H1 := Aside0.mk h1
  have H2 := Aside0.mk h2
  clear hG hr0_3 hc0_3 hr0_4 hc0_4 h1 h2
  go_enter Tryd.func14, Tryd.ntmps14
  go_upto_region 1 with (first | ((with_reducible refine gate_dst (N := 1) rfl ?_); refine box_event ?hg (N := 1) ?hd (cs := #[.int .i64 a0_0, .string a0_1, .string a0_2, .slice A0_3 l0_3.length c0_3, .slice A0_4 l0_4.length c0_4]) (t := 30) ?hr ?_; (case hd => rfl); (case hg => rfl); (case hr => first | (go_simp; done) | (go_simp; rfl)); intro gb hg w3 hbox hb; have HB := Aside0.mk hb; have BK := Aside0.mk hbox; clear hb hbox hg))
  (try simp only [Act.put, List.setIfInBounds_toArray, List.set_cons_zero, List.set_cons_succ])
  go_upto_region 2 with (first | ((with_reducible refine gate_dst (N := 5) rfl ?_); refine box_event ?hg (N := 5) ?hd (cs := #[.slice none 0 0]) (t := 62) ?hr ?_; (case hd => rfl); (case hg => rfl); (case hr => first | (go_simp; done) | (go_simp; rfl)); intro g hg w4 hbox hb; have BK2 := Aside0.mk (blk_below BK.out hb); have HGG : Aside0 (w.heap.size ≤ g) := ⟨by rw [hg]; exact HB.out.size⟩; have HI : Aside0 (OwnS62 w w4 g []) := ⟨⟨none, 0, hbox, HGG.out, Kd.R_nil _ _ _ _ _⟩⟩; have HB2 := Aside0.mk (below_step HB.out hb); clear hb hbox hg HB BK))
  (try simp only [Act.put, List.setIfInBounds_toArray, List.set_cons_zero, List.set_cons_succ])
  have hz0 : w4.cell? ⟨gb, 0, none⟩ = some (.int .i64 a0_0) := (blk_cell BK2.out 0).trans rfl
  have hz1 : w4.cell? ⟨gb, 1, none⟩ = some (.string a0_1) := (blk_cell BK2.out 1).trans rfl
  have hz2 : w4.cell? ⟨gb, 2, none⟩ = some (.string a0_2) := (blk_cell BK2.out 2).trans rfl
  have hz3 : w4.cell? ⟨gb, 3, none⟩ = some (.slice A0_3 l0_3.length c0_3) := (blk_cell BK2.out 3).trans rfl
  have hz4 : w4.cell? ⟨gb, 4, none⟩ = some (.slice A0_4 l0_4.length c0_4) := (blk_cell BK2.out 4).trans rfl
  go_wp2_with (fail)
  refine (shower_claim.calls k g [] a0_0 a0_1 a0_2 _ _ l0_3 _ _ l0_4 t w _ HI.out HB2.out HR0_3.out HC0_3.out HR0_4.out HC0_4.out H1.out).mono ?_
  rintro e w5 ⟨rfl, hI5, hB5, hK5⟩
  have BK5 := Aside0.mk (hK5 gb _ _ BK2.out (by decide) (by decide))
  have HI5 : Aside0 (IsS62 w5 w5 g t) := ⟨by
    obtain ⟨A0, c0, hb, _, hr⟩ := hI5
    exact ⟨A0, c0, hb, trivial, (Kd.R_reads' hr).2.2⟩⟩
  have HB5 := Aside0.mk hB5
  clear hI5 hB5 hK5 HI BK2 HB2 hz0 hz1 hz2 hz3 hz4
  have hz0 : w5.cell? ⟨gb, 0, none⟩ = some (.int .i64 a0_0) := (blk_cell BK5.out 0).trans rfl
  have hz1 : w5.cell? ⟨gb, 1, none⟩ = some (.string a0_1) := (blk_cell BK5.out 1).trans rfl
  have hz2 : w5.cell? ⟨gb, 2, none⟩ = some (.string a0_2) := (blk_cell BK5.out 2).trans rfl
  have hz3 : w5.cell? ⟨gb, 3, none⟩ = some (.slice A0_3 l0_3.length c0_3) := (blk_cell BK5.out 3).trans rfl
  have hz4 : w5.cell? ⟨gb, 4, none⟩ = some (.slice A0_4 l0_4.length c0_4) := (blk_cell BK5.out 4).trans rfl
  go_wp2_with (fail)
  refine (show_shower_show.calls k g t a0_0 a0_1 a0_2 (fun k => k < w.heap.size) _ _ l0_3 (fun k => k < w.heap.size) _ _ l0_4 none 0 [] 1 true r w5 _ (HG.out.below HB5.out) HI5.out (Below.refl _ _) (V_came k53_heap HR0_3.out HC0_3.out HB5.out HGG.out) (V_came k30_heap HR0_4.out HC0_4.out HB5.out HGG.out) (Kd.C_nil _ _) (Nat.le_refl _) (fun _ h _ => by cases h) H2.out).mono ?_
  rintro e w6 ⟨rfl, _, hb6, _⟩
  have HB6 := Aside0.mk (below_step HB5.out hb6)
  clear hb6
  go_wp2_with (fail)
  go_ret
  exact ⟨rfl, HB6.out⟩
end Go.Proofs.YtmlkllbaehegjaaDoor.PAll
