/- sequiturlaw14.ShowFresh is true at every base and every list of names: the tied card. No condition. -/
import Derived.Test.YtmlkllbaehegjaaDoorOpen
import Derived.Test.YtmlkllbaehegjaaDoorEv
import Derived.Test.YtmlkllbaehegjaaDoorTie
import Derived.Test.YtmlkllbaehegjaaDoorCards
import Derived.Test.YtmlkllbaehegjaaDoorPAllx18
import Derived.Stop.Joined
import Derived.OpenShut
import Derived.ShutString
import Derived.SevenTiedAt
import Derived.Carry
namespace Go.Proofs.YtmlkllbaehegjaaDoor.LawShowFresh
open Go Go.ChangeShapes Go.WideShapes Go.ChangeAt Go.RowKit
open Go.ChangeMaps (open_string shut_string)
open Go.Proofs.YtmlkllbaehegjaaDoor Go.Proofs.YtmlkllbaehegjaaDoor.Open Go.Proofs.YtmlkllbaehegjaaDoor.PAll
open Go.Proofs.YtmlkllbaehegjaaDoorW.PrintWords (rdOf)

/-! ### The plain law -/
theorem loop_ev (base : ByteArray) (l : List ByteArray) (hb : base.size ≤ 100) (hl : l.length ≤ 60) : ∀ (m i : Nat), i + m = l.length → Ev (fun k => sequiturlaw14_ShowFresh.l0 k base l l (l.length : Int) (i : Int)) true
  | 0, i, h => by
    refine Ev.step ?_
    simp only [sequiturlaw14_ShowFresh.l0]
    refine Ev.neg (by omega) ?_
    obtain ⟨s, h1, h2, h3, h4, _⟩ := fresh_both base l (by omega) (by omega)
    refine Ev.bind h1 (Ev.bind h2 (Ev.pos (by simp) (Ev.bind (has_ev l s (by omega)) ?_)))
    refine Ev.neg (by simp [h3]) (Ev.bind (has_ev l base (by omega)) ?_)
    by_cases hm : base ∈ l
    · exact Ev.pos (by simp [hm]) (Ev.const true)
    · exact Ev.neg (by simp [hm]) (Ev.pos (by rw [h4 hm]) (Ev.const true))
  | m + 1, i, h => by
    refine Ev.step ?_
    simp only [sequiturlaw14_ShowFresh.l0]
    refine Ev.pos (by omega) (Ev.pos (by omega) (Ev.pos (by omega) ?_))
    by_cases hs : ((rdOf ByteArray.empty l (i : Int)).size : Int) > 100
    · exact Ev.pos hs (Ev.const true)
    · refine Ev.neg hs ?_
      rw [wrap64_succ (by omega) (by omega)]
      exact loop_ev base l hb hl m (i + 1) (by omega)
theorem pure (base : ByteArray) (l : List ByteArray) : ∃ k, sequiturlaw14_ShowFresh.f k base l = some true := by
  refine Ev.get (F := fun k => sequiturlaw14_ShowFresh.f k base l) ?_
  simp only [sequiturlaw14_ShowFresh.f]
  by_cases hb : (base.size : Int) > 100
  · refine Ev.pos hb (Ev.step ?_)
    simp only [sequiturlaw14_ShowFresh.j0]
    exact Ev.pos (by simp) (Ev.const true)
  · refine Ev.neg hb (Ev.step ?_)
    simp only [sequiturlaw14_ShowFresh.j0]
    by_cases hl : (l.length : Int) > 60
    · exact Ev.pos (decide_eq_true hl) (Ev.const true)
    · refine Ev.neg (by simpa using hl) ?_
      exact loop_ev base l (by omega) (by omega) l.length 0 (by omega)

/-! ### The row -/
set_option maxRecDepth 100000 in
theorem lifted (os : Os) (started : os.Started) (H : Type) (enc : TypeId × Value → H) :
    ReturnsInHanded {} Tryd.checked os 3 .any (fun w args => (Rows.showFreshSpec.pre enc Tryd.prog Tryd.f3 [] false w args ∧ laidMetH Tryd.prog listed w) ∧ sizedMet enc Tryd.prog Tryd.f3 (OpenSpec.ofChange Rows.showFreshSpec) false w args)
      (Rows.showFreshSpec.post enc Tryd.prog Tryd.f3 false true false false) := by
  refine returnsInHanded_of_change_and (C := Tryd.checked) (X := fun w _ => laidMetH Tryd.prog listed w) (fun _ _ _ hh h => h.of_heap hh) own started (by kernel_rfl) Tryd.func3
    (ChangeSpec.witness_shaped (enc := enc) (C := Tryd.checked) (os := os) (X := fun w _ => laidMetH Tryd.prog listed w) false (World.doorLaid Tryd.prog 4000 os) #[.string ByteArray.empty, .slice none 0 0] 8 rfl (World.shaped_of_RefB (by kernel_rfl) (by kernel_rfl)) (by kernel_rfl) (by kernel_rfl) (by kernel_rfl) (door_met os _)) ?_
  intro W base args ds gs before hval0 hW _ _ hL _
  have hval : ∀ (j : Nat) t v, Tryd.f3.params[j]? = some t → args[j]? = some v → Value.okWide Tryd.prog W .any base t v := hval0
  have hW' := hW
  obtain ⟨p, q, hA0, hV, rfl, hfz, hnd⟩ := hW
  have hA : DataW.TrodAll enc Tryd.prog W 0 (fun _ => true) true Tryd.f3.params.toList args.toList ds p := hA0
  rw [Tryd.params3] at hA hval
  obtain ⟨v0, vs0, d0, ds0, p0, q0, hargs, rfl, rfl, h0, r0⟩ := trodAll_cons hA
  obtain ⟨v1, vs1, d1, ds1, p1, q1, rfl, rfl, rfl, h1, r1⟩ := trodAll_cons r0
  obtain ⟨rfl, rfl, rfl⟩ := trodAll_nil r1
  obtain rfl : args = #[v0, v1] := by cases args; simp_all
  obtain ⟨rfl, rfl⟩ := trodVars_none hV
  obtain ⟨a0, rfl, rfl, rfl, y0⟩ := open_string Tryd.underlying9 (hval 0 9 v0 rfl rfl) h0
  obtain ⟨a1, len1, cap1, rfl⟩ := okWide_slice Tryd.underlying22 (hval 1 22 v1 rfl rfl)
  have k1 := h1
  have lt1 : ∀ x ∈ p1, x.block < W.heap.size := by obtain ⟨m, hm⟩ := k1; exact DataW.trod_lt m _ _ _ hm
  obtain ⟨A, c, xs, hcs, hc, hr⟩ := open_strs h1
  obtain ⟨rfl, rfl, rfl⟩ : a1 = A ∧ len1 = xs.length ∧ cap1 = c := by
    simp [Value.cells] at hcs
    exact hcs
  have hG := of_laid hL
  obtain ⟨k, hk⟩ := pure a0 xs
  clear hA0 hval0
  refine (sequiturlaw14_ShowFresh.calls k a0 a1 cap1 xs true W hG hr hc hk).mono fun e W' ⟨he, bel⟩ => ?_
  subst he
  exact ⟨_, rfl, _, _, _, [], _, [], hW', trodAll_mk1 (shut_bool Tryd.underlying4 _), (trodAll_cons_mk (shut_string Tryd.underlying9 y0) (trodAll_cons_mk (Below.trod laidOut (by kernel_rfl) (of_decide_eq_true (by kernel_rfl)) k1 bel lt1) trodAll_mk0)), rfl, bel.frame _, fun h => by cases h⟩

theorem row : Rows.ShowFreshSaid :=
  OpenClaim.holds_of_wide 3 Tryd.f3 rfl rfl rfl rfl rfl rfl rfl ⟨rfl, rfl, rfl, rfl, rfl⟩ rfl rfl rfl rfl rfl (by kernel_rfl) Tryd.func3 (by kernel_rfl)
    (of_decide_eq_true (by kernel_rfl)) (by unfold Func.isWrapper; first | (rw [if_pos (by decide +kernel)]; kernel_rfl) | (rw [if_neg (by decide +kernel)]; exact ⟨rfl, rfl⟩))
    (fun os started H enc _ => lifted os started H enc)

/-! ### The card -/
theorem card : Rows.ShowFreshCardSaid :=
  Claim7.holds_tied_plain_at .later [] [.data, .data, .data, .listed, .data, .mapped, .mapped] true (true, "7945599371ea7142b6391e73749a653138eaa0377a2022c54cece620621d3792") false
    row (fun _ h => by cases h) (by kernel_rfl) (fun _ h => by cases h) showFresh_row_tie rfl ⟨rfl, rfl⟩ (by kernel_rfl) rfl
    (fun f fn hf hfn => by
      obtain rfl : f = 3 := Option.some.inj ((show Tryd.prog.funcNamed "sequitur/sequiturlaw14.ShowFresh" = some 3 by kernel_rfl).symm.trans hf) |>.symm
      obtain rfl : fn = Tryd.f3 := (Option.some.inj (Tryd.func3.symm.trans hfn)).symm
      exact ⟨by kernel_rfl, fun j t ht => by
        rw [Tryd.params3] at ht
        have hm : t ∈ [9, 22] := by simpa using Array.mem_of_getElem? ht
        have hall : ([9, 22].all fun u => !Tryd.prog.wantsStandIn u) = true := by kernel_rfl
        exact (show Tryd.prog.wantsStandIn t = false by simpa using List.all_eq_true.1 hall t hm)⟩)
    (by kernel_rfl)
#print axioms card
end Go.Proofs.YtmlkllbaehegjaaDoor.LawShowFresh
namespace Go.Proofs.YtmlkllbaehegjaaDoor
/-- The card, under a short name, for the claim. -/
theorem showFresh_card : Rows.ShowFreshCardSaid := LawShowFresh.card
end Go.Proofs.YtmlkllbaehegjaaDoor
