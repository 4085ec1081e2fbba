/- sequiturlaw14.ShowBrackets is true at every two claims and sign: the tied card. No condition. -/
import Derived.Stop.Joined
import Derived.OpenShut
import Derived.ShutString
import Derived.SevenTiedAt
import Derived.Carry
import Derived.Lib.SmallJoins
import Derived.Test.YtmlkllbaehegjaaDoorShowBrackets19
import Derived.Test.YtmlkllbaehegjaaDoorCards
import Derived.Test.YtmlkllbaehegjaaDoorShowBrackets17
import Derived.Test.YtmlkllbaehegjaaDoorTie
namespace Go.Proofs.YtmlkllbaehegjaaDoor.LawShowBrackets
open Go Go.ChangeShapes Go.WideShapes Go.ChangeAt Go.RowKit
open Go.ChangeMaps (open_string shut_string)
open Go.Proofs.YtmlkllbaehegjaaDoor Go.Proofs.YtmlkllbaehegjaaDoor.Open Go.Proofs.YtmlkllbaehegjaaDoor.PAll
open Go.Proofs.YtmlkllbaehegjaaDoorW.PrintWords (rdOf Kd)
set_option maxRecDepth 100000 in
theorem lifted (os : Os) (started : os.Started) (H : Type) (enc : TypeId × Value → H) :
    ReturnsInHanded {} Tryd.checked os 4 .any (fun w args => (Rows.showBracketsSpec.pre enc Tryd.prog Tryd.f4 [] false w args ∧ laidMetH Tryd.prog listed w) ∧ sizedMet enc Tryd.prog Tryd.f4 (OpenSpec.ofChange Rows.showBracketsSpec) false w args)
      (Rows.showBracketsSpec.post enc Tryd.prog Tryd.f4 false true false false) := by
  refine returnsInHanded_of_change_and (C := Tryd.checked) (X := fun w _ => laidMetH Tryd.prog listed w) (fun _ _ _ hh h => h.of_heap hh) own started (by kernel_rfl) Tryd.func4
    (ChangeSpec.witness_shaped (enc := enc) (C := Tryd.checked) (os := os) (X := fun w _ => laidMetH Tryd.prog listed w) false (World.doorLaid Tryd.prog 4000 os) #[.agg #[.int .i64 0, .string ByteArray.empty, .string ByteArray.empty, .slice none 0 0, .slice none 0 0], .agg #[.int .i64 0, .string ByteArray.empty, .string ByteArray.empty, .slice none 0 0, .slice none 0 0], .int .i64 0] 12 rfl (World.shaped_of_RefB (by kernel_rfl) (by kernel_rfl)) (by kernel_rfl) (by kernel_rfl) (by kernel_rfl) (door_met os _)) ?_
  intro W base args ds gs before hval0 hW _ _ hL _
  have hval : ∀ (j : Nat) t v, Tryd.f4.params[j]? = some t → args[j]? = some v → Value.okWide Tryd.prog W .any base t v := hval0
  have hW' := hW
  obtain ⟨p, q, hA0, hV, rfl, hfz, hnd⟩ := hW
  have hA : DataW.TrodAll enc Tryd.prog W 0 (fun _ => true) true Tryd.f4.params.toList args.toList ds p := hA0
  rw [Tryd.params4] at hA hval
  obtain ⟨v0, vs0, d0, ds0, p0, q0, hargs, rfl, rfl, h0, r0⟩ := trodAll_cons hA
  obtain ⟨v1, vs1, d1, ds1, p1, q1, rfl, rfl, rfl, h1, r1⟩ := trodAll_cons r0
  obtain ⟨v2, vs2, d2, ds2, p2, q2, rfl, rfl, rfl, h2, r2⟩ := trodAll_cons r1
  obtain ⟨rfl, rfl, rfl⟩ := trodAll_nil r2
  obtain rfl : args = #[v0, v1, v2] := by cases args; simp_all
  obtain ⟨rfl, rfl⟩ := trodVars_none hV
  have k0 := h0
  have lt0 : ∀ x ∈ p0, x.block < W.heap.size := by obtain ⟨m, hm⟩ := k0; exact DataW.trod_lt m _ _ _ hm
  have k1 := h1
  have lt1 : ∀ x ∈ p1, x.block < W.heap.size := by obtain ⟨m, hm⟩ := k1; exact DataW.trod_lt m _ _ _ hm
  have k2 := h2
  have lt2 : ∀ x ∈ p2, x.block < W.heap.size := by obtain ⟨m, hm⟩ := k2; exact DataW.trod_lt m _ _ _ hm
  obtain ⟨cs0, rfl, _⟩ := okWide_struct Tryd.underlying30 (hval 0 30 v0 rfl rfl)
  obtain ⟨cs1, rfl, _⟩ := okWide_struct Tryd.underlying30 (hval 1 30 v1 rfl rfl)
  obtain ⟨fuel0, hf0⟩ := h0
  obtain ⟨fuel1, hf1⟩ := h1
  obtain ⟨fuel2, hf2⟩ := h2
  obtain ⟨a, ⟨A3, c3, A4, c4, hcs0, l3, g3, l4, g4⟩, oa⟩ := open30 fuel0 _ _ hf0
  obtain ⟨b, ⟨B3, e3, B4, e4, hcs1, m3, u3, m4, u4⟩, ob⟩ := open30 fuel1 _ _ hf1
  obtain ⟨op, hop, _, _⟩ := DataW.trod_int Tryd.underlying3 hf2
  obtain rfl : cs0 = #[.int .i64 a.f0, .string a.f1, .string a.f2, .slice A3 a.f3.length c3, .slice A4 a.f4.length c4] := by
    cases cs0
    simpa [Value.cells] using hcs0
  obtain rfl : cs1 = #[.int .i64 b.f0, .string b.f1, .string b.f2, .slice B3 b.f3.length e3, .slice B4 b.f4.length e4] := by
    cases cs1
    simpa [Value.cells] using hcs1
  obtain ⟨op2, rfl⟩ := okWide_int Tryd.underlying3 (hval 2 3 v2 rfl rfl)
  obtain rfl : op2 = op := by
    simpa [Value.cells] using hop
  have hG := of_laid hL
  obtain ⟨k, hk⟩ := Ev.get (bracks_law a b op2 oa ob)
  clear hA0 hval0
  refine (sequiturlaw14_ShowBrackets.calls k a.f0 a.f1 a.f2 (fun k => k < W.heap.size) A3 c3 a.f3 (fun k => k < W.heap.size) A4 c4 a.f4 b.f0 b.f1 b.f2 (fun k => k < W.heap.size) B3 e3 b.f3 (fun k => k < W.heap.size) B4 e4 b.f4 op2 true W hG (Kd.V_mk l3 (Kd.C_F k53_heap g3)) (Kd.V_mk l4 (Kd.C_F k30_heap g4)) (Kd.V_mk m3 (Kd.C_F k53_heap u3)) (Kd.V_mk m4 (Kd.C_F k30_heap u4)) hk).mono fun e W' ⟨he, bel⟩ => ?_
  subst he
  exact ⟨_, rfl, _, _, _, [], _, [], hW', trodAll_mk1 (shut_bool Tryd.underlying4 _), (trodAll_cons_mk (Below.trod laidOut (by kernel_rfl) (of_decide_eq_true (by kernel_rfl)) k0 bel lt0) (trodAll_cons_mk (Below.trod laidOut (by kernel_rfl) (of_decide_eq_true (by kernel_rfl)) k1 bel lt1) (trodAll_cons_mk (Below.trod laidOut (by kernel_rfl) (of_decide_eq_true (by kernel_rfl)) k2 bel lt2) trodAll_mk0))), rfl, bel.frame _, fun h => by cases h⟩
theorem row : Rows.ShowBracketsSaid :=
  OpenClaim.holds_of_wide 4 Tryd.f4 rfl rfl rfl rfl rfl rfl rfl ⟨rfl, rfl, rfl, rfl, rfl⟩ rfl rfl rfl rfl rfl (by kernel_rfl) Tryd.func4 (by kernel_rfl)
    (of_decide_eq_true (by kernel_rfl)) (by unfold Func.isWrapper; first | (rw [if_pos (by decide +kernel)]; kernel_rfl) | (rw [if_neg (by decide +kernel)]; exact ⟨rfl, rfl⟩))
    (fun os started H enc _ => lifted os started H enc)
/-! ### The card -/
theorem card : Rows.ShowBracketsCardSaid :=
  Claim7.holds_tied_plain_at .later [] [.data, .data, .data, .listed, .data, .mapped, .mapped] true (true, "7945599371ea7142b6391e73749a653138eaa0377a2022c54cece620621d3792") false
    row (fun _ h => by cases h) (by kernel_rfl) (fun _ h => by cases h) showBrackets_row_tie rfl ⟨rfl, rfl⟩ (by kernel_rfl) rfl
    (fun f fn hf hfn => by
      obtain rfl : f = 4 := Option.some.inj ((show Tryd.prog.funcNamed "sequitur/sequiturlaw14.ShowBrackets" = some 4 by kernel_rfl).symm.trans hf) |>.symm
      obtain rfl : fn = Tryd.f4 := (Option.some.inj (Tryd.func4.symm.trans hfn)).symm
      exact ⟨by kernel_rfl, fun j t ht => by
        rw [Tryd.params4] at ht
        have hm : t ∈ [30, 30, 3] := by simpa using Array.mem_of_getElem? ht
        have hall : ([30, 30, 3].all fun u => !Tryd.prog.wantsStandIn u) = true := by kernel_rfl
        exact (show Tryd.prog.wantsStandIn t = false by simpa using List.all_eq_true.1 hall t hm)⟩)
    (by kernel_rfl)
#print axioms card
end Go.Proofs.YtmlkllbaehegjaaDoor.LawShowBrackets
namespace Go.Proofs.YtmlkllbaehegjaaDoor
/-- The card, under a short name, for the claim. -/
theorem showBrackets_card : Rows.ShowBracketsCardSaid := LawShowBrackets.card
end Go.Proofs.YtmlkllbaehegjaaDoor
