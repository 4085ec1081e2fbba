/- sequiturlaw14.ShowFuns is true at every function: the tied card. No condition. -/
import Derived.Test.YtmlkllbaehegjaaDoorOpen
import Derived.Test.YtmlkllbaehegjaaDoorEv
import Derived.Test.YtmlkllbaehegjaaDoorTie
import Derived.Test.YtmlkllbaehegjaaDoorCards
import Derived.Test.YtmlkllbaehegjaaDoorPAllx57
import Derived.Stop.Joined
import Derived.OpenShut
import Derived.ShutString
import Derived.SevenTiedAt
import Derived.Carry
import Derived.Lib.Join
import Derived.Lib.SmallJoins
namespace Go.Proofs.YtmlkllbaehegjaaDoor.LawShowFuns
open Go Go.ChangeShapes Go.WideShapes Go.ChangeAt Go.RowKit
open Go.ChangeMaps (open_string shut_string)
open Go.Proofs.YtmlkllbaehegjaaDoor Go.Proofs.YtmlkllbaehegjaaDoor.Open Go.Proofs.YtmlkllbaehegjaaDoor.PAll
open Go.Proofs.YtmlkllbaehegjaaDoorW.PrintWords (rdOf Kd)

/-! ### The plain law -/
theorem join_snoc (xs : List (List UInt8)) (x sep : List UInt8) : Lib.join (xs ++ [x]) sep = if xs = [] then x else Lib.join xs sep ++ sep ++ x := by
  cases xs with
  | nil => simp [Lib.join_one]
  | cons y r => simp [Lib.join_cons, Lib.joinTail]
def joinB (l : List ByteArray) : ByteArray := ⟨(Lib.join (l.map (·.data.toList)) [44, 32]).toArray⟩
theorem joinB_snoc (l : List ByteArray) (s : ByteArray) : joinB (l ++ [s]) = if l = [] then s else (joinB l ++ ⟨#[44, 32]⟩) ++ s := by
  apply bytes_inj
  unfold joinB
  rw [List.map_append, List.map_cons, List.map_nil, join_snoc]
  by_cases h : l = []
  · simp [h]
  · simp [h, ByteArray.data_append]
theorem joinTail_len : ∀ (r : List (List UInt8)) (_ : ∀ s ∈ r, s.length ≤ 100), (Lib.joinTail [44, 32] r).length ≤ 102 * r.length
  | [], _ => by simp [Lib.joinTail]
  | x :: r, h => by
    have h1 := joinTail_len r (fun s hs => h s (by simp [hs]))
    have h2 := h x (by simp)
    simp only [Lib.joinTail, List.map_cons, List.flatten_cons, List.length_append, List.length_cons, List.length_nil] at h1 ⊢
    omega
theorem joinB_size (l : List ByteArray) (h : ∀ s ∈ l, s.size ≤ 100) : (joinB l).size ≤ 102 * l.length := by
  cases l with
  | nil => exact Nat.le_refl 0
  | cons x r =>
    have h1 := joinTail_len (r.map (·.data.toList)) (fun s hs => by
      obtain ⟨y, hy, rfl⟩ := List.mem_map.1 hs
      have := h y (by simp [hy])
      show y.data.toList.length ≤ 100
      rw [Array.length_toList]
      exact this)
    have h2 := h x (by simp)
    have e : (joinB (x :: r)).size = x.size + (Lib.joinTail [44, 32] (r.map (·.data.toList))).length := by
      unfold joinB
      rw [List.map_cons, Lib.join_cons]
      show (x.data.toList ++ Lib.joinTail [44, 32] (r.map (·.data.toList))).toArray.size = _
      rw [List.size_toArray, List.length_append, Array.length_toList]
      rfl
    rw [e, List.length_cons]
    rw [List.length_map] at h1
    omega
def funT (name : ByteArray) (l : List ByteArray) (res : ByteArray) : ByteArray :=
  if res.toList = ([66, 111, 111, 108] : List UInt8) then (if l.length = 0 then (⟨#[112, 114, 101, 100, 32]⟩ : ByteArray) ++ name else (((⟨#[112, 114, 101, 100, 32]⟩ : ByteArray) ++ name) ++ (⟨#[58, 32]⟩ : ByteArray)) ++ joinB l)
  else if l.length = 0 then (((⟨#[102, 117, 110, 32]⟩ : ByteArray) ++ name) ++ (⟨#[58, 32]⟩ : ByteArray)) ++ res
  else (((((⟨#[102, 117, 110, 32]⟩ : ByteArray) ++ name) ++ (⟨#[58, 32]⟩ : ByteArray)) ++ joinB l) ++ (⟨#[32, 45, 62, 32]⟩ : ByteArray)) ++ res
theorem join_eq (l : List ByteArray) (hn : l.length ≤ 20) (hs : ∀ s ∈ l, s.size ≤ 100) : strings_Join.f l (⟨#[44, 32]⟩ : ByteArray) = some (joinB l) := by
  have h1 := joinB_size l hs
  unfold strings_Join.f
  have e : (Lib.join (l.map (·.data.toList)) (⟨#[44, 32]⟩ : ByteArray).data.toList).length = (joinB l).size := by simp [joinB, ByteArray.size]
  rw [if_pos (by rw [e]; omega)]
  rfl
theorem s2 : (⟨#[44, 32]⟩ : ByteArray).size = 2 := rfl
theorem s2c : (⟨#[58, 32]⟩ : ByteArray).size = 2 := rfl
theorem s5 : (⟨#[112, 114, 101, 100, 32]⟩ : ByteArray).size = 5 := rfl
theorem s4 : (⟨#[102, 117, 110, 32]⟩ : ByteArray).size = 4 := rfl
theorem s4a : (⟨#[32, 45, 62, 32]⟩ : ByteArray).size = 4 := rfl
theorem show_j0 (name : ByteArray) (l : List ByteArray) (res : ByteArray) (hname : name.size ≤ 100) (hres : res.size ≤ 100) (hJ : (joinB l).size ≤ 2040) (b : Bool) (hb : b = (decide (res.toList = ([66, 111, 111, 108] : List UInt8)) && decide (l.length = 0))) :
    Ev (fun k => show_Fun.j0 k (joinB l) b name l res) (funT name l res) := by
  refine Ev.step ?_
  simp only [show_Fun.j0]
  unfold funT
  by_cases hr : res.toList = ([66, 111, 111, 108] : List UInt8)
  · by_cases hz : l.length = 0
    · refine Ev.pos (by simp [hb, hr, hz]) ?_
      rw [if_pos hr, if_pos hz]
      exact Ev.pos (by omega) (Ev.const _)
    · refine Ev.neg (by simp [hb, hz]) (Ev.pos hr ?_)
      rw [if_pos hr, if_neg hz]
      exact Ev.pos (by omega) (Ev.pos (by simp only [ByteArray.size_append, s5]; omega) (Ev.pos (by simp only [ByteArray.size_append, s5, s2c]; omega) (Ev.const _)))
  · refine Ev.neg (by simp [hb, hr]) (Ev.neg hr ?_)
    rw [if_neg hr]
    by_cases hz : l.length = 0
    · refine Ev.pos (by omega) ?_
      rw [if_pos hz]
      exact Ev.pos (by omega) (Ev.pos (by simp only [ByteArray.size_append, s4]; omega) (Ev.pos (by simp only [ByteArray.size_append, s4, s2c]; omega) (Ev.const _)))
    · refine Ev.neg (by omega) ?_
      rw [if_neg hz]
      exact Ev.pos (by omega) (Ev.pos (by simp only [ByteArray.size_append, s4]; omega) (Ev.pos (by simp only [ByteArray.size_append, s4, s2c]; omega) (Ev.pos (by simp only [ByteArray.size_append, s4, s2c]; omega) (Ev.pos (by simp only [ByteArray.size_append, s4, s2c, s4a]; omega) (Ev.const _)))))
theorem show_ev (name : ByteArray) (l : List ByteArray) (res : ByteArray) (hname : name.size ≤ 100) (hres : res.size ≤ 100) (hn : l.length ≤ 20) (hs : ∀ s ∈ l, s.size ≤ 100) :
    Ev (fun k => show_Fun.f k name l res) (funT name l res) := by
  have hJ := joinB_size l hs
  simp only [show_Fun.f]
  refine Ev.bind (Ev.of_eq (join_eq l hn hs)) ?_
  have key : ∀ b : Bool, b = (decide (res.toList = ([66, 111, 111, 108] : List UInt8)) && decide (l.length = 0)) → Ev (fun k => show_Fun.j0 k (joinB l) b name l res) (funT name l res) := fun b hb => show_j0 name l res hname hres (by omega) b hb
  by_cases hr : res.toList = ([66, 111, 111, 108] : List UInt8)
  · refine Ev.pos hr ?_
    by_cases he : (joinB l).toList = ([] : List UInt8)
    · refine Ev.pos he (key _ ?_)
      rw [decide_eq_true hr, Bool.true_and]
      by_cases hz : l.length = 0
      · simp [hz]
      · simp [hz]
    · refine Ev.neg he (key _ ?_)
      have hz : ¬ l.length = 0 := by
        intro e
        obtain rfl := List.eq_nil_of_length_eq_zero e
        exact he (by rw [ByteArray.toList_eq]; simp [joinB, Lib.join_nil])
      simp [hz]
  · refine Ev.neg hr (key _ ?_)
    simp [hr]
theorem take_snoc {l : List ByteArray} {i : Nat} (hi : i < l.length) : l.take (i + 1) = l.take i ++ [l[i]] := by rw [List.take_succ_eq_append_getElem hi]
theorem ref_l0 (name : ByteArray) (l : List ByteArray) (res : ByteArray) (hname : name.size ≤ 100) (hres : res.size ≤ 100) (hn : l.length ≤ 20) (hs : ∀ s ∈ l, s.size ≤ 100) : ∀ (m i : Nat), i + m = l.length →
    Ev (fun k => sequiturref14_Fun.l0 k (joinB (l.take i)) (i : Int) name l res) (funT name l res)
  | 0, i, h => by
    have hJ := joinB_size l hs
    refine Ev.step ?_
    simp only [sequiturref14_Fun.l0]
    refine Ev.neg (by omega) ?_
    rw [List.take_of_length_le (by omega)]
    unfold funT
    by_cases hr : res.toList = ([66, 111, 111, 108] : List UInt8)
    · refine Ev.pos hr ?_
      rw [if_pos hr]
      by_cases hz : l.length = 0
      · refine Ev.pos (by omega) ?_
        rw [if_pos hz]
        exact Ev.pos (by omega) (Ev.const _)
      · refine Ev.neg (by omega) ?_
        rw [if_neg hz]
        exact Ev.pos (by omega) (Ev.pos (by simp only [ByteArray.size_append, s5]; omega) (Ev.pos (by simp only [ByteArray.size_append, s5, s2c]; omega) (Ev.const _)))
    · refine Ev.neg hr ?_
      rw [if_neg hr]
      by_cases hz : l.length = 0
      · refine Ev.neg (by omega) ?_
        rw [if_pos hz]
        obtain rfl := List.eq_nil_of_length_eq_zero hz
        have ej : joinB [] = (⟨#[]⟩ : ByteArray) := rfl
        rw [ej]
        have e0 : (⟨#[]⟩ : ByteArray).size = 0 := rfl
        refine Ev.pos (by omega) (Ev.pos (by simp only [ByteArray.size_append, s4]; omega) (Ev.pos (by simp only [ByteArray.size_append, s4, s2c, e0]; omega) (Ev.pos (by simp only [ByteArray.size_append, s4, s2c, e0]; omega) ((Ev.const _).eq ?_))))
        apply bytes_inj
        simp [ByteArray.data_append]
      · refine Ev.pos (by omega) ?_
        rw [if_neg hz]
        refine Ev.pos (by omega) (Ev.pos (by omega) (Ev.pos (by simp only [ByteArray.size_append, s4]; omega) (Ev.pos (by simp only [ByteArray.size_append, s4, s2c, s4a]; omega) (Ev.pos (by simp only [ByteArray.size_append, s4, s2c, s4a]; omega) ((Ev.const _).eq ?_)))))
        apply bytes_inj
        simp [ByteArray.data_append]
  | m + 1, i, h => by
    have hi : i < l.length := by omega
    have h1 := joinB_size (l.take i) (fun s hx => hs s (List.mem_of_mem_take hx))
    rw [List.length_take, Nat.min_eq_left (by omega)] at h1
    have h2 := hs l[i] (List.getElem_mem hi)
    have h3 := ref_l0 name l res hname hres hn hs m (i + 1) (by omega)
    rw [take_snoc hi, joinB_snoc] at h3
    refine Ev.step ?_
    simp only [sequiturref14_Fun.l0]
    refine Ev.pos (by omega) ?_
    rw [rdOf_nat _ _ _ hi, wrap64_succ (by omega) (by omega)]
    by_cases hz : i = 0
    · subst hz
      refine Ev.neg (by omega) (Ev.pos (by omega) (Ev.pos (by omega) ?_))
      rw [if_pos (by simp)] at h3
      have ej : joinB (l.take 0) = (⟨#[]⟩ : ByteArray) := rfl
      rw [ej]
      have e0 : (⟨#[]⟩ : ByteArray) ++ l[0] = l[0] := by apply bytes_inj; simp [ByteArray.data_append]
      rw [e0]
      exact h3
    · refine Ev.pos (by omega) (Ev.pos (by omega) (Ev.pos (by omega) (Ev.pos (by simp only [ByteArray.size_append, s2]; omega) ?_)))
      rw [if_neg (by intro e; have h9 : (l.take i).length = 0 := by rw [e]; rfl
                     rw [List.length_take] at h9; omega)] at h3
      exact h3
theorem loop_ev (name : ByteArray) (l : List ByteArray) (res : ByteArray) (hname : name.size ≤ 100) (hres : res.size ≤ 100) (hn : l.length ≤ 20) : ∀ (m i : Nat), i + m = l.length → (∀ j (hj : j < l.length), j < i → l[j].size ≤ 100) →
    Ev (fun k => sequiturlaw14_ShowFuns.l0 k l (l.length : Int) (i : Int) name l res) true
  | 0, i, h, hs => by
    have hs' : ∀ s ∈ l, s.size ≤ 100 := by
      intro s hm
      obtain ⟨j, hj, rfl⟩ := List.mem_iff_getElem.1 hm
      exact hs j hj (by omega)
    refine Ev.step ?_
    simp only [sequiturlaw14_ShowFuns.l0]
    refine Ev.neg (by omega) (Ev.bind (show_ev name l res hname hres hn hs') ?_)
    refine Ev.bind (F := fun k => sequiturref14_Fun.f k name l res) (a := funT name l res) ?_ ?_
    · exact ref_l0 name l res hname hres hn hs' l.length 0 (by omega)
    · exact Ev.pos rfl (Ev.const true)
  | m + 1, i, h, hs => by
    have hi : i < l.length := by omega
    refine Ev.step ?_
    simp only [sequiturlaw14_ShowFuns.l0]
    refine Ev.pos (by omega) (Ev.pos (by omega) (Ev.pos (by omega) ?_))
    by_cases hz : ((rdOf ByteArray.empty l (i : Int)).size : Int) > 100
    · exact Ev.pos hz (Ev.const true)
    · refine Ev.neg hz ?_
      rw [wrap64_succ (by omega) (by omega)]
      rw [rdOf_nat _ _ _ hi] at hz
      refine loop_ev name l res hname hres hn m (i + 1) (by omega) (fun j hj hlt => ?_)
      by_cases e : j = i
      · subst e
        omega
      · exact hs j hj (by omega)
theorem pure (name : ByteArray) (l : List ByteArray) (res : ByteArray) : ∃ k, sequiturlaw14_ShowFuns.f k name l res = some true := by
  refine Ev.get (F := fun k => sequiturlaw14_ShowFuns.f k name l res) ?_
  simp only [sequiturlaw14_ShowFuns.f]
  have yes : Ev (fun k => sequiturlaw14_ShowFuns.j0 k true name l res) true := by
    refine Ev.step ?_
    simp only [sequiturlaw14_ShowFuns.j0]
    exact Ev.pos (by simp) (Ev.const true)
  by_cases hl : (l.length : Int) > 20
  · exact Ev.pos hl yes
  · refine Ev.neg hl ?_
    by_cases hn : (name.size : Int) > 100
    · exact Ev.pos hn yes
    · refine Ev.neg hn ?_
      by_cases hr : (res.size : Int) > 100
      · rw [decide_eq_true hr]
        exact yes
      · rw [decide_eq_false hr]
        refine Ev.step ?_
        simp only [sequiturlaw14_ShowFuns.j0]
        refine Ev.neg (by simp) ?_
        exact loop_ev name l res (by omega) (by omega) (by omega) l.length 0 (by omega) (fun j _ h => by omega)

/-! ### The row -/
set_option maxRecDepth 100000 in
theorem lifted (os : Os) (started : os.Started) (H : Type) (enc : TypeId × Value → H) :
    ReturnsInHanded {} Tryd.checked os 6 .any (fun w args => (Rows.showFunsSpec.pre enc Tryd.prog Tryd.f6 [] false w args ∧ laidMetH Tryd.prog listed w) ∧ sizedMet enc Tryd.prog Tryd.f6 (OpenSpec.ofChange Rows.showFunsSpec) false w args)
      (Rows.showFunsSpec.post enc Tryd.prog Tryd.f6 false true false false) := by
  refine returnsInHanded_of_change_and (C := Tryd.checked) (X := fun w _ => laidMetH Tryd.prog listed w) (fun _ _ _ hh h => h.of_heap hh) own started (by kernel_rfl) Tryd.func6
    (ChangeSpec.witness_shaped (enc := enc) (C := Tryd.checked) (os := os) (X := fun w _ => laidMetH Tryd.prog listed w) false (World.doorLaid Tryd.prog 4000 os) #[.agg #[.string ByteArray.empty, .slice none 0 0, .string ByteArray.empty]] 8 rfl (World.shaped_of_RefB (by kernel_rfl) (by kernel_rfl)) (by kernel_rfl) (by kernel_rfl) (by kernel_rfl) (door_met os _)) ?_
  intro W base args ds gs before hval0 hW _ _ hL _
  have hval : ∀ (j : Nat) t v, Tryd.f6.params[j]? = some t → args[j]? = some v → Value.okWide Tryd.prog W .any base t v := hval0
  have hW' := hW
  obtain ⟨p, q, hA0, hV, rfl, hfz, hnd⟩ := hW
  have hA : DataW.TrodAll enc Tryd.prog W 0 (fun _ => true) true Tryd.f6.params.toList args.toList ds p := hA0
  rw [Tryd.params6] at hA hval
  obtain ⟨v0, vs0, d0, ds0, p0, q0, hargs, rfl, rfl, h0, r0⟩ := trodAll_cons hA
  obtain ⟨rfl, rfl, rfl⟩ := trodAll_nil r0
  obtain rfl : args = #[v0] := by cases args; simp_all
  obtain ⟨rfl, rfl⟩ := trodVars_none hV
  have k0 := h0
  have lt0 : ∀ x ∈ p0, x.block < W.heap.size := by obtain ⟨m, hm⟩ := k0; exact DataW.trod_lt m _ _ _ hm
  obtain ⟨u0, u1, u2, y0, y1, y2, n, rfl, _, _, e0, e1, e2⟩ := Joins.open_agg3 Tryd.underlying49 (by kernel_rfl) (by kernel_rfl) (hval 0 49 v0 rfl rfl) h0
  obtain ⟨name, hn, _, _⟩ := DataW.trod_string Tryd.underlying9 e0
  obtain ⟨res, hr, _, _⟩ := DataW.trod_string Tryd.underlying9 e2
  obtain ⟨A, c, xs, hx, hc, hC⟩ := open_strs1 e1
  obtain rfl : u0 = .string name := by simpa using hn
  obtain rfl : u2 = .string res := by simpa using hr
  obtain rfl : u1 = .slice A xs.length c := by simpa using hx
  have hG := of_laid hL
  obtain ⟨k, hk⟩ := pure name xs res
  clear hA0 hval0
  refine (sequiturlaw14_ShowFuns.calls k name A c xs res true W hG hC hc hk).mono fun e W' ⟨he, bel⟩ => ?_
  subst he
  exact ⟨_, rfl, _, _, _, [], _, [], hW', trodAll_mk1 (shut_bool Tryd.underlying4 _), (trodAll_cons_mk (Below.trod laidOut (by kernel_rfl) (of_decide_eq_true (by kernel_rfl)) k0 bel lt0) trodAll_mk0), rfl, bel.frame _, fun h => by cases h⟩

theorem row : Rows.ShowFunsSaid :=
  OpenClaim.holds_of_wide 6 Tryd.f6 rfl rfl rfl rfl rfl rfl rfl ⟨rfl, rfl, rfl, rfl, rfl⟩ rfl rfl rfl rfl rfl (by kernel_rfl) Tryd.func6 (by kernel_rfl)
    (of_decide_eq_true (by kernel_rfl)) (by unfold Func.isWrapper; first | (rw [if_pos (by decide +kernel)]; kernel_rfl) | (rw [if_neg (by decide +kernel)]; exact ⟨rfl, rfl⟩))
    (fun os started H enc _ => lifted os started H enc)

/-! ### The card -/
theorem card : Rows.ShowFunsCardSaid :=
  Claim7.holds_tied_plain_at .later [] [.data, .data, .data, .listed, .data, .mapped, .mapped] true (true, "7945599371ea7142b6391e73749a653138eaa0377a2022c54cece620621d3792") false
    row (fun _ h => by cases h) (by kernel_rfl) (fun _ h => by cases h) showFuns_row_tie rfl ⟨rfl, rfl⟩ (by kernel_rfl) rfl
    (fun f fn hf hfn => by
      obtain rfl : f = 6 := Option.some.inj ((show Tryd.prog.funcNamed "sequitur/sequiturlaw14.ShowFuns" = some 6 by kernel_rfl).symm.trans hf) |>.symm
      obtain rfl : fn = Tryd.f6 := (Option.some.inj (Tryd.func6.symm.trans hfn)).symm
      exact ⟨by kernel_rfl, fun j t ht => by
        rw [Tryd.params6] at ht
        have hm : t ∈ [49] := by simpa using Array.mem_of_getElem? ht
        have hall : ([49].all fun u => !Tryd.prog.wantsStandIn u) = true := by kernel_rfl
        exact (show Tryd.prog.wantsStandIn t = false by simpa using List.all_eq_true.1 hall t hm)⟩)
    (by kernel_rfl)
#print axioms card
end Go.Proofs.YtmlkllbaehegjaaDoor.LawShowFuns
namespace Go.Proofs.YtmlkllbaehegjaaDoor
/-- The card, under a short name, for the claim. -/
theorem showFuns_card : Rows.ShowFunsCardSaid := LawShowFuns.card
end Go.Proofs.YtmlkllbaehegjaaDoor
