-- Words of the kit's print, walks printed by a program of this session (wip/prt) in shorter words, and texts of this session, merged (pack.py).
import Derived.Lib.Hide
import Derived.Test.YtmlkllbaehegjaaDoorShowBrackets12
import Derived.Test.YtmlkllbaehegjaaDoorShowBrackets3
import Derived.Test.YtmlkllbaehegjaaDoorShowBrackets11
section
namespace Go.Proofs.YtmlkllbaehegjaaDoor.PAll
open Go.RowKit Go.Proofs.YtmlkllbaehegjaaDoorW.PrintWords Go.Proofs.YtmlkllbaehegjaaDoorW.PrintLast Go.Proofs.YtmlkllbaehegjaaDoorW.PrintMore
open Go.Proofs.YtmlkllbaehegjaaDoor
def calledName (a1 : ByteArray) : ByteArray := if nameB a1.data.toList && !wordB a1.data.toList then a1 else ⟨#[120]⟩
def shower_called.f (k : Nat) (s0_0 : List ByteArray) (a1 : ByteArray) (l2 : List ByteArray) : Option ByteArray :=
  if a1.size ≤ 1000000000 ∧ s0_0.length + l2.length < 8796093022208 then
    (show_Fresh.f k (calledName a1) (s0_0 ++ l2)).bind fun t => if (t.size : Int) ≤ 32 then some t else (show_Fresh.f k ⟨#[120]⟩ (s0_0 ++ l2))
  else none
set_option maxHeartbeats 1000000 in
set_option maxRecDepth 100000 in
theorem called_yes (k : Nat) (g : Nat) (s : List ByteArray) (a1 : ByteArray) (A0 A2 : Option Addr) (c0 c2 : Nat) (l2 : List ByteArray) (t r : ByteArray) (w : World) (hG : Laid w)
    (hcell : w.cell? ⟨g, 0, none⟩ = some (.slice A0 s.length c0)) (hr0 : Kd.C Kd.string w A0 s.length s) (hr2 : Kd.C Kd.string w A2 l2.length l2) (hc2 : l2.length ≤ c2) (hs : a1.size ≤ 1000000000) (hlen : s.length + l2.length < 8796093022208)
    (hn : nameB a1.data.toList = true) (hw : wordB a1.data.toList = false) (h : show_Fresh.f k a1 (s ++ l2) = some t) (h2 : (if (t.size : Int) ≤ 32 then some t else (show_Fresh.f k ⟨#[120]⟩ (s ++ l2))) = some r) :
    Calls Tryd.prog 51 #[.pointer (some ⟨g, 0, none⟩), .string a1, .slice A2 l2.length c2] w fun e w' => e = .returned (.string r) ∧ Below w.heap.size w w' := by
  obtain ⟨y, hy⟩ : ∃ y : List ByteArray, y = s ++ l2 := ⟨_, rfl⟩
  rw [← hy] at h h2
  have HY := Lib.hid hy
  clear hy
  have HG := Lib.hid hG
  have HR0 := Lib.hid hr0
  have HR2 := Lib.hid hr2
  have HC2 := Lib.hid hc2
  have H := Lib.hid h
  have H2 := Lib.hid h2
  have HL := Lib.hid hlen
  have HN := Lib.hid hn
  have HW := Lib.hid hw
  clear hG hr0 hr2 hc2 h h2 hlen hn hw
  go_enter Tryd.func51, Tryd.ntmps51
  go_wp2_with fail
  refine (token_Name.calls _ true _ (by unfold token_Name.f; rw [HN.out])).mono ?_
  rintro e w1 ⟨rfl, hb1⟩
  go_wp2_with fail
  refine (token_Word.calls _ false _ (HG.out.below hb1) (by unfold token_Word.f; rw [HW.out, if_pos hs])).mono ?_
  rintro e w2 ⟨rfl, hb2⟩
  have hb := below_step hb1 hb2
  have hc2 := pw_cell_below hb hcell
  have HB := Lib.hid hb
  clear hb hb1 hb2 hcell
  go_wp2_with (first
    | ((with_reducible refine gate_dst (N := 16) rfl ?_); refine Kd.R_lit Kd.string (w0 := w) w.heap.size 9 ?hg (N := 16) ?hd (xs := ([] : List ByteArray)) (inner := []) (ok := fun _ => True) (okp := fun _ => True) ?hr ?hp (fun _ hk => hk) trivial HB.out HB.out.size (by simp) ?_; (case hd => rfl); (case hg => rfl); (case hr => first | (go_simp; done) | (go_simp; rfl)); (case hp => exact Reps.none _ _); intro v3 w3 ho3 hb3 hg3 hnew3; have hc3 := (hg3.block g (World.block_lt_of_cell? w2 _ hc2) (by simp)); have hc3' : w3.cell? ⟨g, 0, none⟩ = some (.slice A0 s.length c0) := (by unfold World.cell? at hc2 ⊢; rw [hc3]; exact hc2); have HO3 := Lib.hid ho3; have HB3 := Lib.hid hb3; clear hc3 hg3 hnew3 ho3 hb3 hc2)
    | ((with_reducible refine gate_builtin (b := .append) (xs := #[.tmp 16, .tmp 20]) rfl ?_); at_builtin; refine Kd.R_append_rows Kd.string (w0 := w) w.heap.size rfl (.tmp 16) (.tmp 20) 22 9 (.string ⟨#[]⟩) 16 rfl Tryd.underlying22 info9 rfl (by decide) (by omega) v3 ([] : List ByteArray) s _ _ _ (fun _ => True) (fun _ => False) rfl rfl ?aO ?aR (fun _ _ h => h) (fun _ h => h.elim) ?aF ?aB ?aS ?aL ?_; (case aR => exact Kd.C_below HR0.out HB3.out); (case aB => exact HB3.out); (case aF => exact (fun _ _ => trivial)); (case aO => exact HO3.out); (case aS => exact HB3.out.size); (case aL => have := HL.out; simp; omega); intro v4 w4 ho4 hb4 hg4 hat4; have HO4 := Lib.hid ho4; have HB4 := Lib.hid hb4; clear hg4 hat4 ho4 hb4 hc3')
    | ((with_reducible refine gate_builtin (b := .append) (xs := #[.tmp 21, .tmp 22]) rfl ?_); at_builtin; refine Kd.R_append_rows Kd.string (w0 := w) w.heap.size rfl (.tmp 21) (.tmp 22) 22 9 (.string ⟨#[]⟩) 16 rfl Tryd.underlying22 info9 rfl (by decide) (by omega) v4 ([] ++ s : List ByteArray) l2 _ _ _ (fun _ => True) (fun _ => False) rfl rfl ?bO ?bR (fun _ _ h => h) (fun _ h => h.elim) ?bF ?bB ?bS ?bL ?_; (case bR => exact Kd.C_below HR2.out HB4.out); (case bB => exact HB4.out); (case bF => exact (fun _ _ => trivial)); (case bO => exact HO4.out); (case bS => exact HB4.out.size); (case bL => have := HL.out; simp; omega); intro v5 w5 ho5 hb5 hg5 hat5; rw [List.nil_append, ← HY.out] at ho5; have HB5 := Lib.hid hb5; clear hg5 hat5 hb5; obtain ⟨A5, c5, e5⟩ := Kd.R_slice ho5; subst e5; have HO5 := Lib.hid ho5; clear ho5)
    )
  refine (show_Fresh.calls k _ _ _ y t _ (HG.out.below HB5.out) (Kd.R_reads' HO5.out).2.2 (Kd.R_reads' HO5.out).2.1 H.out).mono ?_
  rintro e w6 ⟨rfl, hb6⟩
  have HB6 := Lib.hid (below_step HB5.out hb6)
  have HR6 := Lib.hid (Kd.C_below (Kd.R_reads' HO5.out).2.2 hb6)
  have HC6 := Lib.hid (Kd.R_reads' HO5.out).2.1
  clear hb6
  by_cases ht : (t.size : Int) ≤ 32
  · have h3 := H2.out
    rw [if_pos ht] at h3
    obtain rfl := Option.some.inj h3
    clear h3
    go_wp2_with fail
    go_ret
    exact ⟨rfl, HB6.out⟩
  · have h3 := H2.out
    rw [if_neg ht] at h3
    have H3 := Lib.hid h3
    clear h3
    go_wp2_with fail
    refine (show_Fresh.calls k _ _ _ y r _ (HG.out.below HB6.out) HR6.out HC6.out H3.out).mono ?_
    rintro e w7 ⟨rfl, hb7⟩
    have HB7 := Lib.hid (below_step HB6.out hb7)
    clear hb7
    go_wp2_with fail
    go_ret
    exact ⟨rfl, HB7.out⟩
set_option maxHeartbeats 1000000 in
set_option maxRecDepth 100000 in
theorem called_no1 (k : Nat) (g : Nat) (s : List ByteArray) (a1 : ByteArray) (A0 A2 : Option Addr) (c0 c2 : Nat) (l2 : List ByteArray) (t r : ByteArray) (w : World) (hG : Laid w)
    (hcell : w.cell? ⟨g, 0, none⟩ = some (.slice A0 s.length c0)) (hr0 : Kd.C Kd.string w A0 s.length s) (hr2 : Kd.C Kd.string w A2 l2.length l2) (hc2 : l2.length ≤ c2) (_hs : a1.size ≤ 1000000000) (hlen : s.length + l2.length < 8796093022208)
    (hn : nameB a1.data.toList = false) (h : show_Fresh.f k ⟨#[120]⟩ (s ++ l2) = some t) (h2 : (if (t.size : Int) ≤ 32 then some t else (show_Fresh.f k ⟨#[120]⟩ (s ++ l2))) = some r) :
    Calls Tryd.prog 51 #[.pointer (some ⟨g, 0, none⟩), .string a1, .slice A2 l2.length c2] w fun e w' => e = .returned (.string r) ∧ Below w.heap.size w w' := by
  obtain ⟨y, hy⟩ : ∃ y : List ByteArray, y = s ++ l2 := ⟨_, rfl⟩
  rw [← hy] at h h2
  have HY := Lib.hid hy
  clear hy
  have HG := Lib.hid hG
  have HR0 := Lib.hid hr0
  have HR2 := Lib.hid hr2
  have HC2 := Lib.hid hc2
  have H := Lib.hid h
  have H2 := Lib.hid h2
  have HL := Lib.hid hlen
  have HN := Lib.hid hn
  clear hG hr0 hr2 hc2 h h2 hlen hn
  go_enter Tryd.func51, Tryd.ntmps51
  go_wp2_with fail
  refine (token_Name.calls _ false _ (by unfold token_Name.f; rw [HN.out])).mono ?_
  rintro e w2 ⟨rfl, hb⟩
  have hc2 := pw_cell_below hb hcell
  have HB := Lib.hid hb
  clear hb hcell
  go_wp2_with (first
    | ((with_reducible refine gate_dst (N := 16) rfl ?_); refine Kd.R_lit Kd.string (w0 := w) w.heap.size 9 ?hg (N := 16) ?hd (xs := ([] : List ByteArray)) (inner := []) (ok := fun _ => True) (okp := fun _ => True) ?hr ?hp (fun _ hk => hk) trivial HB.out HB.out.size (by simp) ?_; (case hd => rfl); (case hg => rfl); (case hr => first | (go_simp; done) | (go_simp; rfl)); (case hp => exact Reps.none _ _); intro v3 w3 ho3 hb3 hg3 hnew3; have hc3 := (hg3.block g (World.block_lt_of_cell? w2 _ hc2) (by simp)); have hc3' : w3.cell? ⟨g, 0, none⟩ = some (.slice A0 s.length c0) := (by unfold World.cell? at hc2 ⊢; rw [hc3]; exact hc2); have HO3 := Lib.hid ho3; have HB3 := Lib.hid hb3; clear hc3 hg3 hnew3 ho3 hb3 hc2)
    | ((with_reducible refine gate_builtin (b := .append) (xs := #[.tmp 16, .tmp 20]) rfl ?_); at_builtin; refine Kd.R_append_rows Kd.string (w0 := w) w.heap.size rfl (.tmp 16) (.tmp 20) 22 9 (.string ⟨#[]⟩) 16 rfl Tryd.underlying22 info9 rfl (by decide) (by omega) v3 ([] : List ByteArray) s _ _ _ (fun _ => True) (fun _ => False) rfl rfl ?aO ?aR (fun _ _ h => h) (fun _ h => h.elim) ?aF ?aB ?aS ?aL ?_; (case aR => exact Kd.C_below HR0.out HB3.out); (case aB => exact HB3.out); (case aF => exact (fun _ _ => trivial)); (case aO => exact HO3.out); (case aS => exact HB3.out.size); (case aL => have := HL.out; simp; omega); intro v4 w4 ho4 hb4 hg4 hat4; have HO4 := Lib.hid ho4; have HB4 := Lib.hid hb4; clear hg4 hat4 ho4 hb4 hc3')
    | ((with_reducible refine gate_builtin (b := .append) (xs := #[.tmp 21, .tmp 22]) rfl ?_); at_builtin; refine Kd.R_append_rows Kd.string (w0 := w) w.heap.size rfl (.tmp 21) (.tmp 22) 22 9 (.string ⟨#[]⟩) 16 rfl Tryd.underlying22 info9 rfl (by decide) (by omega) v4 ([] ++ s : List ByteArray) l2 _ _ _ (fun _ => True) (fun _ => False) rfl rfl ?bO ?bR (fun _ _ h => h) (fun _ h => h.elim) ?bF ?bB ?bS ?bL ?_; (case bR => exact Kd.C_below HR2.out HB4.out); (case bB => exact HB4.out); (case bF => exact (fun _ _ => trivial)); (case bO => exact HO4.out); (case bS => exact HB4.out.size); (case bL => have := HL.out; simp; omega); intro v5 w5 ho5 hb5 hg5 hat5; rw [List.nil_append, ← HY.out] at ho5; have HB5 := Lib.hid hb5; clear hg5 hat5 hb5; obtain ⟨A5, c5, e5⟩ := Kd.R_slice ho5; subst e5; have HO5 := Lib.hid ho5; clear ho5)
    )
  refine (show_Fresh.calls k _ _ _ y t _ (HG.out.below HB5.out) (Kd.R_reads' HO5.out).2.2 (Kd.R_reads' HO5.out).2.1 H.out).mono ?_
  rintro e w6 ⟨rfl, hb6⟩
  have HB6 := Lib.hid (below_step HB5.out hb6)
  have HR6 := Lib.hid (Kd.C_below (Kd.R_reads' HO5.out).2.2 hb6)
  have HC6 := Lib.hid (Kd.R_reads' HO5.out).2.1
  clear hb6
  by_cases ht : (t.size : Int) ≤ 32
  · have h3 := H2.out
    rw [if_pos ht] at h3
    obtain rfl := Option.some.inj h3
    clear h3
    go_wp2_with fail
    go_ret
    exact ⟨rfl, HB6.out⟩
  · have h3 := H2.out
    rw [if_neg ht] at h3
    have H3 := Lib.hid h3
    clear h3
    go_wp2_with fail
    refine (show_Fresh.calls k _ _ _ y r _ (HG.out.below HB6.out) HR6.out HC6.out H3.out).mono ?_
    rintro e w7 ⟨rfl, hb7⟩
    have HB7 := Lib.hid (below_step HB6.out hb7)
    clear hb7
    go_wp2_with fail
    go_ret
    exact ⟨rfl, HB7.out⟩
set_option maxHeartbeats 1000000 in
set_option maxRecDepth 100000 in
theorem called_no2 (k : Nat) (g : Nat) (s : List ByteArray) (a1 : ByteArray) (A0 A2 : Option Addr) (c0 c2 : Nat) (l2 : List ByteArray) (t r : ByteArray) (w : World) (hG : Laid w)
    (hcell : w.cell? ⟨g, 0, none⟩ = some (.slice A0 s.length c0)) (hr0 : Kd.C Kd.string w A0 s.length s) (hr2 : Kd.C Kd.string w A2 l2.length l2) (hc2 : l2.length ≤ c2) (hs : a1.size ≤ 1000000000) (hlen : s.length + l2.length < 8796093022208)
    (hn : nameB a1.data.toList = true) (hw : wordB a1.data.toList = true) (h : show_Fresh.f k ⟨#[120]⟩ (s ++ l2) = some t) (h2 : (if (t.size : Int) ≤ 32 then some t else (show_Fresh.f k ⟨#[120]⟩ (s ++ l2))) = some r) :
    Calls Tryd.prog 51 #[.pointer (some ⟨g, 0, none⟩), .string a1, .slice A2 l2.length c2] w fun e w' => e = .returned (.string r) ∧ Below w.heap.size w w' := by
  obtain ⟨y, hy⟩ : ∃ y : List ByteArray, y = s ++ l2 := ⟨_, rfl⟩
  rw [← hy] at h h2
  have HY := Lib.hid hy
  clear hy
  have HG := Lib.hid hG
  have HR0 := Lib.hid hr0
  have HR2 := Lib.hid hr2
  have HC2 := Lib.hid hc2
  have H := Lib.hid h
  have H2 := Lib.hid h2
  have HL := Lib.hid hlen
  have HN := Lib.hid hn
  have HW := Lib.hid hw
  clear hG hr0 hr2 hc2 h h2 hlen hn hw
  go_enter Tryd.func51, Tryd.ntmps51
  go_wp2_with fail
  refine (token_Name.calls _ true _ (by unfold token_Name.f; rw [HN.out])).mono ?_
  rintro e w1 ⟨rfl, hb1⟩
  go_wp2_with fail
  refine (token_Word.calls _ true _ (HG.out.below hb1) (by unfold token_Word.f; rw [HW.out, if_pos hs])).mono ?_
  rintro e w2 ⟨rfl, hb2⟩
  have hb := below_step hb1 hb2
  have hc2 := pw_cell_below hb hcell
  have HB := Lib.hid hb
  clear hb hb1 hb2 hcell
  go_wp2_with (first
    | ((with_reducible refine gate_dst (N := 16) rfl ?_); refine Kd.R_lit Kd.string (w0 := w) w.heap.size 9 ?hg (N := 16) ?hd (xs := ([] : List ByteArray)) (inner := []) (ok := fun _ => True) (okp := fun _ => True) ?hr ?hp (fun _ hk => hk) trivial HB.out HB.out.size (by simp) ?_; (case hd => rfl); (case hg => rfl); (case hr => first | (go_simp; done) | (go_simp; rfl)); (case hp => exact Reps.none _ _); intro v3 w3 ho3 hb3 hg3 hnew3; have hc3 := (hg3.block g (World.block_lt_of_cell? w2 _ hc2) (by simp)); have hc3' : w3.cell? ⟨g, 0, none⟩ = some (.slice A0 s.length c0) := (by unfold World.cell? at hc2 ⊢; rw [hc3]; exact hc2); have HO3 := Lib.hid ho3; have HB3 := Lib.hid hb3; clear hc3 hg3 hnew3 ho3 hb3 hc2)
    | ((with_reducible refine gate_builtin (b := .append) (xs := #[.tmp 16, .tmp 20]) rfl ?_); at_builtin; refine Kd.R_append_rows Kd.string (w0 := w) w.heap.size rfl (.tmp 16) (.tmp 20) 22 9 (.string ⟨#[]⟩) 16 rfl Tryd.underlying22 info9 rfl (by decide) (by omega) v3 ([] : List ByteArray) s _ _ _ (fun _ => True) (fun _ => False) rfl rfl ?aO ?aR (fun _ _ h => h) (fun _ h => h.elim) ?aF ?aB ?aS ?aL ?_; (case aR => exact Kd.C_below HR0.out HB3.out); (case aB => exact HB3.out); (case aF => exact (fun _ _ => trivial)); (case aO => exact HO3.out); (case aS => exact HB3.out.size); (case aL => have := HL.out; simp; omega); intro v4 w4 ho4 hb4 hg4 hat4; have HO4 := Lib.hid ho4; have HB4 := Lib.hid hb4; clear hg4 hat4 ho4 hb4 hc3')
    | ((with_reducible refine gate_builtin (b := .append) (xs := #[.tmp 21, .tmp 22]) rfl ?_); at_builtin; refine Kd.R_append_rows Kd.string (w0 := w) w.heap.size rfl (.tmp 21) (.tmp 22) 22 9 (.string ⟨#[]⟩) 16 rfl Tryd.underlying22 info9 rfl (by decide) (by omega) v4 ([] ++ s : List ByteArray) l2 _ _ _ (fun _ => True) (fun _ => False) rfl rfl ?bO ?bR (fun _ _ h => h) (fun _ h => h.elim) ?bF ?bB ?bS ?bL ?_; (case bR => exact Kd.C_below HR2.out HB4.out); (case bB => exact HB4.out); (case bF => exact (fun _ _ => trivial)); (case bO => exact HO4.out); (case bS => exact HB4.out.size); (case bL => have := HL.out; simp; omega); intro v5 w5 ho5 hb5 hg5 hat5; rw [List.nil_append, ← HY.out] at ho5; have HB5 := Lib.hid hb5; clear hg5 hat5 hb5; obtain ⟨A5, c5, e5⟩ := Kd.R_slice ho5; subst e5; have HO5 := Lib.hid ho5; clear ho5)
    )
  refine (show_Fresh.calls k _ _ _ y t _ (HG.out.below HB5.out) (Kd.R_reads' HO5.out).2.2 (Kd.R_reads' HO5.out).2.1 H.out).mono ?_
  rintro e w6 ⟨rfl, hb6⟩
  have HB6 := Lib.hid (below_step HB5.out hb6)
  have HR6 := Lib.hid (Kd.C_below (Kd.R_reads' HO5.out).2.2 hb6)
  have HC6 := Lib.hid (Kd.R_reads' HO5.out).2.1
  clear hb6
  by_cases ht : (t.size : Int) ≤ 32
  · have h3 := H2.out
    rw [if_pos ht] at h3
    obtain rfl := Option.some.inj h3
    clear h3
    go_wp2_with fail
    go_ret
    exact ⟨rfl, HB6.out⟩
  · have h3 := H2.out
    rw [if_neg ht] at h3
    have H3 := Lib.hid h3
    clear h3
    go_wp2_with fail
    refine (show_Fresh.calls k _ _ _ y r _ (HG.out.below HB6.out) HR6.out HC6.out H3.out).mono ?_
    rintro e w7 ⟨rfl, hb7⟩
    have HB7 := Lib.hid (below_step HB6.out hb7)
    clear hb7
    go_wp2_with fail
    go_ret
    exact ⟨rfl, HB7.out⟩
theorem shower_called.calls (k : Nat) (g : Nat) (s0_0 : List ByteArray) (a1 : ByteArray) (A2 : Option Addr) (c2 : Nat) (l2 : List ByteArray) (r : ByteArray) (w0 w : World) (hG : Laid w0) (hI : IsS62 w0 w g s0_0) (hB : Below w0.heap.size w0 w)
    (hr2 : Kd.C Kd.string w A2 l2.length l2) (hc2 : l2.length ≤ c2) (_hf2 : ∀ ad, A2 = some ad → 0 < l2.length → ad.block ≠ g) (h : shower_called.f k s0_0 a1 l2 = some r) :
    Calls Tryd.prog 51 #[.pointer (some ⟨g, 0, none⟩), .string a1, .slice A2 l2.length c2] w fun e w' => e = .returned (.string r) ∧ IsS62 w0 w' g s0_0 ∧ Below w0.heap.size w0 w' ∧ KeepBut w w' g none := by
  have main : Calls Tryd.prog 51 #[.pointer (some ⟨g, 0, none⟩), .string a1, .slice A2 l2.length c2] w fun e w' => e = .returned (.string r) ∧ Below w.heap.size w w' := by
    obtain ⟨A0, c0, hblk, _, hr0⟩ := hI
    have hcell : w.cell? ⟨g, 0, none⟩ = some (.slice A0 s0_0.length c0) := (blk_cell hblk 0).trans rfl
    have hG' := hG.below hB
    have hr0' := Kd.C_below hr0 hB
    unfold shower_called.f at h
    by_cases hcond : a1.size ≤ 1000000000 ∧ s0_0.length + l2.length < 8796093022208
    · rw [if_pos hcond] at h
      obtain ⟨t, h1, h2⟩ := Option.bind_eq_some_iff.mp h
      unfold calledName at h1
      cases hn : nameB a1.data.toList with
      | false =>
        rw [hn] at h1
        exact called_no1 k g s0_0 a1 A0 A2 c0 c2 l2 t r w hG' hcell hr0' hr2 hc2 hcond.1 hcond.2 hn (by simpa using h1) h2
      | true =>
        cases hw : wordB a1.data.toList with
        | false =>
          rw [hn, hw] at h1
          exact called_yes k g s0_0 a1 A0 A2 c0 c2 l2 t r w hG' hcell hr0' hr2 hc2 hcond.1 hcond.2 hn hw (by simpa using h1) h2
        | true =>
          rw [hn, hw] at h1
          exact called_no2 k g s0_0 a1 A0 A2 c0 c2 l2 t r w hG' hcell hr0' hr2 hc2 hcond.1 hcond.2 hn hw (by simpa using h1) h2
    · rw [if_neg hcond] at h
      cases h
  refine main.mono ?_
  rintro e w' ⟨rfl, hb⟩
  exact ⟨rfl, hI.below hb, below_then hB hB.size hb, hb.size, fun i hi _ _ => hb.block i hi⟩
end Go.Proofs.YtmlkllbaehegjaaDoor.PAll
end
section
namespace Go.Proofs.YtmlkllbaehegjaaDoor.PAll
open Go.RowKit
open Go.Proofs.YtmlkllbaehegjaaDoor
open Go.Proofs.YtmlkllbaehegjaaDoorW.PrintWords (rdOf bt)
theorem bt_nat (s : ByteArray) {m : Nat} (h : m < s.size) : bt s (m : Int) = ((s.data.toList[m]'(by rw [size_list]; exact h)).toNat : Int) := by
  simp [bt, h]
  rfl
end Go.Proofs.YtmlkllbaehegjaaDoor.PAll
end
