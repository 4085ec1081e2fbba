/- token.Word: what it returns, for every text: is it one of the words? -/
import Derived.Test.YtmlkllbaehegjaaDoorLaid
import Derived.Test.YtmlkllbaehegjaaDoorShelf
import Derived.WalkKit
import Derived.Below
import Derived.LoopTactic
import Derived.Outline
import Derived.Deep.LoopGhost
import Derived.Lib.Hide
import Derived.Maps.Views
import Derived.Carry
namespace Go.Proofs.YtmlkllbaehegjaaDoor
open Go Go.RowKit Go.Maps Go.WideMaps

def wordsL : List ByteArray := [⟨#[116, 114, 117, 101]⟩, ⟨#[102, 97, 108, 115, 101]⟩, ⟨#[115, 111, 114, 116]⟩, ⟨#[102, 117, 110]⟩, ⟨#[112, 114, 101, 100]⟩, ⟨#[97, 120, 105, 111, 109]⟩, ⟨#[116, 104, 101, 111, 114, 101, 109]⟩, ⟨#[112, 114, 111, 111, 102]⟩, ⟨#[113, 101, 100]⟩, ⟨#[97, 115]⟩, ⟨#[98, 97, 99, 107]⟩, ⟨#[105, 110, 116, 114, 111]⟩, ⟨#[115, 112, 108, 105, 116]⟩, ⟨#[108, 101, 102, 116]⟩, ⟨#[114, 105, 103, 104, 116]⟩, ⟨#[101, 120, 97, 99, 116]⟩, ⟨#[97, 115, 115, 117, 109, 101]⟩, ⟨#[97, 112, 112, 108, 121]⟩, ⟨#[119, 105, 116, 110, 101, 115, 115]⟩, ⟨#[99, 97, 115, 101, 115]⟩, ⟨#[104, 97, 118, 101]⟩, ⟨#[99, 111, 110, 116, 114, 97]⟩, ⟨#[114, 101, 102, 108]⟩, ⟨#[115, 119, 97, 112]⟩, ⟨#[112, 114, 111, 112]⟩, ⟨#[97, 114, 105, 116, 104]⟩, ⟨#[109, 105, 120, 101, 100]⟩, ⟨#[97, 117, 116, 111]⟩, ⟨#[99, 111, 110, 103, 114]⟩, ⟨#[116, 114, 121]⟩, ⟨#[108, 111, 111, 112]⟩, ⟨#[101, 97, 99, 104]⟩, ⟨#[115, 107, 105, 112]⟩, ⟨#[102, 97, 105, 108]⟩]
def wordsB : List UInt8 := [116, 114, 117, 101, 32, 102, 97, 108, 115, 101, 32, 115, 111, 114, 116, 32, 102, 117, 110, 32, 112, 114, 101, 100, 32, 97, 120, 105, 111, 109, 32, 116, 104, 101, 111, 114, 101, 109, 32, 112, 114, 111, 111, 102, 32, 113, 101, 100, 32, 97, 115, 32, 98, 97, 99, 107, 32, 105, 110, 116, 114, 111, 32, 115, 112, 108, 105, 116, 32, 108, 101, 102, 116, 32, 114, 105, 103, 104, 116, 32, 101, 120, 97, 99, 116, 32, 97, 115, 115, 117, 109, 101, 32, 97, 112, 112, 108, 121, 32, 119, 105, 116, 110, 101, 115, 115, 32, 99, 97, 115, 101, 115, 32, 104, 97, 118, 101, 32, 99, 111, 110, 116, 114, 97, 32, 114, 101, 102, 108, 32, 115, 119, 97, 112, 32, 112, 114, 111, 112, 32, 97, 114, 105, 116, 104, 32, 109, 105, 120, 101, 100, 32, 97, 117, 116, 111, 32, 99, 111, 110, 103, 114, 32, 116, 114, 121, 32, 108, 111, 111, 112, 32, 101, 97, 99, 104, 32, 115, 107, 105, 112, 32, 102, 97, 105, 108]
theorem fields_words : Lib.fields wordsB = wordsL.map (fun s => s.data.toList) := by decide +kernel
theorem ascii_words : wordsB.all (fun b => decide (b.toNat < 128)) = true := by decide +kernel
theorem wordsL_len : wordsL.length = 34 := rfl
theorem wordsL_small : wordsL.all (fun s => decide (s.size ≤ 10)) = true := by decide +kernel

def FieldsPost (w : World) (e : Ending) (w' : World) : Prop := ∃ ws : List ByteArray, e = .returned (.slice (some ⟨w.heap.size, 0, none⟩) ws.length ws.length) ∧ w' = w.alloc (.cells (ws.map Value.string).toArray 9) ∧ ws = wordsL

theorem fields_any (s : ByteArray) (hs : s.data.toList = wordsB) (w : World) (hG : Laid w) : Calls Tryd.prog 91 #[.string s] w (FieldsPost w) := by
  have hsz : s.size = wordsB.length := by rw [← hs]; exact (Array.length_toList ..).symm
  refine (Tryd.strings_Fields s w (by rw [hsz]; decide +kernel) ?_ hG.space).mono ?_
  · intro j b hb
    rw [hs] at hb
    have := List.all_eq_true.mp ascii_words b (List.mem_of_getElem? hb)
    simpa using this
  · rintro e w' ⟨rfl, rfl⟩
    refine ⟨wordsL, ?_, ?_, rfl⟩
    · rw [hs, fields_words, List.length_map]
    · rw [hs, fields_words, List.map_map]
      rfl

def C (ws : List ByteArray) (k : Nat) : DataW Unit := (ws.take k).foldl (fun D s => D.put (.string s.data.toList) (.lit (.bool true))) (.map [])
theorem C_step (ws : List ByteArray) (k : Nat) (hk : k < ws.length) : C ws (k + 1) = (C ws k).put (.string ws[k].data.toList) (.lit (.bool true)) := by
  unfold C
  rw [List.take_succ_eq_append_getElem hk, List.foldl_append]
  rfl
theorem fold_isMap (ws : List ByteArray) : ∀ D : DataW Unit, IsMap D → IsMap (ws.foldl (fun D s => D.put (.string s.data.toList) (.lit (.bool true))) D) := by
  induction ws with
  | nil => exact fun D h => h
  | cons s r ih => exact fun D h => ih _ (h.put _ _)
def wordB (l : List UInt8) : Bool := wordsL.any fun s => s.data.toList == l
theorem fold_at (ws : List ByteArray) (l : List UInt8) : ∀ (D : DataW Unit) (b : Bool), IsMap D → D.atKey (.string l) (.lit (.bool false)) = .lit (.bool b) →
    (ws.foldl (fun D s => D.put (.string s.data.toList) (.lit (.bool true))) D).atKey (.string l) (.lit (.bool false)) = .lit (.bool (b || ws.any fun s => s.data.toList == l)) := by
  induction ws with
  | nil => intro D b _ h; simpa using h
  | cons s r ih =>
    intro D b hD h
    by_cases hs : s.data.toList = l
    · have := ih (D.put (.string s.data.toList) (.lit (.bool true))) true (hD.put _ _) (by rw [hs]; exact atKey_put_same hD (by simp [WideAt.IsKeyLit]) _ _)
      simp only [List.foldl_cons, List.any_cons]
      rw [this, beq_iff_eq.mpr hs]; simp
    · have := ih (D.put (.string s.data.toList) (.lit (.bool true))) b (hD.put _ _) (by rw [atKey_put_other (by intro e; injection e with e; exact hs e.symm)]; exact h)
      simp only [List.foldl_cons, List.any_cons]
      rw [this, beq_eq_false_iff_ne.mpr hs, Bool.false_or]
theorem C_at (l : List UInt8) : (C wordsL wordsL.length).atKey (.string l) (.lit (.bool false)) = .lit (.bool (wordB l)) := by
  unfold C wordB
  rw [List.take_length, fold_at wordsL l (.map []) false isMap_empty rfl]
  simp

theorem law9 : Keyed Tryd.prog 9 := string_keyed Tryd.underlying9
theorem zero4 (w : World) : (zeroValue 4).run Tryd.prog w = .ok (.bool false) w := by kernel_rfl
def KnownPost (w : World) (e : Ending) (w' : World) : Prop := ∃ b n, e = .returned (.map (some b)) ∧ w'.ownsMap Tryd.prog 9 (plainElem Tryd.prog 4) b n (C wordsL wordsL.length) ∧ Below w.heap.size w w'

set_option maxRecDepth 100000 in
theorem known_any (w : World) (hG : Laid w) : Calls Tryd.prog 79 #[] w (KnownPost w) := by
  have HG := Lib.hid hG
  clear hG
  have hmm := @run_makeMap Tryd.prog
  go_enter Tryd.func79, Tryd.ntmps79
  go_wp2_with (go_at_call 91; refine (fields_any _ (by decide +kernel) _ (Laid.below HG.out ((Below.refl _ _).alloc (Nat.le_refl _) _))).mono ?_; rintro e w' ⟨ws, rfl, rfl, hws⟩; have Hws := Lib.hid hws; clear hws)
  have hlen : ws.length = 34 := by rw [Hws.out]; rfl
  have hlen2 : ws.length ≤ 34 := by omega
  have hsmall : ∀ k (h : k < ws.length), ws[k].size ≤ 10 := by
    intro k h
    have := List.all_eq_true.mp wordsL_small ws[k] (by have := Hws.out; subst this; exact List.getElem_mem h)
    simpa using this
  have Hsmall := Lib.hid hsmall
  clear hlen hsmall
  go_loopw [7] (fun i wr => ∃ k : Nat, k ≤ ws.length ∧ i = .int .i64 k ∧ wr.ownsMap Tryd.prog 9 (plainElem Tryd.prog 4) w.heap.size k (C ws k) ∧ Below w.heap.size w wr ∧ wr.heap[w.heap.size + 1]? = some (.cells (ws.map Value.string).toArray 9 (0, 0)))
    (fun i _ => ws.length - (intOf i).toNat)
  case atStart =>
    refine ⟨0, Nat.zero_le _, rfl, (World.ownsMap_made w Tryd.prog 9 _).alloc _, ((Below.refl _ _).alloc (Nat.le_refl _) _).alloc (by simp) _, ?_⟩
    have h1 : (w.alloc (.map #[] 0)).heap.size = w.heap.size + 1 := by simp
    rw [← h1]
    exact (MapKept.heap_alloc _ _).1
  case round =>
    obtain ⟨k, hk, rfl, hown, hb, hcells⟩ := hrel
    by_cases hlt : k < ws.length
    · obtain ⟨s, hs⟩ : ∃ s, s = ws[k] := ⟨_, rfl⟩
      have hcell : wr.cell? ⟨w.heap.size + 1, k, none⟩ = some (.string s) := by
        rw [hs, cell_of_row wr _ k _ _ _ hcells]
        simp [hlt]
      have hkey : keyOf Tryd.prog 9 (.string s) = some (.string s.data.toList) := keyOf_string_mk Tryd.underlying9 (by rw [hs]; have := Hsmall.out k hlt; unfold maxLen; omega)
      have Hs := Lib.hid hs
      clear hs
      go_wp2_with (at_mapUpdate; refine wpList_mapUpdate_own _ rfl _ _ _ 106 rfl 9 4 law9 Tryd.underlying106 _ w.heap.size k _ rfl hown (by unfold maxLen; omega) _ _ _ rfl rfl hkey _ [] (by rfl) ?_)
      intro w1 hown1 hgrow1
      have R1 := (C_step ws k hlt).symm
      rw [← Hs.out] at R1
      rw [R1] at hown1
      have R2 := hb.grown hgrow1 hb.size (fun j hj => by cases hj; exact Nat.le_refl _)
      have R3 : w1.heap[w.heap.size + 1]? = some (.cells (ws.map Value.string).toArray 9 (0, 0)) := (hgrow1.block _ (Array.getElem?_eq_some_iff.1 hcells).1 (by simp)).trans hcells
      have H1 := Lib.hid hown1
      have H2 := Lib.hid R2
      have H3 := Lib.hid R3
      clear R1 hown1 hgrow1 hown R2 R3 hcells hb hcell hkey
      go_wp2
      go_roundw
      case rel => exact ⟨k + 1, by omega, by go_num, H1.out, H2.out, H3.out⟩
      case measure => simp [intOf]; omega
    · have hkl : k = ws.length := by omega
      subst hkl
      go_wp2
      go_ret
      have e := Hws.out
      subst e
      exact ⟨w.heap.size, _, rfl, hown, hb⟩

theorem elem_bool {P : Program} {e : TypeId} (he : P.underlying e = some .bool) {v : Value} {r : Bool} {ps : List MemPlace} (h : plainElem (H := Unit) P e v = some (.lit (.bool r), ps)) : v = .bool r := by
  unfold plainElem at h
  rw [he] at h
  cases v <;> simp at h
  obtain ⟨rfl, _⟩ := h
  rfl

def token_Word.f (a0 : ByteArray) : Option Bool := if a0.size ≤ 1000000000 then some (wordB a0.data.toList) else none

set_option maxRecDepth 100000 in
theorem token_Word.calls (a0 : ByteArray) (r : Bool) (w : World) (hG : Laid w) (h : token_Word.f a0 = some r) : Calls Tryd.prog 66 #[.string a0] w fun e w' => e = .returned (.bool r) ∧ Below w.heap.size w w' := by
  unfold token_Word.f at h
  by_cases hs : a0.size ≤ 1000000000
  · rw [if_pos hs] at h
    have H := Lib.hid (Option.some.inj h)
    clear h
    go_enter Tryd.func66, Tryd.ntmps66
    go_wp2_with (go_at_call 79; refine (known_any _ hG).mono ?_; rintro e w' ⟨b, n, rfl, hown, hb⟩; obtain ⟨v, ps, hrun, hv⟩ := hown.lookup law9 Tryd.underlying106 (zero4 _) (by rfl) (keyOf_string_mk Tryd.underlying9 (s := a0) (by unfold maxLen; omega)); rw [C_at, H.out] at hv; obtain rfl := elem_bool Tryd.underlying4 hv; clear hown hv)
    go_ret
    exact ⟨rfl, hb⟩
  · rw [if_neg hs] at h
    cases h
end Go.Proofs.YtmlkllbaehegjaaDoor
