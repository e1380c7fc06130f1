/- FindRow of the program returns what the reference returns, for every column and row, and leaves the column as it was. No condition. -/
import Derived.Test.YtmekpkajpjnkgaaPFnExactFindRowx0
import Derived.Test.YtmekpkajpjnkgaaPFnExactFindRowx1
import Derived.Test.YtmekpkajpjnkgaaPFnExactFindRowx2
import Derived.Test.YtmekpkajpjnkgaaPFnExactFindRowx3
import Derived.Test.YtmekpkajpjnkgaaB
set_option linter.unusedVariables false
set_option linter.unusedSimpArgs false
namespace Go.Proofs.Ytmekpkajpjnkgaa.Pure.FnExactFindRow
open Go.RowKit Go.Proofs.Ytmekpkajpjnkgaa.PFnExactFindRow Go.Proofs.YtmekpkajpjnkgaaW.PrintWords Go.Proofs.YtmekpkajpjnkgaaW.PrintLast Go.Proofs.YtmekpkajpjnkgaaW.PrintMore Go.Proofs.Ytmekpkajpjnkgaa.B

theorem szIntS_at (l : List Int) (a : Int) (ha : 0 ≤ a ∧ a ≤ 1048576) (hl : l.length ≤ maxLen) : laws_szIntS.f l a = some (if (l.length : Int) ≤ a then a - l.length else -1) := by
  unfold maxLen at hl
  unfold laws_szIntS.f
  rw [w64 (n := a - (l.length : Int)) (by omega) (by omega)]
  by_cases h : (l.length : Int) ≤ a
  · rw [if_neg (by omega), if_pos h]
  · rw [if_pos (by omega), if_neg h]

theorem szPivotS_at (l : List S143) (a : Int) (ha : 0 ≤ a ∧ a ≤ 1048576) (hl : l.length ≤ maxLen) : laws_szPivotS.f l a = some (if (l.length : Int) ≤ a then a - l.length else -1) := by
  unfold maxLen at hl
  unfold laws_szPivotS.f
  rw [w64 (n := a - (l.length : Int)) (by omega) (by omega)]
  by_cases h : (l.length : Int) ≤ a
  · rw [if_neg (by omega), if_pos h]
  · rw [if_pos (by omega), if_neg h]

theorem szCracker_at (v r : List Int) (p : List S143) (a : Int) (ha : 0 ≤ a ∧ a ≤ 1048576) (hv : v.length ≤ maxLen) (hr : r.length ≤ maxLen) (hp : p.length ≤ maxLen) :
    ∃ t, laws_szCracker.f v r p a = some t ∧ (t < 0 ∨ (0 ≤ t ∧ t ≤ a ∧ v.length ≤ 1048576 ∧ r.length ≤ 1048576 ∧ p.length ≤ 1048576)) := by
  unfold laws_szCracker.f
  rw [szIntS_at v a ha hv, Option.bind_some]
  by_cases h1 : (v.length : Int) ≤ a
  · rw [if_pos h1, if_neg (by omega), szIntS_at r _ (by omega) hr, Option.bind_some]
    by_cases h2 : (r.length : Int) ≤ a - v.length
    · rw [if_pos h2, if_neg (by omega), szPivotS_at p _ (by omega) hp, Option.bind_some]
      by_cases h3 : (p.length : Int) ≤ a - v.length - r.length
      · rw [if_pos h3, if_neg (by omega)]
        exact ⟨_, rfl, .inr ⟨by omega, by omega, by omega, by omega, by omega⟩⟩
      · rw [if_neg h3, if_pos (by omega)]
        exact ⟨_, rfl, .inl (by omega)⟩
    · rw [if_neg h2, if_pos (by omega)]
      exact ⟨_, rfl, .inl (by omega)⟩
  · rw [if_neg h1, if_pos (by omega)]
    exact ⟨_, rfl, .inl (by omega)⟩

theorem toIntS_ev (l : List Int) (hl : l.length ≤ 1048576) : Ev (fun k => laws_toIntS.f k l) l := by
  unfold laws_toIntS.f
  refine ev_ifp (by omega) (ev_ifp (by omega) ?_)
  rw [show ((l.length : Int)).toNat = l.length by omega]
  have h := down_ev l.length (fun k i => laws_toIntS.l0 k l (l.take i ++ (List.replicate l.length (0 : Int)).drop i) (i : Int)) l ?_ ?_
  · simpa using h
  · intro i hi ih
    refine Ev.step (fun k => ?_) ih
    simp only [laws_toIntS.l0]
    rw [if_pos (by omega), if_pos (by omega), if_pos (by rw [step_len _ _ (by simp) _ (by omega)]; omega), rd_nat hi, wS hi (by omega), Int.toNat_natCast, set_step _ _ (by simp) _ hi]
  · refine ev_const (fun k => ?_)
    simp only [laws_toIntS.l0]
    rw [if_neg (by omega)]
    simp

def cvPivot (x : S143) : S119 := ⟨x.f0, x.f1⟩

theorem toPivotS_ev (l : List S143) (hl : l.length ≤ 1048576) : Ev (fun k => laws_toPivotS.f k l) (l.map cvPivot) := by
  unfold laws_toPivotS.f
  refine ev_ifp (by omega) (ev_ifp (by omega) ?_)
  rw [show ((l.length : Int)).toNat = l.length by omega]
  have h := down_ev l.length (fun k i => laws_toPivotS.l0 k l ((l.map cvPivot).take i ++ (List.replicate l.length z119).drop i) (i : Int)) (l.map cvPivot) ?_ ?_
  · simpa using h
  · intro i hi ih
    refine Ev.step (fun k => ?_) ih
    simp only [laws_toPivotS.l0]
    have hr : rd_T143 l (i : Int) = l[i] := by unfold rd_T143; simp [List.getD_eq_getElem?_getD, List.getElem?_eq_getElem hi]
    rw [if_pos (by omega), if_pos (by omega), hr]
    unfold laws_toPivot.f
    simp only [Option.bind_some]
    rw [if_pos (by rw [step_len _ _ (by simp) _ (by simp; omega)]; simp; omega), wS hi (by omega), Int.toNat_natCast]
    have e := set_step (l.map cvPivot) (List.replicate l.length z119) (by simp) i (by simpa using hi)
    simp only [List.getElem_map] at e
    rw [← e]
    rfl
  · refine ev_const (fun k => ?_)
    simp only [laws_toPivotS.l0]
    rw [if_neg (by omega)]
    rw [List.take_of_length_le (by simp), List.drop_eq_nil_of_le (by simp), List.append_nil]

theorem toCracker_ev (v r : List Int) (p : List S143) (hv : v.length ≤ 1048576) (hr : r.length ≤ 1048576) (hp : p.length ≤ 1048576) : Ev (fun k => laws_toCracker.f k v r p) (v, r, p.map cvPivot) := by
  unfold laws_toCracker.f
  exact Ev.bind (toIntS_ev v hv) (Ev.bind (toIntS_ev r hr) (Ev.bind (toPivotS_ev p hp) (ev_some _)))

theorem eqIntS_ev (l m : List Int) (hl : l.length ≤ 4611686018427387904) : Ev (fun k => laws_eqIntS.f k l m) (decide (l = m)) := by
  unfold laws_eqIntS.f
  by_cases hlm : l.length = m.length
  · refine ev_ifp (by omega) ?_
    refine loop_ev l.length (fun i => ∀ j (h : j < l.length), j < i → l[j] = m[j]'(by omega)) (fun k i => laws_eqIntS.l0 k l m (i : Int)) (decide (l = m)) (fun j _ h => absurd h (Nat.not_lt_zero _)) ?_ ?_
    · intro i hi hc ih
      have hi2 : i < m.length := by omega
      by_cases e : l[i] = m[i]
      · refine Ev.step (fun k => ?_) (ih (fun j h hj => ?_))
        · simp only [laws_eqIntS.l0]
          simp only [if_pos (show (i : Int) < (l.length : Int) by omega), if_pos (show (0 : Int) ≤ (i : Int) by omega), if_pos (show (i : Int) < (m.length : Int) by omega), rd_nat hi, rd_nat hi2, if_pos e, wS hi (by omega)]
        · by_cases hji : j = i
          · subst hji; exact e
          · exact hc j h (by omega)
      · refine ev_const (fun k => ?_)
        simp only [laws_eqIntS.l0]
        simp only [if_pos (show (i : Int) < (l.length : Int) by omega), if_pos (show (0 : Int) ≤ (i : Int) by omega), if_pos (show (i : Int) < (m.length : Int) by omega), rd_nat hi, rd_nat hi2, if_neg e]
        have : l ≠ m := fun hh => e (by subst hh; rfl)
        simp [this]
    · intro hc
      refine ev_const (fun k => ?_)
      simp only [laws_eqIntS.l0]
      rw [if_neg (by omega)]
      have : l = m := List.ext_getElem hlm (fun j h1 h2 => hc j h1 h1)
      simp [this]
  · refine ev_ifn (by omega) ?_
    have : l ≠ m := fun hh => hlm (by rw [hh])
    exact ev_eq (ev_some _) (by simp [this])

theorem rdPivot {l : List S119} {i : Nat} (h : i < l.length) : rd_T119 l (i : Int) = l[i] := by
  unfold rd_T119; simp [List.getD_eq_getElem?_getD, List.getElem?_eq_getElem h]

theorem eqPivotS_ev (l : List S119) (hl : l.length ≤ 4611686018427387904) : Ev (fun k => laws_eqPivotS.f k l l) true := by
  unfold laws_eqPivotS.f
  refine ev_ifp rfl ?_
  refine down_ev l.length (fun k i => laws_eqPivotS.l0 k l l (i : Int)) true ?_ ?_
  · intro i hi ih
    refine Ev.step (fun k => ?_) ih
    simp only [laws_eqPivotS.l0]
    rw [if_pos (by omega), if_pos (by omega), if_pos (by omega), rdPivot hi]
    unfold laws_eqPivot.f
    rw [if_pos rfl, if_pos rfl, Option.bind_some, if_pos rfl, wS hi (by omega)]
  · refine ev_const (fun k => ?_)
    simp only [laws_eqPivotS.l0]
    rw [if_neg (by omega)]

theorem eqCracker_ev (v r : List Int) (p : List S119) (hv : v.length ≤ 4611686018427387904) (hr : r.length ≤ 4611686018427387904) (hp : p.length ≤ 4611686018427387904) : Ev (fun k => laws_eqCracker.f k v r p v r p) true := by
  unfold laws_eqCracker.f
  refine Ev.bind (eqIntS_ev v v hv) (ev_ifp (by simp) ?_)
  refine Ev.bind (eqIntS_ev r r hr) (ev_ifp (by simp) ?_)
  exact Ev.bind (eqPivotS_ev p hp) (ev_ifp rfl (ev_some _))

def rowAt (l : List Int) (v : Int) : Int := match l.findIdx? (fun x => x == v) with | some i => (i : Int) | none => -1
theorem rowAt_hit {l : List Int} {v : Int} {i : Nat} (hi : i < l.length) (he : l[i] = v) (hb : ∀ j (h : j < l.length), j < i → l[j] ≠ v) : rowAt l v = (i : Int) := by
  have : l.findIdx? (fun x => x == v) = some i := by
    rw [List.findIdx?_eq_some_iff_getElem]
    exact ⟨hi, by simp [he], fun j hj => by simp [hb j (by omega) hj]⟩
  unfold rowAt
  rw [this]
theorem rowAt_miss {l : List Int} {v : Int} (hb : ∀ j (h : j < l.length), l[j] ≠ v) : rowAt l v = -1 := by
  have : l.findIdx? (fun x => x == v) = none := by
    rw [List.findIdx?_eq_none_iff]
    intro x hx
    obtain ⟨j, hj, rfl⟩ := List.mem_iff_getElem.1 hx
    simp [hb j hj]
  unfold rowAt
  rw [this]
theorem rowAt_cases (l : List Int) (v : Int) : (rowAt l v = -1 ∧ v ∉ l) ∨ (∃ i, ∃ h : i < l.length, rowAt l v = (i : Int) ∧ l[i] = v) := by
  unfold rowAt
  cases h : l.findIdx? (fun x => x == v) with
  | none =>
    rw [List.findIdx?_eq_none_iff] at h
    exact .inl ⟨rfl, fun hv => by have := h v hv; simp at this⟩
  | some i =>
    obtain ⟨h1, h2, _⟩ := List.findIdx?_eq_some_iff_getElem.1 h
    exact .inr ⟨i, h1, rfl, by simpa using h2⟩
theorem rowAt_neg (l : List Int) (v : Int) : rowAt l v < 0 ↔ v ∉ l := by
  rcases rowAt_cases l v with ⟨h, hv⟩ | ⟨i, hi, h, he⟩
  · rw [h]; simp [hv]
  · rw [h]
    have : v ∈ l := he ▸ List.getElem_mem hi
    simp [this] <;> omega

theorem specFindRow_ev (v r : List Int) (p : List S119) (q : Int) (hl : r.length ≤ 4611686018427387904) : Ev (fun k => spec_FindRow.f k v r p q) (rowAt r q) := by
  unfold spec_FindRow.f
  refine loop_ev r.length (fun i => ∀ j (h : j < r.length), j < i → r[j] ≠ q) (fun k i => spec_FindRow.l0 k q (i : Int) v r p) _ (fun j _ h => absurd h (Nat.not_lt_zero _)) ?_ ?_
  · intro i hi hc ih
    by_cases e : r[i] = q
    · refine ev_const (fun k => ?_)
      simp only [spec_FindRow.l0]
      rw [if_pos (by omega), if_pos (by omega), rd_nat hi, if_pos e, rowAt_hit hi e hc]
    · refine Ev.step (fun k => ?_) (ih (fun j h hj => ?_))
      · simp only [spec_FindRow.l0]
        rw [if_pos (by omega), if_pos (by omega), rd_nat hi, if_neg e, wS hi (by omega)]
      · by_cases hji : j = i
        · subst hji; exact e
        · exact hc j h (by omega)
  · intro hc
    refine ev_const (fun k => ?_)
    simp only [spec_FindRow.l0]
    rw [if_neg (by omega), rowAt_miss (fun j h => hc j h h)]

theorem index_ev (r : List Int) (q : Int) (hl : r.length ≤ 4611686018427387904) : Ev (fun k => slices_Index_int_int.f k r q) (rowAt r q) := by
  unfold slices_Index_int_int.f
  refine loop_ev r.length (fun i => ∀ j (h : j < r.length), j < i → r[j] ≠ q) (fun k i => slices_Index_int_int.l0 k r q (r.length : Int) (i : Int)) _ (fun j _ h => absurd h (Nat.not_lt_zero _)) ?_ ?_
  · intro i hi hc ih
    by_cases e : r[i] = q
    · refine ev_const (fun k => ?_)
      simp only [slices_Index_int_int.l0]
      rw [if_pos (by omega), if_pos (by omega), if_pos (by omega), rd_nat hi, if_pos e.symm, rowAt_hit hi e hc]
    · refine Ev.step (fun k => ?_) (ih (fun j h hj => ?_))
      · simp only [slices_Index_int_int.l0]
        rw [if_pos (by omega), if_pos (by omega), if_pos (by omega), rd_nat hi, if_neg (fun h => e h.symm), wS hi (by omega)]
      · by_cases hji : j = i
        · subst hji; exact e
        · exact hc j h (by omega)
  · intro hc
    refine ev_const (fun k => ?_)
    simp only [slices_Index_int_int.l0]
    rw [if_neg (by omega), rowAt_miss (fun j h => hc j h h)]

theorem implFindRow_ev (v r : List Int) (p : List S119) (q : Int) (hl : r.length ≤ 4611686018427387904) : Ev (fun k => impl_FindRow.f k v r p q) (rowAt r q) := by
  unfold impl_FindRow.f
  exact Ev.bind (index_ev r q hl) (ev_some _)


end Go.Proofs.Ytmekpkajpjnkgaa.Pure.FnExactFindRow
namespace Go.Proofs.Ytmekpkajpjnkgaa.Pure
open Go.RowKit Go.Proofs.Ytmekpkajpjnkgaa.PFnExactFindRow Go.Proofs.YtmekpkajpjnkgaaW.PrintWords Go.Proofs.YtmekpkajpjnkgaaW.PrintLast Go.Proofs.YtmekpkajpjnkgaaW.PrintMore Go.Proofs.Ytmekpkajpjnkgaa.B Go.Proofs.Ytmekpkajpjnkgaa.Pure.FnExactFindRow
theorem FnExactFindRow : ∀ (l0_0 : List Int) (l0_1 : List Int) (l0_2 : List S143) (a1 : Int), (l0_0.length ≤ maxLen ∧ ∀ z ∈ l0_0, (Lit.int .i64 z).wf = true) → (l0_1.length ≤ maxLen ∧ ∀ z ∈ l0_1, (Lit.int .i64 z).wf = true) → (l0_2.length ≤ maxLen ∧ ∀ z ∈ l0_2, ((Lit.int .i64 z.f0).wf = true ∧ (Lit.int .i64 z.f1).wf = true)) → (Lit.int .i64 a1).wf = true → ∃ k, laws_FnExactFindRow.f k l0_0 l0_1 l0_2 a1 = some true := by
  intro v r p q ⟨hv, _⟩ ⟨hr, _⟩ ⟨hp, _⟩ _
  refine Ev.rounds (g := fun k => laws_FnExactFindRow.f k v r p q) ?_
  unfold laws_FnExactFindRow.f
  obtain ⟨t, ht, hc⟩ := szCracker_at v r p 1048576 (by omega) hv hr hp
  refine ev_pure ht ?_
  rcases hc with hc | ⟨h0, _, h1, h2, h3⟩
  · exact ev_ifp hc (ev_some _)
  refine ev_ifn (by omega) ?_
  have hm : (p.map cvPivot).length ≤ 4611686018427387904 := by simp; omega
  refine Ev.bind (toCracker_ev v r p h1 h2 h3) ?_
  refine Ev.bind (specFindRow_ev v r (p.map cvPivot) q (by omega)) ?_
  refine Ev.bind (toCracker_ev v r p h1 h2 h3) ?_
  refine Ev.bind (implFindRow_ev v r (p.map cvPivot) q (by omega)) ?_
  refine ev_ifp rfl ?_
  refine Ev.bind (toCracker_ev v r p h1 h2 h3) ?_
  refine Ev.bind (eqCracker_ev v r (p.map cvPivot) (by omega) (by omega) hm) ?_
  exact ev_ifp rfl (ev_some _)

end Go.Proofs.Ytmekpkajpjnkgaa.Pure
