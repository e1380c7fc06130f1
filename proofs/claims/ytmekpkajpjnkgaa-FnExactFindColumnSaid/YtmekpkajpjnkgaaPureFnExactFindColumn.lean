/- FindColumn of the program returns what the reference returns, for every table and name, and leaves the table as it was. No condition. -/
import Derived.Test.YtmekpkajpjnkgaaPFnExactFindColumnx0
import Derived.Test.YtmekpkajpjnkgaaPFnExactFindColumnx1
import Derived.Test.YtmekpkajpjnkgaaPFnExactFindColumnx2
import Derived.Test.YtmekpkajpjnkgaaPFnExactFindColumnx3
import Derived.Test.YtmekpkajpjnkgaaB
set_option linter.unusedVariables false
set_option linter.unusedSimpArgs false
namespace Go.Proofs.Ytmekpkajpjnkgaa.Pure.FnExactFindColumn
open Go.RowKit Go.Proofs.Ytmekpkajpjnkgaa.PFnExactFindColumn Go.Proofs.YtmekpkajpjnkgaaW.PrintWords Go.Proofs.YtmekpkajpjnkgaaW.PrintLast Go.Proofs.YtmekpkajpjnkgaaW.PrintMore Go.Proofs.Ytmekpkajpjnkgaa.B

theorem szIntS_at (l : List Int) (a : Int) (ha : 0 ≤ a ∧ a ≤ 1048576) (hl : l.length ≤ maxLen) : laws_szIntS.f l a = some (if (l.length : Int) ≤ a then a - l.length else -1) := by
  unfold maxLen at hl
  unfold laws_szIntS.f
  rw [w64 (n := a - (l.length : Int)) (by omega) (by omega)]
  by_cases h : (l.length : Int) ≤ a
  · rw [if_neg (by omega), if_pos h]
  · rw [if_pos (by omega), if_neg h]

theorem toIntS_ev (l : List Int) (hl : l.length ≤ 1048576) : Ev (fun k => laws_toIntS.f k l) l := by
  unfold laws_toIntS.f
  refine ev_ifp (by omega) (ev_ifp (by omega) ?_)
  rw [show ((l.length : Int)).toNat = l.length by omega]
  have h := down_ev l.length (fun k i => laws_toIntS.l0 k l (l.take i ++ (List.replicate l.length (0 : Int)).drop i) (i : Int)) l ?_ ?_
  · simpa using h
  · intro i hi ih
    refine Ev.step (fun k => ?_) ih
    simp only [laws_toIntS.l0]
    rw [if_pos (by omega), if_pos (by omega), if_pos (by rw [step_len _ _ (by simp) _ (by omega)]; omega), rd_nat hi, wS hi (by omega), Int.toNat_natCast, set_step _ _ (by simp) _ hi]
  · refine ev_const (fun k => ?_)
    simp only [laws_toIntS.l0]
    rw [if_neg (by omega)]
    simp

theorem eqIntS_ev (l m : List Int) (hl : l.length ≤ 4611686018427387904) : Ev (fun k => laws_eqIntS.f k l m) (decide (l = m)) := by
  unfold laws_eqIntS.f
  by_cases hlm : l.length = m.length
  · refine ev_ifp (by omega) ?_
    refine loop_ev l.length (fun i => ∀ j (h : j < l.length), j < i → l[j] = m[j]'(by omega)) (fun k i => laws_eqIntS.l0 k l m (i : Int)) (decide (l = m)) (fun j _ h => absurd h (Nat.not_lt_zero _)) ?_ ?_
    · intro i hi hc ih
      have hi2 : i < m.length := by omega
      by_cases e : l[i] = m[i]
      · refine Ev.step (fun k => ?_) (ih (fun j h hj => ?_))
        · simp only [laws_eqIntS.l0]
          simp only [if_pos (show (i : Int) < (l.length : Int) by omega), if_pos (show (0 : Int) ≤ (i : Int) by omega), if_pos (show (i : Int) < (m.length : Int) by omega), rd_nat hi, rd_nat hi2, if_pos e, wS hi (by omega)]
        · by_cases hji : j = i
          · subst hji; exact e
          · exact hc j h (by omega)
      · refine ev_const (fun k => ?_)
        simp only [laws_eqIntS.l0]
        simp only [if_pos (show (i : Int) < (l.length : Int) by omega), if_pos (show (0 : Int) ≤ (i : Int) by omega), if_pos (show (i : Int) < (m.length : Int) by omega), rd_nat hi, rd_nat hi2, if_neg e]
        have : l ≠ m := fun hh => e (by subst hh; rfl)
        simp [this]
    · intro hc
      refine ev_const (fun k => ?_)
      simp only [laws_eqIntS.l0]
      rw [if_neg (by omega)]
      have : l = m := List.ext_getElem hlm (fun j h1 h2 => hc j h1 h1)
      simp [this]
  · refine ev_ifn (by omega) ?_
    have : l ≠ m := fun hh => hlm (by rw [hh])
    exact ev_eq (ev_some _) (by simp [this])

def cvColumn (x : S146) : S124 := ⟨x.f0, x.f1⟩
theorem rdColumn {l : List S124} {i : Nat} (h : i < l.length) : rd_T124 l (i : Int) = l[i] := by
  unfold rd_T124; simp [List.getD_eq_getElem?_getD, List.getElem?_eq_getElem h]
theorem rdLColumn {l : List S146} {i : Nat} (h : i < l.length) : rd_T146 l (i : Int) = l[i] := by
  unfold rd_T146; simp [List.getD_eq_getElem?_getD, List.getElem?_eq_getElem h]
theorem szColumn_at (s : ByteArray) (v : List Int) (a : Int) (ha : 0 ≤ a ∧ a ≤ 1048576) (hs : s.size ≤ maxLen) (hv : v.length ≤ maxLen) :
    ∃ t, laws_szColumn.f s v a = some t ∧ (t < 0 ∨ (0 ≤ t ∧ t ≤ a ∧ s.size ≤ 1048576 ∧ v.length ≤ 1048576)) := by
  unfold maxLen at hs
  unfold laws_szColumn.f
  rw [w64 (n := a - (s.size : Int)) (by omega) (by omega)]
  by_cases h1 : a - (s.size : Int) < 0
  · rw [if_pos h1]; exact ⟨_, rfl, .inl (by omega)⟩
  · rw [if_neg h1, szIntS_at v _ (by omega) hv, Option.bind_some]
    by_cases h2 : (v.length : Int) ≤ a - s.size
    · rw [if_pos h2, if_neg (by omega)]; exact ⟨_, rfl, .inr ⟨by omega, by omega, by omega, by omega⟩⟩
    · rw [if_neg h2, if_pos (by omega)]; exact ⟨_, rfl, .inl (by omega)⟩
theorem szColumnS_l0 (l : List S146) (hl : l.length ≤ 1048576) (hz : ∀ z ∈ l, z.f0.size ≤ maxLen ∧ z.f1.length ≤ maxLen) : ∀ (d i : Nat) (a : Int), i + d = l.length → 0 ≤ a ∧ a ≤ 1048576 →
    ∃ t, Ev (fun k => laws_szColumnS.l0 k l a (i : Int)) t ∧ (t < 0 ∨ (0 ≤ t ∧ t ≤ a ∧ ∀ j (h : j < l.length), i ≤ j → l[j].f0.size ≤ 1048576 ∧ l[j].f1.length ≤ 1048576)) := by
  intro d
  induction d with
  | zero =>
    intro i a hi ha
    refine ⟨a, ev_const (fun k => ?_), .inr ⟨ha.1, Int.le_refl _, fun j h hj => by omega⟩⟩
    simp only [laws_szColumnS.l0]
    rw [if_neg (by omega)]
  | succ d ih =>
    intro i a hi ha
    have hil : i < l.length := by omega
    have hm := hz _ (List.getElem_mem hil)
    obtain ⟨t, ht, hc⟩ := szColumn_at l[i].f0 l[i].f1 a ha hm.1 hm.2
    rcases hc with hc | ⟨h0, h1, h2, h3⟩
    · refine ⟨-1, ev_const (fun k => ?_), .inl (by omega)⟩
      simp only [laws_szColumnS.l0]
      rw [if_pos (by omega), if_pos (by omega), rdLColumn hil, ht, Option.bind_some, if_pos hc]
    · obtain ⟨t2, e2, c2⟩ := ih (i + 1) t (by omega) (by omega)
      refine ⟨t2, Ev.step (fun k => ?_) e2, ?_⟩
      · simp only [laws_szColumnS.l0]
        rw [if_pos (by omega), if_pos (by omega), rdLColumn hil, ht, Option.bind_some, if_neg (by omega), wS hil (by omega)]
      · rcases c2 with c2 | ⟨g0, g1, g2⟩
        · exact .inl c2
        · refine .inr ⟨g0, by omega, fun j h hj => ?_⟩
          by_cases e : j = i
          · subst e; exact ⟨h2, h3⟩
          · exact g2 j h (by omega)
theorem szTable_at (l : List S146) (hl : l.length ≤ maxLen) (hz : ∀ z ∈ l, z.f0.size ≤ maxLen ∧ z.f1.length ≤ maxLen) :
    ∃ t, Ev (fun k => laws_szTable.f k l 1048576) t ∧ (t < 0 ∨ (0 ≤ t ∧ l.length ≤ 1048576 ∧ ∀ z ∈ l, z.f0.size ≤ 1048576 ∧ z.f1.length ≤ 1048576)) := by
  unfold maxLen at hl
  unfold laws_szTable.f laws_szColumnS.f
  rw [w64 (n := 1048576 - (l.length : Int)) (by omega) (by omega)]
  by_cases h : 1048576 - (l.length : Int) < 0
  · exact ⟨-1, Ev.bind (ev_ifp h (ev_some (-1 : Int))) (ev_ifp (by omega) (ev_some _)), .inl (by omega)⟩
  · obtain ⟨t, e, c⟩ := szColumnS_l0 l (by omega) hz l.length 0 (1048576 - (l.length : Int)) (by omega) (by omega)
    rcases c with c | ⟨g0, g1, g2⟩
    · exact ⟨-1, Ev.bind (ev_ifn h e) (ev_ifp c (ev_some _)), .inl (by omega)⟩
    · refine ⟨t, Ev.bind (ev_ifn h e) (ev_ifn (by omega) (ev_some _)), .inr ⟨g0, by omega, fun z hz => ?_⟩⟩
      obtain ⟨j, hj, rfl⟩ := List.mem_iff_getElem.1 hz
      exact g2 j hj (Nat.zero_le _)
theorem toTable_ev (l : List S146) (hl : l.length ≤ 1048576) (hz : ∀ z ∈ l, z.f0.size ≤ 1048576 ∧ z.f1.length ≤ 1048576) : Ev (fun k => laws_toTable.f k l) (l.map cvColumn) := by
  unfold laws_toTable.f
  refine Ev.bind ?_ (ev_some _)
  unfold laws_toColumnS.f
  refine ev_ifp (by omega) (ev_ifp (by omega) ?_)
  rw [show ((l.length : Int)).toNat = l.length by omega]
  have h := down_ev l.length (fun k i => laws_toColumnS.l0 k l ((l.map cvColumn).take i ++ (List.replicate l.length z124).drop i) (i : Int)) (l.map cvColumn) ?_ ?_
  · simpa using h
  · intro i hi ih
    have hm := hz _ (List.getElem_mem hi)
    apply Ev.step
    · intro k; simp only [laws_toColumnS.l0]; rfl
    refine ev_ifp (by omega) (ev_ifp (by omega) ?_)
    rw [rdLColumn hi]
    unfold laws_toColumn.f
    refine Ev.bind (Ev.bind (toIntS_ev l[i].f1 hm.2) (ev_some _)) (ev_ifp ?_ ?_)
    · rw [step_len _ _ (by simp) _ (by simp; omega)]; simp; omega
    · rw [wS hi (by omega), Int.toNat_natCast]
      have e := set_step (l.map cvColumn) (List.replicate l.length z124) (by simp) i (by simpa using hi)
      simp only [List.getElem_map] at e
      rw [← e] at ih
      exact ih
  · refine ev_const (fun k => ?_)
    simp only [laws_toColumnS.l0]
    rw [if_neg (by omega)]
    rw [List.take_of_length_le (by simp), List.drop_eq_nil_of_le (by simp), List.append_nil]
theorem eqTable_ev (l : List S124) (hl : l.length ≤ 4611686018427387904) (hz : ∀ z ∈ l, z.f1.length ≤ 4611686018427387904) : Ev (fun k => laws_eqTable.f k l l) true := by
  unfold laws_eqTable.f
  refine Ev.bind ?_ (ev_ifp rfl (ev_some _))
  unfold laws_eqColumnS.f
  refine ev_ifp rfl ?_
  refine down_ev l.length (fun k i => laws_eqColumnS.l0 k l l (i : Int)) true ?_ ?_
  · intro i hi ih
    apply Ev.step
    · intro k; simp only [laws_eqColumnS.l0]; rfl
    refine ev_ifp (by omega) (ev_ifp (by omega) (ev_ifp (by omega) ?_))
    rw [rdColumn hi]
    unfold laws_eqColumn.f
    refine Ev.bind (ev_ifp rfl (Ev.bind (eqIntS_ev l[i].f1 l[i].f1 (hz _ (List.getElem_mem hi))) (ev_ifp (by simp) (ev_some _)))) (ev_ifp rfl ?_)
    rw [wS hi (by omega)]
    exact ih
  · refine ev_const (fun k => ?_)
    simp only [laws_eqColumnS.l0]
    rw [if_neg (by omega)]
theorem cvColumn_all {l : List S146} (hz : ∀ z ∈ l, z.f0.size ≤ 1048576 ∧ z.f1.length ≤ 1048576) : ∀ z ∈ l.map cvColumn, z.f0.size ≤ 1048576 ∧ z.f1.length ≤ 1048576 := by
  intro z h
  obtain ⟨y, hy, rfl⟩ := List.mem_map.1 h
  exact hz y hy

def colP (nm : ByteArray) (x : S124) : Bool := x.f0.toList == nm.toList
def colAt (l : List S124) (nm : ByteArray) : Int := Giv.fidx (colP nm) l
theorem implFindColumn (l : List S124) (nm : ByteArray) : impl_FindColumn.f l nm = some (colAt l nm) := rfl

theorem specFindColumn_ev (l : List S124) (nm : ByteArray) (hl : l.length ≤ 4611686018427387904) : Ev (fun k => spec_FindColumn.f k l nm) (colAt l nm) := by
  unfold spec_FindColumn.f
  refine loop_ev l.length (fun i => ∀ j (h : j < l.length), j < i → colP nm l[j] = false) (fun k i => spec_FindColumn.l0 k nm (i : Int) l) _ (fun j _ h => absurd h (Nat.not_lt_zero _)) ?_ ?_
  · intro i hi hc ih
    cases e : colP nm l[i] with
    | true =>
      refine ev_const (fun k => ?_)
      simp only [spec_FindColumn.l0]
      have e2 : l[i].f0.toList = nm.toList := by unfold colP at e; simpa using e
      rw [if_pos (by omega), if_pos (by omega), rdColumn hi, if_pos e2]
      have := Giv.fidx_hit (p := colP nm) (List.getElem?_eq_getElem hi) e (fun j x hj hx => by
        obtain ⟨h1, rfl⟩ := List.getElem?_eq_some_iff.1 hx
        exact hc j h1 hj)
      unfold colAt
      rw [this]
    | false =>
      refine Ev.step (fun k => ?_) (ih (fun j h hj => ?_))
      · simp only [spec_FindColumn.l0]
        have e2 : ¬ l[i].f0.toList = nm.toList := by unfold colP at e; simpa using e
        rw [if_pos (by omega), if_pos (by omega), rdColumn hi, if_neg e2, wS hi (by omega)]
      · by_cases hji : j = i
        · subst hji; exact e
        · exact hc j h (by omega)
  · intro hc
    refine ev_const (fun k => ?_)
    simp only [spec_FindColumn.l0]
    rw [if_neg (by omega)]
    unfold colAt
    rw [Giv.fidx_miss (fun j x hj hx => by
      obtain ⟨h1, rfl⟩ := List.getElem?_eq_some_iff.1 hx
      exact hc j h1 h1)]


end Go.Proofs.Ytmekpkajpjnkgaa.Pure.FnExactFindColumn
namespace Go.Proofs.Ytmekpkajpjnkgaa.Pure
open Go.RowKit Go.Proofs.Ytmekpkajpjnkgaa.PFnExactFindColumn Go.Proofs.YtmekpkajpjnkgaaW.PrintWords Go.Proofs.YtmekpkajpjnkgaaW.PrintLast Go.Proofs.YtmekpkajpjnkgaaW.PrintMore Go.Proofs.Ytmekpkajpjnkgaa.B Go.Proofs.Ytmekpkajpjnkgaa.Pure.FnExactFindColumn
theorem FnExactFindColumn : ∀ (l0_0 : List S146) (a1 : ByteArray), (l0_0.length ≤ maxLen ∧ ∀ z ∈ l0_0, (z.f0.size ≤ maxLen ∧ (z.f1.length ≤ maxLen ∧ ∀ zz ∈ z.f1, (Lit.int .i64 zz).wf = true))) → a1.size ≤ 140737488351232 → ∃ k, laws_FnExactFindColumn.f k l0_0 a1 = some true := by
  intro l nm ⟨hl, hz⟩ hn
  refine Ev.rounds (g := fun k => laws_FnExactFindColumn.f k l nm) ?_
  unfold laws_FnExactFindColumn.f
  by_cases hb : (nm.size : Int) > 1048576
  · exact ev_ifp hb (ev_some _)
  refine ev_ifn hb ?_
  obtain ⟨t, ht, hc⟩ := szTable_at l hl (fun z h => ⟨(hz z h).1, (hz z h).2.1⟩)
  refine Ev.bind ht ?_
  rcases hc with hc | ⟨h0, h1, h2⟩
  · exact ev_ifp hc (ev_some _)
  refine ev_ifn (by omega) ?_
  have hm : (l.map cvColumn).length ≤ 1048576 := by simpa using h1
  have hq := cvColumn_all h2
  refine Ev.bind (toTable_ev l h1 h2) ?_
  refine Ev.bind (specFindColumn_ev _ nm (by omega)) ?_
  refine Ev.bind (toTable_ev l h1 h2) ?_
  refine ev_pure (implFindColumn _ nm) ?_
  refine ev_ifp rfl ?_
  refine Ev.bind (toTable_ev l h1 h2) ?_
  refine Ev.bind (eqTable_ev (l.map cvColumn) (by omega) (fun z h => by have := (hq z h).2; omega)) ?_
  exact ev_ifp rfl (ev_some _)

end Go.Proofs.Ytmekpkajpjnkgaa.Pure
