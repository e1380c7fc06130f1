/- FormatRange of the program returns what the reference returns, for every range. No condition of ours. -/
import Derived.Test.YtboiejhiekgdmacDoorPFnExactFormatRangex0
import Derived.Test.YtboiejhiekgdmacDoorPFnExactFormatRangex1
import Derived.Test.YtboiejhiekgdmacDoorB
set_option linter.unusedVariables false
set_option linter.unusedSimpArgs false
namespace Go.Proofs.YtboiejhiekgdmacDoor.Pure.FnExactFormatRange
open Go.RowKit Go.Proofs.YtboiejhiekgdmacDoor.PFnExactFormatRange Go.Proofs.YtboiejhiekgdmacDoorW.PrintWords Go.Proofs.YtboiejhiekgdmacDoorW.PrintLast Go.Proofs.YtboiejhiekgdmacDoorW.PrintMore Go.Proofs.YtboiejhiekgdmacDoor.B

/-- The decimal digits of a number that is not 0; none for 0. -/
def digs (u : Nat) : List UInt8 := if u = 0 then [] else Lib.decDigits u
theorem digs_step {u : Nat} (h : 0 < u) : digs u = digs (u / 10) ++ [UInt8.ofNat (48 + u % 10)] := by
  unfold digs
  rw [if_neg (by omega), Lib.decDigits]
  by_cases h10 : u < 10
  · rw [dif_pos h10, if_pos (by omega), show u % 10 = u by omega]; rfl
  · rw [dif_neg h10, if_neg (by omega)]
theorem digs_len (u : Nat) : (digs u).length ≤ 1 + u / 10 := by
  induction u using Nat.strongRecOn with
  | _ u ih =>
    by_cases h : u = 0
    · subst h; simp [digs]
    · rw [digs_step (by omega), List.length_append, List.length_singleton]
      by_cases h10 : u < 10
      · have : u / 10 = 0 := by omega
        rw [this]; simp [digs]
      · have := ih (u / 10) (by omega); omega
def sgnB (b : Bool) : List UInt8 := if b then [45] else []
theorem ofInt_byte (m : Nat) (h : m < 10) : (wrap64 (48 + (m : Int))) % 256 = ((48 + m : Nat) : Int) := by
  rw [w64 (by omega) (by omega)]; omega
theorem str_one (m : Nat) (h : m < 10) (s : List UInt8) : strOfNums [((48 + m : Nat) : Int)] ++ (⟨s.toArray⟩ : ByteArray) = ⟨(UInt8.ofNat (48 + m) :: s).toArray⟩ := by
  apply ByteArray.ext
  rw [ByteArray.data_append]
  show (strOfNums [((48 + m : Nat) : Int)]).data ++ s.toArray = (UInt8.ofNat (48 + m) :: s).toArray
  rw [show (strOfNums [((48 + m : Nat) : Int)]).data = #[UInt8.ofNat (48 + m)] from rfl]
  simp
theorem fmt_loop (u : Nat) : ∀ (x : Int) (s : List UInt8) (neg : Bool), x.natAbs = u → -9223372036854775808 ≤ x → x ≤ 9223372036854775807 → s.length + (digs u).length ≤ 922337203685477600 →
    Ev (fun k => spec_FormatInt.l0 k x ⟨s.toArray⟩ neg) ⟨(sgnB neg ++ (digs u ++ s)).toArray⟩ := by
  induction u using Nat.strongRecOn with
  | _ u ih =>
    intro x s neg hu hl hh hs
    have hsz : (⟨s.toArray⟩ : ByteArray).size = s.length := by simp [ByteArray.size]
    by_cases h0 : x = 0
    · subst h0
      have : u = 0 := by omega
      subst this
      refine ev_const (fun k => ?_)
      simp only [spec_FormatInt.l0]
      rw [if_pos trivial, hsz]
      cases neg with
      | true =>
        rw [if_pos rfl, if_pos (by simp [digs] at hs; omega)]
        congr 1
      | false => rw [if_neg (by simp)]; simp [sgnB, digs]
    · have hu0 : 0 < u := by omega
      have hm : (Int.tmod x 10 < 0 → -(Int.tmod x 10) = ((u % 10 : Nat) : Int)) ∧ (¬ Int.tmod x 10 < 0 → Int.tmod x 10 = ((u % 10 : Nat) : Int)) := by
        have := tmod_cases x 10
        by_cases hx : 0 ≤ x
        · have := this.1 hx; omega
        · have := this.2 (by omega); omega
      have hd : (Int.tdiv x 10).natAbs = u / 10 ∧ -9223372036854775808 ≤ Int.tdiv x 10 ∧ Int.tdiv x 10 ≤ 9223372036854775807 := by
        have := tdiv_cases x 10
        by_cases hx : 0 ≤ x
        · have := this.1 hx; omega
        · have := this.2 (by omega); omega
      have hst := digs_step hu0
      have hlen : (digs u).length = (digs (u / 10)).length + 1 := by rw [hst]; simp
      have h := ih (u / 10) (by omega) (Int.tdiv x 10) (UInt8.ofNat (48 + u % 10) :: s) neg hd.1 hd.2.1 hd.2.2 (by simp; omega)
      refine ev_eq (Ev.step (fun k => ?_) h) (by rw [hst, List.append_assoc]; rfl)
      simp only [spec_FormatInt.l0]
      rw [if_neg h0, w64 (n := Int.tdiv x 10) hd.2.1 (by omega)]
      by_cases ht : Int.tmod x 10 < 0
      · rw [if_pos ht, hm.1 ht, Option.bind_some, w64 (n := ((u % 10 : Nat) : Int)) (by omega) (by omega), ofInt_byte _ (by omega), if_pos (by rw [strOfNums_size, hsz]; simp; omega), str_one _ (by omega)]
      · rw [if_neg ht, hm.2 ht, Option.bind_some, ofInt_byte _ (by omega), if_pos (by rw [strOfNums_size, hsz]; simp; omega), str_one _ (by omega)]
theorem fmt_spec (n : Int) (h0 : -9223372036854775808 ≤ n) (h1 : n ≤ 9223372036854775807) : Ev (fun k => spec_FormatInt.f k n) ⟨(Lib.itoa n).toArray⟩ := by
  unfold spec_FormatInt.f
  by_cases hz : n = 0
  · subst hz
    exact ev_ifp rfl (ev_eq (ev_some _) (by decide +kernel))
  · refine ev_ifn hz ?_
    have h := fmt_loop n.natAbs n [] (decide (n < 0)) rfl h0 h1 (by have := digs_len n.natAbs; simp; omega)
    have hne : n.natAbs ≠ 0 := by omega
    have hd : digs n.natAbs = Lib.decDigits n.natAbs := if_neg hne
    have e : (sgnB (decide (n < 0)) ++ (digs n.natAbs ++ [])) = Lib.itoa n := by
      rw [List.append_nil, hd]
      unfold Lib.itoa
      by_cases hn : n < 0
      · rw [decide_eq_true hn, if_pos hn]; rfl
      · rw [decide_eq_false hn, if_neg hn, show n.natAbs = n.toNat by omega]; rfl
    rw [e] at h
    exact h
theorem fmt_impl (n : Int) (h0 : -9223372036854775808 ≤ n) (h1 : n ≤ 9223372036854775807) : impl_FormatInt.f n = some ⟨(Lib.itoa n).toArray⟩ := by
  unfold impl_FormatInt.f strconv_Itoa.f
  rw [if_pos ⟨h0, h1⟩]
  rfl

def bs (l : List UInt8) : ByteArray := ⟨l.toArray⟩
theorem bs_app (a b : List UInt8) : bs a ++ bs b = bs (a ++ b) := by
  apply ByteArray.ext
  rw [ByteArray.data_append]
  simp [bs]
theorem bs_size (a : List UInt8) : (bs a).size = a.length := by simp [bs, ByteArray.size]

theorem itoa_len (n : Int) : (Lib.itoa n).length ≤ 3 + n.natAbs / 10 := by
  by_cases hz : n = 0
  · subst hz; decide +kernel
  · have hd : digs n.natAbs = Lib.decDigits n.natAbs := if_neg (by omega)
    have := digs_len n.natAbs
    unfold Lib.itoa
    by_cases hn : n < 0
    · rw [if_pos hn, List.length_cons, ← hd]; omega
    · rw [if_neg hn, show n.toNat = n.natAbs by omega, ← hd]; omega
theorem range_spec (a b : Int) : spec_IsRange.f a b = some (decide (-1000 ≤ a ∧ a ≤ b ∧ b ≤ 1000)) := by
  unfold spec_IsRange.f spec_l1In.f
  by_cases h0 : -1000 ≤ a
  · by_cases h1 : a ≤ 1000
    · by_cases h2 : a ≤ b
      · rw [if_pos h0, Option.bind_some, decide_eq_true h1, if_pos rfl, if_pos h2, Option.bind_some]; congr 1; exact decide_eq_decide.2 ⟨fun _ => by omega, fun _ => by omega⟩
      · rw [if_pos h0, Option.bind_some, decide_eq_true h1, if_pos rfl, if_neg (by omega), Option.bind_some]; congr 1; simp; omega
    · rw [if_pos h0, Option.bind_some, decide_eq_false h1, if_neg (by simp)]; congr 1; simp; omega
  · rw [if_neg (by omega), Option.bind_some, if_neg (by simp)]; congr 1; simp; omega
theorem range_impl (a b : Int) : impl_IsRange.f a b = some (decide (-1000 ≤ a ∧ a ≤ b ∧ b ≤ 1000)) := by
  unfold impl_IsRange.f
  by_cases h0 : -1000 ≤ a
  · by_cases h2 : a ≤ b
    · rw [if_pos h0, if_pos h2]; congr 1; exact decide_eq_decide.2 ⟨fun _ => by omega, fun _ => by omega⟩
    · rw [if_pos h0, if_neg h2]; congr 1; simp; omega
  · rw [if_neg h0]; congr 1; simp; omega
/-- A range's text. -/
def rangeText (a b : Int) : List UInt8 := if -1000 ≤ a ∧ a ≤ b ∧ b ≤ 1000 then Lib.itoa a ++ (46 :: 46 :: Lib.itoa b) else []
theorem fmtRange_spec (a b : Int) : Ev (fun k => spec_FormatRange.f k a b) (bs (rangeText a b)) := by
  unfold spec_FormatRange.f
  refine ev_pure (range_spec a b) ?_
  by_cases h : -1000 ≤ a ∧ a ≤ b ∧ b ≤ 1000
  · refine ev_ifp (by simpa using h) ?_
    have la := itoa_len a
    have lb := itoa_len b
    refine Ev.bind (fmt_spec a (by omega) (by omega)) ?_
    refine ev_ifp (by show (bs (Lib.itoa a)).size + 2 ≤ _; rw [bs_size]; omega) ?_
    refine Ev.bind (fmt_spec b (by omega) (by omega)) ?_
    have e : (⟨(Lib.itoa a).toArray⟩ : ByteArray) ++ (⟨#[46, 46]⟩ : ByteArray) = bs (Lib.itoa a ++ [46, 46]) := bs_app (Lib.itoa a) [46, 46]
    refine ev_ifp (by rw [e]; show _ + (bs (Lib.itoa b)).size ≤ _; rw [bs_size, bs_size]; simp; omega) ?_
    refine ev_eq (ev_some _) ?_
    rw [e]
    show bs (Lib.itoa a ++ [46, 46]) ++ bs (Lib.itoa b) = _
    rw [bs_app, rangeText, if_pos h]
    simp
  · refine ev_ifn (by simpa using h) ?_
    rw [rangeText, if_neg h]
    exact ev_some _
theorem fmtRange_impl (a b : Int) : impl_FormatRange.f a b = some (bs (rangeText a b)) := by
  unfold impl_FormatRange.f
  rw [range_impl a b, Option.bind_some]
  by_cases h : -1000 ≤ a ∧ a ≤ b ∧ b ≤ 1000
  · have la := itoa_len a
    have lb := itoa_len b
    have e : (⟨(Lib.itoa a).toArray⟩ : ByteArray) ++ (⟨#[46, 46]⟩ : ByteArray) = bs (Lib.itoa a ++ [46, 46]) := bs_app (Lib.itoa a) [46, 46]
    rw [if_pos (by simpa using h), fmt_impl a (by omega) (by omega), Option.bind_some, if_pos (by show (bs (Lib.itoa a)).size + 2 ≤ _; rw [bs_size]; omega), fmt_impl b (by omega) (by omega), Option.bind_some,
      if_pos (by rw [e]; show _ + (bs (Lib.itoa b)).size ≤ _; rw [bs_size, bs_size]; simp; omega), e]
    show some (bs (Lib.itoa a ++ [46, 46]) ++ bs (Lib.itoa b)) = _
    rw [bs_app, rangeText, if_pos h]
    simp
  · rw [if_neg (by simpa using h), rangeText, if_neg h]
    rfl


end Go.Proofs.YtboiejhiekgdmacDoor.Pure.FnExactFormatRange
namespace Go.Proofs.YtboiejhiekgdmacDoor.Pure
open Go.RowKit Go.Proofs.YtboiejhiekgdmacDoor.PFnExactFormatRange Go.Proofs.YtboiejhiekgdmacDoorW.PrintWords Go.Proofs.YtboiejhiekgdmacDoorW.PrintLast Go.Proofs.YtboiejhiekgdmacDoorW.PrintMore Go.Proofs.YtboiejhiekgdmacDoor.B Go.Proofs.YtboiejhiekgdmacDoor.Pure.FnExactFormatRange
theorem FnExactFormatRange : ∀ (a0_0 : Int) (a0_1 : Int), (Lit.int .i64 a0_0).wf = true → (Lit.int .i64 a0_1).wf = true → ∃ k, laws_FnExactFormatRange.f k a0_0 a0_1 = some true := by
  intro a b wa wb
  refine Ev.rounds (g := fun k => laws_FnExactFormatRange.f k a b) ?_
  unfold laws_FnExactFormatRange.f
  refine ev_pure (a := (a, b)) rfl ?_
  refine Ev.bind (fmtRange_spec a b) ?_
  refine ev_pure (a := (a, b)) rfl ?_
  refine ev_pure (fmtRange_impl a b) ?_
  exact ev_ifp rfl (ev_some _)

end Go.Proofs.YtboiejhiekgdmacDoor.Pure
