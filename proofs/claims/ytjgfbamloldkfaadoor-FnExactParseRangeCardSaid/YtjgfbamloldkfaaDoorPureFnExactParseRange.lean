/- ParseRange of the program returns what the reference returns, for every text. No condition of ours. -/
import Derived.Test.YtjgfbamloldkfaaDoorPFnExactParseRangex0
import Derived.Test.YtjgfbamloldkfaaDoorPFnExactParseRangex1
import Derived.Test.YtjgfbamloldkfaaDoorPFnExactParseRangex2
import Derived.Test.YtjgfbamloldkfaaDoorPFnExactParseRangex3
import Derived.Test.YtjgfbamloldkfaaDoorPFnExactParseRangex4
import Derived.Test.YtjgfbamloldkfaaDoorB
set_option linter.unusedVariables false
set_option linter.unusedSimpArgs false
namespace Go.Proofs.YtjgfbamloldkfaaDoor.Pure.FnExactParseRange
open Go.RowKit Go.Proofs.YtjgfbamloldkfaaDoor.PFnExactParseRange Go.Proofs.YtjgfbamloldkfaaDoorW.PrintWords Go.Proofs.YtjgfbamloldkfaaDoorW.PrintLast Go.Proofs.YtjgfbamloldkfaaDoorW.PrintMore Go.Proofs.YtjgfbamloldkfaaDoor.B

/-- The decimal digits of a number that is not 0; none for 0. -/
def digs (u : Nat) : List UInt8 := if u = 0 then [] else Lib.decDigits u
theorem digs_step {u : Nat} (h : 0 < u) : digs u = digs (u / 10) ++ [UInt8.ofNat (48 + u % 10)] := by
  unfold digs
  rw [if_neg (by omega), Lib.decDigits]
  by_cases h10 : u < 10
  · rw [dif_pos h10, if_pos (by omega), show u % 10 = u by omega]; rfl
  · rw [dif_neg h10, if_neg (by omega)]
theorem digs_len (u : Nat) : (digs u).length ≤ 1 + u / 10 := by
  induction u using Nat.strongRecOn with
  | _ u ih =>
    by_cases h : u = 0
    · subst h; simp [digs]
    · rw [digs_step (by omega), List.length_append, List.length_singleton]
      by_cases h10 : u < 10
      · have : u / 10 = 0 := by omega
        rw [this]; simp [digs]
      · have := ih (u / 10) (by omega); omega
def sgnB (b : Bool) : List UInt8 := if b then [45] else []
theorem ofInt_byte (m : Nat) (h : m < 10) : (wrap64 (48 + (m : Int))) % 256 = ((48 + m : Nat) : Int) := by
  rw [w64 (by omega) (by omega)]; omega
theorem str_one (m : Nat) (h : m < 10) (s : List UInt8) : strOfNums [((48 + m : Nat) : Int)] ++ (⟨s.toArray⟩ : ByteArray) = ⟨(UInt8.ofNat (48 + m) :: s).toArray⟩ := by
  apply ByteArray.ext
  rw [ByteArray.data_append]
  show (strOfNums [((48 + m : Nat) : Int)]).data ++ s.toArray = (UInt8.ofNat (48 + m) :: s).toArray
  rw [show (strOfNums [((48 + m : Nat) : Int)]).data = #[UInt8.ofNat (48 + m)] from rfl]
  simp
theorem fmt_loop (u : Nat) : ∀ (x : Int) (s : List UInt8) (neg : Bool), x.natAbs = u → -9223372036854775808 ≤ x → x ≤ 9223372036854775807 → s.length + (digs u).length ≤ 922337203685477600 →
    Ev (fun k => spec_FormatInt.l0 k x ⟨s.toArray⟩ neg) ⟨(sgnB neg ++ (digs u ++ s)).toArray⟩ := by
  induction u using Nat.strongRecOn with
  | _ u ih =>
    intro x s neg hu hl hh hs
    have hsz : (⟨s.toArray⟩ : ByteArray).size = s.length := by simp [ByteArray.size]
    by_cases h0 : x = 0
    · subst h0
      have : u = 0 := by omega
      subst this
      refine ev_const (fun k => ?_)
      simp only [spec_FormatInt.l0]
      rw [if_pos trivial, hsz]
      cases neg with
      | true =>
        rw [if_pos rfl, if_pos (by simp [digs] at hs; omega)]
        congr 1
      | false => rw [if_neg (by simp)]; simp [sgnB, digs]
    · have hu0 : 0 < u := by omega
      have hm : (Int.tmod x 10 < 0 → -(Int.tmod x 10) = ((u % 10 : Nat) : Int)) ∧ (¬ Int.tmod x 10 < 0 → Int.tmod x 10 = ((u % 10 : Nat) : Int)) := by
        have := tmod_cases x 10
        by_cases hx : 0 ≤ x
        · have := this.1 hx; omega
        · have := this.2 (by omega); omega
      have hd : (Int.tdiv x 10).natAbs = u / 10 ∧ -9223372036854775808 ≤ Int.tdiv x 10 ∧ Int.tdiv x 10 ≤ 9223372036854775807 := by
        have := tdiv_cases x 10
        by_cases hx : 0 ≤ x
        · have := this.1 hx; omega
        · have := this.2 (by omega); omega
      have hst := digs_step hu0
      have hlen : (digs u).length = (digs (u / 10)).length + 1 := by rw [hst]; simp
      have h := ih (u / 10) (by omega) (Int.tdiv x 10) (UInt8.ofNat (48 + u % 10) :: s) neg hd.1 hd.2.1 hd.2.2 (by simp; omega)
      refine ev_eq (Ev.step (fun k => ?_) h) (by rw [hst, List.append_assoc]; rfl)
      simp only [spec_FormatInt.l0]
      rw [if_neg h0, w64 (n := Int.tdiv x 10) hd.2.1 (by omega)]
      by_cases ht : Int.tmod x 10 < 0
      · rw [if_pos ht, hm.1 ht, Option.bind_some, w64 (n := ((u % 10 : Nat) : Int)) (by omega) (by omega), ofInt_byte _ (by omega), if_pos (by rw [strOfNums_size, hsz]; simp; omega), str_one _ (by omega)]
      · rw [if_neg ht, hm.2 ht, Option.bind_some, ofInt_byte _ (by omega), if_pos (by rw [strOfNums_size, hsz]; simp; omega), str_one _ (by omega)]
theorem fmt_spec (n : Int) (h0 : -9223372036854775808 ≤ n) (h1 : n ≤ 9223372036854775807) : Ev (fun k => spec_FormatInt.f k n) ⟨(Lib.itoa n).toArray⟩ := by
  unfold spec_FormatInt.f
  by_cases hz : n = 0
  · subst hz
    exact ev_ifp rfl (ev_eq (ev_some _) (by decide +kernel))
  · refine ev_ifn hz ?_
    have h := fmt_loop n.natAbs n [] (decide (n < 0)) rfl h0 h1 (by have := digs_len n.natAbs; simp; omega)
    have hne : n.natAbs ≠ 0 := by omega
    have hd : digs n.natAbs = Lib.decDigits n.natAbs := if_neg hne
    have e : (sgnB (decide (n < 0)) ++ (digs n.natAbs ++ [])) = Lib.itoa n := by
      rw [List.append_nil, hd]
      unfold Lib.itoa
      by_cases hn : n < 0
      · rw [decide_eq_true hn, if_pos hn]; rfl
      · rw [decide_eq_false hn, if_neg hn, show n.natAbs = n.toNat by omega]; rfl
    rw [e] at h
    exact h
theorem fmt_impl (n : Int) (h0 : -9223372036854775808 ≤ n) (h1 : n ≤ 9223372036854775807) : impl_FormatInt.f n = some ⟨(Lib.itoa n).toArray⟩ := by
  unfold impl_FormatInt.f strconv_Itoa.f
  rw [if_pos ⟨h0, h1⟩]
  rfl

def bs (l : List UInt8) : ByteArray := ⟨l.toArray⟩
theorem bs_app (a b : List UInt8) : bs a ++ bs b = bs (a ++ b) := by
  apply ByteArray.ext
  rw [ByteArray.data_append]
  simp [bs]
theorem bs_size (a : List UInt8) : (bs a).size = a.length := by simp [bs, ByteArray.size]

theorem itoa_len (n : Int) : (Lib.itoa n).length ≤ 3 + n.natAbs / 10 := by
  by_cases hz : n = 0
  · subst hz; decide +kernel
  · have hd : digs n.natAbs = Lib.decDigits n.natAbs := if_neg (by omega)
    have := digs_len n.natAbs
    unfold Lib.itoa
    by_cases hn : n < 0
    · rw [if_pos hn, List.length_cons, ← hd]; omega
    · rw [if_neg hn, show n.toNat = n.natAbs by omega, ← hd]; omega
theorem range_spec (a b : Int) : spec_IsRange.f a b = some (decide (-1000 ≤ a ∧ a ≤ b ∧ b ≤ 1000)) := by
  unfold spec_IsRange.f spec_l1In.f
  by_cases h0 : -1000 ≤ a
  · by_cases h1 : a ≤ 1000
    · by_cases h2 : a ≤ b
      · rw [if_pos h0, Option.bind_some, decide_eq_true h1, if_pos rfl, if_pos h2, Option.bind_some]; congr 1; exact decide_eq_decide.2 ⟨fun _ => by omega, fun _ => by omega⟩
      · rw [if_pos h0, Option.bind_some, decide_eq_true h1, if_pos rfl, if_neg (by omega), Option.bind_some]; congr 1; simp; omega
    · rw [if_pos h0, Option.bind_some, decide_eq_false h1, if_neg (by simp)]; congr 1; simp; omega
  · rw [if_neg (by omega), Option.bind_some, if_neg (by simp)]; congr 1; simp; omega
theorem range_impl (a b : Int) : impl_IsRange.f a b = some (decide (-1000 ≤ a ∧ a ≤ b ∧ b ≤ 1000)) := by
  unfold impl_IsRange.f
  by_cases h0 : -1000 ≤ a
  · by_cases h2 : a ≤ b
    · rw [if_pos h0, if_pos h2]; congr 1; exact decide_eq_decide.2 ⟨fun _ => by omega, fun _ => by omega⟩
    · rw [if_pos h0, if_neg h2]; congr 1; simp; omega
  · rw [if_neg h0]; congr 1; simp; omega
/-- A range's text. -/
def rangeText (a b : Int) : List UInt8 := if -1000 ≤ a ∧ a ≤ b ∧ b ≤ 1000 then Lib.itoa a ++ (46 :: 46 :: Lib.itoa b) else []
theorem fmtRange_spec (a b : Int) : Ev (fun k => spec_FormatRange.f k a b) (bs (rangeText a b)) := by
  unfold spec_FormatRange.f
  refine ev_pure (range_spec a b) ?_
  by_cases h : -1000 ≤ a ∧ a ≤ b ∧ b ≤ 1000
  · refine ev_ifp (by simpa using h) ?_
    have la := itoa_len a
    have lb := itoa_len b
    refine Ev.bind (fmt_spec a (by omega) (by omega)) ?_
    refine ev_ifp (by show (bs (Lib.itoa a)).size + 2 ≤ _; rw [bs_size]; omega) ?_
    refine Ev.bind (fmt_spec b (by omega) (by omega)) ?_
    have e : (⟨(Lib.itoa a).toArray⟩ : ByteArray) ++ (⟨#[46, 46]⟩ : ByteArray) = bs (Lib.itoa a ++ [46, 46]) := bs_app (Lib.itoa a) [46, 46]
    refine ev_ifp (by rw [e]; show _ + (bs (Lib.itoa b)).size ≤ _; rw [bs_size, bs_size]; simp; omega) ?_
    refine ev_eq (ev_some _) ?_
    rw [e]
    show bs (Lib.itoa a ++ [46, 46]) ++ bs (Lib.itoa b) = _
    rw [bs_app, rangeText, if_pos h]
    simp
  · refine ev_ifn (by simpa using h) ?_
    rw [rangeText, if_neg h]
    exact ev_some _
theorem fmtRange_impl (a b : Int) : impl_FormatRange.f a b = some (bs (rangeText a b)) := by
  unfold impl_FormatRange.f
  rw [range_impl a b, Option.bind_some]
  by_cases h : -1000 ≤ a ∧ a ≤ b ∧ b ≤ 1000
  · have la := itoa_len a
    have lb := itoa_len b
    have e : (⟨(Lib.itoa a).toArray⟩ : ByteArray) ++ (⟨#[46, 46]⟩ : ByteArray) = bs (Lib.itoa a ++ [46, 46]) := bs_app (Lib.itoa a) [46, 46]
    rw [if_pos (by simpa using h), fmt_impl a (by omega) (by omega), Option.bind_some, if_pos (by show (bs (Lib.itoa a)).size + 2 ≤ _; rw [bs_size]; omega), fmt_impl b (by omega) (by omega), Option.bind_some,
      if_pos (by rw [e]; show _ + (bs (Lib.itoa b)).size ≤ _; rw [bs_size, bs_size]; simp; omega), e]
    show some (bs (Lib.itoa a ++ [46, 46]) ++ bs (Lib.itoa b)) = _
    rw [bs_app, rangeText, if_pos h]
    simp
  · rw [if_neg (by simpa using h), rangeText, if_neg h]
    rfl

/-- One byte of a numeral: the number and the count of digits so far. -/
def dstep (p : Nat × Nat) (b : UInt8) : Nat × Nat := if 48 ≤ b.toNat ∧ b.toNat ≤ 57 then (p.1 * 10 + (b.toNat - 48), p.2 + 1) else p
theorem dfold_bound : ∀ (l : List UInt8) (p : Nat × Nat), p.1 < 10 ^ p.2 → (l.foldl dstep p).1 < 10 ^ (l.foldl dstep p).2
  | [], p, h => h
  | b :: r, p, h => by
    rw [List.foldl_cons]
    refine dfold_bound r _ ?_
    unfold dstep
    by_cases hb : 48 ≤ b.toNat ∧ b.toNat ≤ 57
    · rw [if_pos hb]
      show p.1 * 10 + (b.toNat - 48) < 10 ^ (p.2 + 1)
      rw [Nat.pow_succ]; omega
    · rw [if_neg hb]; exact h
theorem dfold_count : ∀ (l : List UInt8) (p : Nat × Nat), (l.foldl dstep p).2 ≤ p.2 + l.length
  | [], p => by simp
  | b :: r, p => by
    rw [List.foldl_cons]
    have := dfold_count r (dstep p b)
    have h2 : (dstep p b).2 ≤ p.2 + 1 := by unfold dstep; split <;> simp
    rw [List.length_cons]; omega
theorem digit_nat (d : Nat) (h : d < 10) : (UInt8.ofNat (48 + d)).toNat = 48 + d := by
  simp [UInt8.toNat_ofNat']; omega
theorem digs_fold (u : Nat) : ∀ p : Nat × Nat, (digs u).foldl dstep p = (p.1 * 10 ^ (digs u).length + u, p.2 + (digs u).length) := by
  induction u using Nat.strongRecOn with
  | _ u ih =>
    intro p
    by_cases h : u = 0
    · subst h; simp [digs]
    · rw [digs_step (by omega), List.foldl_append, ih (u / 10) (by omega) p, List.length_append, List.length_singleton, List.foldl_cons, List.foldl_nil]
      unfold dstep
      rw [digit_nat _ (by omega), if_pos (by omega), Nat.pow_succ]
      refine Prod.ext ?_ ?_
      · show (p.1 * 10 ^ (digs (u / 10)).length + u / 10) * 10 + (48 + u % 10 - 48) = p.1 * (10 ^ (digs (u / 10)).length * 10) + u
        rw [Nat.add_mul, Nat.mul_assoc]; omega
      · show p.2 + (digs (u / 10)).length + 1 = p.2 + ((digs (u / 10)).length + 1)
        omega
theorem digs_small (k : Nat) : ∀ u, u < 10 ^ k → (digs u).length ≤ k := by
  induction k with
  | zero => intro u h; have : u = 0 := by simpa using h
            subst this; simp [digs]
  | succ k ih =>
    intro u h
    by_cases h0 : u = 0
    · subst h0; simp [digs]
    · rw [digs_step (by omega), List.length_append, List.length_singleton]
      have := ih (u / 10) (by rw [Nat.pow_succ] at h; omega)
      omega
theorem digs_dec (u : Nat) : ∀ acc, Lib.decFrom acc (digs u) = some (acc * 10 ^ (digs u).length + u) := by
  induction u using Nat.strongRecOn with
  | _ u ih =>
    intro acc
    by_cases h : u = 0
    · subst h; simp [digs, Lib.decFrom]
    · have happ : ∀ (l : List UInt8) (acc : Nat) (r : Nat) (d : Nat), d < 10 → Lib.decFrom acc l = some r → Lib.decFrom acc (l ++ [UInt8.ofNat (48 + d)]) = some (r * 10 + d) := by
        intro l
        induction l with
        | nil =>
          intro acc r d hd hr
          obtain rfl := Option.some.inj hr
          simp only [List.nil_append, Lib.decFrom, Lib.digitVal]
          rw [digit_nat d hd, if_pos (by omega)]
          simp
        | cons b t ih2 =>
          intro acc r d hd hr
          simp only [List.cons_append, Lib.decFrom] at hr ⊢
          cases hq : Lib.digitVal b with
          | none => rw [hq] at hr; cases hr
          | some q => rw [hq] at hr; exact ih2 _ _ _ hd hr
      rw [digs_step (by omega), happ _ _ _ _ (by omega) (ih (u / 10) (by omega) acc), List.length_append, List.length_singleton, Nat.pow_succ]
      congr 1
      rw [Nat.add_mul, Nat.mul_assoc]; omega
theorem digs_head (u : Nat) : ∀ b r, digs u = b :: r → 48 ≤ b.toNat ∧ b.toNat ≤ 57 := by
  induction u using Nat.strongRecOn with
  | _ u ih =>
    intro b r h
    by_cases h0 : u = 0
    · subst h0; simp [digs] at h
    · rw [digs_step (by omega)] at h
      cases hq : digs (u / 10) with
      | nil =>
        rw [hq] at h
        obtain ⟨rfl, _⟩ := List.cons.inj h
        rw [digit_nat _ (by omega)]; omega
      | cons c t =>
        rw [hq] at h
        obtain ⟨rfl, _⟩ := List.cons.inj h
        by_cases h1 : u / 10 < u
        · exact ih (u / 10) h1 _ _ hq
        · omega
theorem itoa_pos {n : Int} (h : 0 < n) : Lib.itoa n = digs n.natAbs := by
  unfold Lib.itoa digs
  rw [if_neg (by omega), if_neg (by omega), show n.toNat = n.natAbs by omega]
theorem itoa_neg {n : Int} (h : n < 0) : Lib.itoa n = 45 :: digs n.natAbs := by
  unfold Lib.itoa digs
  rw [if_pos h, if_neg (by omega)]
/-- A small number's numeral is read back. -/
theorem atoi_itoa {n : Int} (h0 : -999999999 ≤ n) (h1 : n ≤ 999999999) : Lib.atoiAll (Lib.itoa n) = .ok n ∧ (Lib.itoa n).length ≤ 10 ∧
    ((Lib.itoa n).foldl dstep (0, 0)).2 ≤ 9 ∧ (if (Lib.itoa n).head? = some 45 then -((((Lib.itoa n).foldl dstep (0, 0)).1 : Nat) : Int) else ((((Lib.itoa n).foldl dstep (0, 0)).1 : Nat) : Int)) = n := by
  by_cases hz : n = 0
  · subst hz; decide +kernel
  have hl := digs_small 9 n.natAbs (by omega)
  have hne : digs n.natAbs ≠ [] := by rw [digs_step (by omega)]; simp
  have hdn : Lib.decNat (digs n.natAbs) = some n.natAbs := by
    unfold Lib.decNat
    rw [if_neg (by simpa using hne), digs_dec]; simp
  by_cases hn : n < 0
  · rw [itoa_neg hn]
    have hlen : (45 :: digs n.natAbs).length ≤ 10 := by rw [List.length_cons]; omega
    refine ⟨?_, hlen, ?_, ?_⟩
    · rw [Lib.atoiAll_short _ (by omega)]
      unfold Lib.atoi
      simp only [hdn]
      show Lib.NumEnd.ok (-(n.natAbs : Int)) = _
      congr 1; omega
    · rw [List.foldl_cons, show dstep (0, 0) 45 = (0, 0) from by decide, digs_fold]; show 0 + _ ≤ 9; omega
    · rw [List.foldl_cons, show dstep (0, 0) 45 = (0, 0) from by decide, digs_fold, if_pos (show (45 :: digs n.natAbs).head? = some 45 from rfl)]; show -(((0 * _ + n.natAbs : Nat)) : Int) = n; rw [Nat.zero_mul]; omega
  · rw [itoa_pos (by omega)]
    obtain ⟨b, r, hb⟩ : ∃ b r, digs n.natAbs = b :: r := by cases hq : digs n.natAbs with | nil => exact absurd hq hne | cons b r => exact ⟨b, r, rfl⟩
    have hbb := digs_head _ _ _ hb
    have n45 : b ≠ 45 := by intro e; subst e; revert hbb; decide
    have n43 : b ≠ 43 := by intro e; subst e; revert hbb; decide
    refine ⟨?_, by omega, ?_, ?_⟩
    · rw [Lib.atoiAll_short _ (by omega)]
      rw [hb] at hdn ⊢
      unfold Lib.atoi
      simp only [hdn, beq_iff_eq, n45, n43, if_false]
      show Lib.NumEnd.ok (n.natAbs : Int) = _
      congr 1; omega
    · rw [digs_fold]; show 0 + _ ≤ 9; omega
    · rw [if_neg (by rw [hb]; simpa using n45), digs_fold]; show (((0 * _ + n.natAbs : Nat)) : Int) = n; rw [Nat.zero_mul]; omega
/-- What the reference answers. -/
def numOf (l : List UInt8) : Int := if l.head? = some 45 then -((((l.take 11).foldl dstep (0, 0)).1 : Nat) : Int) else ((((l.take 11).foldl dstep (0, 0)).1 : Nat) : Int)
def specPI (l : List UInt8) : Int × Bool := if ((l.take 11).foldl dstep (0, 0)).2 > 9 then (0, false) else if l.length > 10 then (0, false) else if Lib.itoa (numOf l) = l then (numOf l, true) else (0, false)
theorem numOf_small {l : List UInt8} (h : ((l.take 11).foldl dstep (0, 0)).2 ≤ 9) : -999999999 ≤ numOf l ∧ numOf l ≤ 999999999 := by
  have hb := dfold_bound (l.take 11) (0, 0) (by decide)
  have hp : 10 ^ ((l.take 11).foldl dstep (0, 0)).2 ≤ 10 ^ 9 := Nat.pow_le_pow_right (by decide) h
  unfold numOf
  split <;> omega
theorem pi_same (l : List UInt8) : impl_ParseInt.parse l = specPI l := by
  by_cases hE : ∃ v, Lib.itoa v = l ∧ -999999999 ≤ v ∧ v ≤ 999999999
  · obtain ⟨v, rfl, h0, h1⟩ := hE
    obtain ⟨a1, a2, a3, a4⟩ := atoi_itoa h0 h1
    have ht : (Lib.itoa v).take 11 = Lib.itoa v := List.take_of_length_le (by omega)
    have hn : numOf (Lib.itoa v) = v := by unfold numOf; rw [ht]; exact a4
    unfold impl_ParseInt.parse specPI
    rw [a1, ht, hn, if_neg (by omega), if_neg (by omega), if_pos rfl]
    show (if Lib.itoa v = Lib.itoa v ∧ v ≤ 999999999 ∧ -999999999 ≤ v then (v, true) else (0, false)) = _
    rw [if_pos ⟨rfl, h1, h0⟩]
  · have hs : specPI l = (0, false) := by
      unfold specPI
      by_cases c1 : ((l.take 11).foldl dstep (0, 0)).2 > 9
      · rw [if_pos c1]
      · rw [if_neg c1]
        by_cases c2 : l.length > 10
        · rw [if_pos c2]
        · rw [if_neg c2, if_neg (fun e => hE ⟨_, e, (numOf_small (by omega)).1, (numOf_small (by omega)).2⟩)]
    rw [hs]
    unfold impl_ParseInt.parse
    rcases Lib.atoiAll l with v | _ | _
    · show (if Lib.itoa v = l ∧ v ≤ 999999999 ∧ -999999999 ≤ v then (v, true) else (0, false)) = _
      rw [if_neg (fun e => hE ⟨v, e.1, e.2.2, e.2.1⟩)]
    · rfl
    · rfl
theorem size_list (s : ByteArray) : s.size = s.data.toList.length := (Array.length_toList (xs := s.data)).symm
theorem bt_list (s : ByteArray) (i : Nat) (h : i < s.data.toList.length) : bt s (i : Int) = ((s.data.toList[i]'h).toNat : Int) := by
  have h' : i < s.size := by rw [size_list]; exact h
  unfold bt
  rw [dif_pos (show (i : Int).toNat < s.size from by rw [Int.toNat_natCast]; exact h')]
  rfl
theorem pi_step (s : ByteArray) (r : Int × Bool) (m c i x : Nat) (hs : s.size ≤ 1048576) (hi : i < s.size) (hi11 : i < 11) (hm : m < 10000000000) (hc : c ≤ 10) (hx : x < 256) (hbt : bt s (i : Int) = (x : Int))
    (h : Ev (fun k => spec_ParseInt.l0 k s (((if 48 ≤ x ∧ x ≤ 57 then (m * 10 + (x - 48), c + 1) else (m, c)) : Nat × Nat).1 : Int) (((if 48 ≤ x ∧ x ≤ 57 then (m * 10 + (x - 48), c + 1) else (m, c)) : Nat × Nat).2 : Int) ((i + 1 : Nat) : Int)) r) :
    Ev (fun k => spec_ParseInt.l0 k s (m : Int) (c : Int) (i : Int)) r := by
  have hw : wrap64 ((i : Int) + 1) = ((i + 1 : Nat) : Int) := by rw [w64 (by omega) (by omega)]; omega
  have h1 : Ev (fun k => spec_ParseInt.j1 k s (m : Int) (c : Int) (i : Int) true) r := by
    by_cases c1 : 48 ≤ x ∧ x ≤ 57
    · rw [if_pos c1] at h
      have e1 : ((m * 10 + (x - 48) : Nat) : Int) = wrap64 (wrap64 ((m : Int) * 10) + ((x : Int) - 48) % 256) := by rw [w64 (n := (m : Int) * 10) (by omega) (by omega), w64 (by omega) (by omega)]; omega
      have e2 : ((c + 1 : Nat) : Int) = wrap64 ((c : Int) + 1) := by rw [w64 (by omega) (by omega)]; omega
      dsimp only at h
      rw [e1, e2, ← hw] at h
      refine Ev.step (fun k => ?_) h
      simp only [spec_ParseInt.j1]
      rw [if_pos trivial, if_pos (by omega), if_pos (by omega), hbt, if_pos (by omega), if_pos (by omega)]
    · rw [if_neg c1] at h
      dsimp only at h
      rw [← hw] at h
      refine Ev.step (fun k => ?_) h
      simp only [spec_ParseInt.j1]
      rw [if_pos trivial, if_pos (by omega), if_pos (by omega), hbt]
      by_cases c2 : 48 ≤ x
      · rw [if_pos (by omega), if_neg (by omega)]
      · rw [if_neg (by omega)]
  refine Ev.step (fun k => ?_) h1
  simp only [spec_ParseInt.l0]
  rw [if_pos (by omega), decide_eq_true (by omega)]
theorem pi_loop (s : ByteArray) (hs : s.size ≤ 1048576) (r : Int × Bool)
    (hend : ∀ m c : Nat, (s.data.toList.take 11).foldl dstep (0, 0) = (m, c) → Ev (fun k => spec_ParseInt.j1 k s m c ((min s.size 11 : Nat) : Int) false) r) : Ev (fun k => spec_ParseInt.f k s) r := by
  have hsz := size_list s
  unfold spec_ParseInt.f
  have key : ∀ d i, min s.size 11 - i = d → i ≤ min s.size 11 → ∀ m c : Nat, (s.data.toList.take i).foldl dstep (0, 0) = (m, c) → Ev (fun k => spec_ParseInt.l0 k s m c (i : Int)) r := by
    intro d
    induction d with
    | zero =>
      intro i hd hi m c hm
      have hii : i = min s.size 11 := by omega
      have ht : s.data.toList.take i = s.data.toList.take 11 := by
        by_cases hh : s.size ≤ 11
        · rw [List.take_of_length_le (by omega), List.take_of_length_le (by omega)]
        · rw [show i = 11 by omega]
      rw [ht] at hm
      have h := hend m c hm
      rw [← hii] at h
      refine Ev.step (fun k => ?_) h
      simp only [spec_ParseInt.l0]
      by_cases hc : s.size ≤ 11
      · rw [if_neg (by omega)]
      · rw [if_pos (by omega), decide_eq_false (by omega)]
    | succ d ih =>
      intro i hd hi m c hm
      have hlt : i < s.data.toList.length := by omega
      have hb : m < 10 ^ c := by
        have := dfold_bound (s.data.toList.take i) (0, 0) (by decide)
        rw [hm] at this; exact this
      have hcn : c ≤ i := by
        have := dfold_count (s.data.toList.take i) (0, 0)
        rw [hm, List.length_take] at this
        have h2 : c ≤ 0 + min i s.data.toList.length := this
        omega
      have hpw : 10 ^ c ≤ 10 ^ 10 := Nat.pow_le_pow_right (by decide) (by omega)
      have hm2 : m < 10000000000 := Nat.lt_of_lt_of_le hb (Nat.le_trans hpw (by decide))
      have ht : s.data.toList.take (i + 1) = s.data.toList.take i ++ [s.data.toList[i]'hlt] := by rw [List.take_add_one, List.getElem?_eq_getElem hlt]; rfl
      have hstep : (s.data.toList.take (i + 1)).foldl dstep (0, 0) = dstep (m, c) (s.data.toList[i]'hlt) := by rw [ht, List.foldl_append, hm]; rfl
      have hx := (s.data.toList[i]'hlt).toNat_lt
      have hbt := bt_list s i hlt
      refine pi_step s r m c i (s.data.toList[i]'hlt).toNat hs (by omega) (by omega) hm2 (by omega) (by omega) hbt ?_
      exact ih (i + 1) (by omega) (by omega) _ _ hstep
  have := key (min s.size 11) 0 (by omega) (by omega) 0 0 (by simp)
  simpa using this
theorem pi_spec (s : ByteArray) (hs : s.size ≤ 1048576) : Ev (fun k => spec_ParseInt.f k s) (specPI s.data.toList) := by
  refine pi_loop s hs _ ?_
  intro m c hm
  have hsz := size_list s
  have hb0 : ∀ h : 0 < s.data.toList.length, bt s 0 = ((s.data.toList[0]'h).toNat : Int) := bt_list s 0
  generalize hl : s.data.toList = l at *
  have hb := dfold_bound (l.take 11) (0, 0) (by decide)
  have hcn := dfold_count (l.take 11) (0, 0)
  rw [hm] at hb hcn
  have hc11 : c ≤ 11 := by have h2 : c ≤ 0 + (l.take 11).length := hcn; rw [List.length_take] at h2; omega
  have hpw : 10 ^ c ≤ 10 ^ 11 := Nat.pow_le_pow_right (by decide) hc11
  have hm2 : m < 100000000000 := Nat.lt_of_lt_of_le (show m < 10 ^ c from hb) (Nat.le_trans hpw (by decide))
  have hnum : numOf l = if l.head? = some 45 then -(m : Int) else (m : Int) := by unfold numOf; rw [hm]
  have hfin : ∀ (neg : Bool), (neg = true ↔ l.head? = some 45) → Ev (fun k => spec_ParseInt.j2 k s m c neg) (specPI l) := by
    intro neg hneg
    have hall : ∀ x : Int, x = numOf l → Ev (fun k => if (c : Int) > 9 then some ((0 : Int), false) else if (s.size : Int) > 10 then some (0, false) else (spec_FormatInt.f k x).bind fun t => if t.toList = s.toList then some (x, true) else some (0, false)) (specPI l) := by
      intro x hx
      unfold specPI
      rw [hm, ← hx]
      by_cases c1 : c > 9
      · rw [if_pos (show (m, c).2 > 9 from c1)]
        exact ev_ifp (by omega) (ev_some _)
      · rw [if_neg (show ¬ (m, c).2 > 9 from c1)]
        refine ev_ifn (by omega) ?_
        by_cases c2 : l.length > 10
        · rw [if_pos c2]; exact ev_ifp (by omega) (ev_some _)
        · rw [if_neg c2]
          refine ev_ifn (by omega) ?_
          have hxs : -100000000000 < x ∧ x < 100000000000 := by rw [hx, hnum]; split <;> omega
          refine Ev.bind (fmt_spec x (by omega) (by omega)) ?_
          have he : ((⟨(Lib.itoa x).toArray⟩ : ByteArray).toList = s.toList) ↔ (Lib.itoa x = l) := by rw [Lib.toList_data, Lib.toList_data, hl]
          by_cases c3 : Lib.itoa x = l
          · rw [if_pos c3]; exact ev_ifp (he.2 c3) (ev_some _)
          · rw [if_neg c3]; exact ev_ifn (fun e => c3 (he.1 e)) (ev_some _)
    cases neg with
    | true =>
      have hh := hneg.1 rfl
      refine Ev.step (fun k => ?_) (hall (-(m : Int)) (by rw [hnum, if_pos hh]))
      simp only [spec_ParseInt.j2]
      rw [if_pos trivial, w64 (by omega) (by omega)]
    | false =>
      have hh : ¬ l.head? = some 45 := fun e => by have := hneg.2 e; cases this
      refine Ev.step (fun k => ?_) (hall (m : Int) (by rw [hnum, if_neg hh]))
      simp only [spec_ParseInt.j2]
      rw [if_neg (by simp)]
  by_cases h0 : l.length = 0
  · have : l = [] := List.eq_nil_of_length_eq_zero h0
    refine Ev.step (fun k => ?_) (hfin false (by rw [this]; simp))
    simp only [spec_ParseInt.j1]
    rw [if_neg (by simp), if_neg (by omega)]
  · have hbt : bt s 0 = ((l[0]'(by omega)).toNat : Int) := hb0 (by omega)
    have hhead : l.head? = some (l[0]'(by omega)) := by rw [List.head?_eq_getElem?, List.getElem?_eq_getElem]
    refine Ev.step (fun k => ?_) (hfin (bt s 0 == 45) (by
      rw [hbt, hhead, beq_iff_eq, Option.some.injEq]
      constructor
      · intro e; exact UInt8.toNat_inj.1 (by simpa using (by omega : (l[0]'(by omega)).toNat = 45))
      · intro e; rw [e]; rfl))
    simp only [spec_ParseInt.j1]
    rw [if_neg (by simp), if_pos (by omega), if_pos (by omega)]
theorem pi_impl (s : ByteArray) (hs : s.size ≤ 1048576) : impl_ParseInt.f s = some (specPI s.data.toList) := by
  unfold impl_ParseInt.f
  rw [if_pos (by omega), pi_same]

theorem itoa_len2 (n : Int) : (Lib.itoa n).length ≤ 3 + n.natAbs / 10 := by
  by_cases hz : n = 0
  · subst hz; decide +kernel
  · have hd : digs n.natAbs = Lib.decDigits n.natAbs := if_neg (by omega)
    have := digs_len n.natAbs
    unfold Lib.itoa
    by_cases hn : n < 0
    · rw [if_pos hn, List.length_cons, ← hd]; omega
    · rw [if_neg hn, show n.toNat = n.natAbs by omega, ← hd]; omega
theorem fs (n : Int) (h : n.natAbs ≤ 100000) : Ev (fun k => spec_FormatInt.f k n) (bs (Lib.itoa n)) := fmt_spec n (by omega) (by omega)
theorem fi (n : Int) (h : n.natAbs ≤ 100000) : impl_FormatInt.f n = some (bs (Lib.itoa n)) := fmt_impl n (by omega) (by omega)
theorem bs_list (l : List UInt8) : (bs l).data.toList = l := by simp [bs]

theorem digs_all (u : Nat) : ∀ x ∈ digs u, 48 ≤ x.toNat := by
  induction u using Nat.strongRecOn with
  | _ u ih =>
    intro x hx
    by_cases h0 : u = 0
    · subst h0; simp [digs] at hx
    · rw [digs_step (by omega), List.mem_append, List.mem_singleton] at hx
      rcases hx with hx | rfl
      · exact ih (u / 10) (by omega) x hx
      · rw [digit_nat _ (by omega)]; omega
theorem itoa_nodot (n : Int) : ∀ x ∈ Lib.itoa n, x ≠ 46 := by
  by_cases hz : n = 0
  · subst hz; decide +kernel
  intro x hx e
  subst e
  by_cases hn : n < 0
  · rw [itoa_neg hn, List.mem_cons] at hx
    rcases hx with hx | hx
    · revert hx; decide
    · have := digs_all _ _ hx; revert this; decide
  · rw [itoa_pos (by omega)] at hx
    have := digs_all _ _ hx; revert this; decide
theorem idx_dots : ∀ (p r : List UInt8), (∀ x ∈ p, x ≠ 46) → Lib.index (p ++ 46 :: 46 :: r) [46, 46] = p.length
  | [], r, _ => by simp [Lib.index]
  | b :: p, r, h => by
    have hb : b ≠ 46 := h b (by simp)
    have ih := idx_dots p r (fun x hx => h x (by simp [hx]))
    have hpre : ([46, 46] : List UInt8).isPrefixOf (b :: (p ++ 46 :: 46 :: r)) = false := by
      have : ((46 : UInt8) == b) = false := by rw [beq_eq_false_iff_ne]; exact fun e => hb e.symm
      simp [List.isPrefixOf, this]
    rw [List.cons_append]
    unfold Lib.index
    rw [hpre, ih]
    have : ((p.length : Int) == -1) = false := by rw [beq_eq_false_iff_ne]; omega
    rw [this]
    simp
theorem specPI_itoa {v : Int} (h0 : -999999999 ≤ v) (h1 : v ≤ 999999999) : specPI (Lib.itoa v) = (v, true) := by
  obtain ⟨a1, a2, a3, a4⟩ := atoi_itoa h0 h1
  have ht : (Lib.itoa v).take 11 = Lib.itoa v := List.take_of_length_le (by omega)
  have hn : numOf (Lib.itoa v) = v := by unfold numOf; rw [ht]; exact a4
  unfold specPI
  rw [ht, hn, if_neg (by omega), if_neg (by omega), if_pos rfl]
def num2 (l : List UInt8) : Int := if (specPI l).2 = true then (specPI l).1 else -100000
/-- What both give. -/
def rangeOf (l : List UInt8) : Int × Int × Bool :=
  if 0 ≤ Lib.index l [46, 46] then
    if rangeText (num2 (l.take (Lib.index l [46, 46]).toNat)) (num2 (l.drop ((Lib.index l [46, 46]).toNat + 2))) = l then
      (num2 (l.take (Lib.index l [46, 46]).toNat), num2 (l.drop ((Lib.index l [46, 46]).toNat + 2)), true)
    else (0, 0, false)
  else (0, 0, false)
def rangeOf' (l : List UInt8) : Int × Int × Bool :=
  if l = [] then (0, 0, false) else
    if rangeText (specPI (Lib.cut l [46, 46]).1).1 (specPI (Lib.cut l [46, 46]).2.1).1 = l then ((specPI (Lib.cut l [46, 46]).1).1, (specPI (Lib.cut l [46, 46]).2.1).1, true) else (0, 0, false)
theorem range_same (l : List UInt8) : rangeOf' l = rangeOf l := by
  by_cases hP : ∃ a b, rangeText a b = l ∧ l ≠ []
  · obtain ⟨a, b, hab, hne⟩ := hP
    have hv : -1000 ≤ a ∧ a ≤ b ∧ b ≤ 1000 := by
      by_cases h : -1000 ≤ a ∧ a ≤ b ∧ b ≤ 1000
      · exact h
      · rw [rangeText, if_neg h] at hab; exact absurd hab.symm hne
    have hl : l = Lib.itoa a ++ 46 :: 46 :: Lib.itoa b := by rw [← hab, rangeText, if_pos hv]
    have hidx : Lib.index l [46, 46] = (Lib.itoa a).length := by rw [hl]; exact idx_dots _ _ (itoa_nodot a)
    have ht : l.take (Lib.index l [46, 46]).toNat = Lib.itoa a := by rw [hidx, Int.toNat_natCast, hl, List.take_left]
    have hd : l.drop ((Lib.index l [46, 46]).toNat + 2) = Lib.itoa b := by
      rw [hidx, Int.toNat_natCast, hl, ← List.drop_drop, List.drop_left]; rfl
    have pa := specPI_itoa (v := a) (by omega) (by omega)
    have pb := specPI_itoa (v := b) (by omega) (by omega)
    have h0 : 0 ≤ Lib.index l [46, 46] := by rw [hidx]; omega
    have hc : Lib.cut l [46, 46] = (Lib.itoa a, Lib.itoa b, true) := by
      unfold Lib.cut
      rw [if_pos h0, ht]
      show (Lib.itoa a, l.drop ((Lib.index l [46, 46]).toNat + 2), true) = _
      rw [hd]
    have na : num2 (Lib.itoa a) = a := by unfold num2; rw [pa]; rfl
    have nb : num2 (Lib.itoa b) = b := by unfold num2; rw [pb]; rfl
    unfold rangeOf rangeOf'
    rw [if_neg hne, hc, if_pos h0, ht, hd, na, nb, pa, pb]
  · have h1 : rangeOf l = (0, 0, false) := by
      unfold rangeOf
      by_cases h0 : 0 ≤ Lib.index l [46, 46]
      · rw [if_pos h0, if_neg]
        intro e
        refine hP ⟨_, _, e, fun hn => ?_⟩
        subst hn
        revert h0; decide
      · rw [if_neg h0]
    rw [h1]
    unfold rangeOf'
    by_cases hn : l = []
    · rw [if_pos hn]
    · rw [if_neg hn, if_neg (fun e => hP ⟨_, _, e, hn⟩)]
theorem pre2 (m : List UInt8) : ([46, 46] : List UInt8).isPrefixOf m = true ↔ m.take 2 = [46, 46] := by
  match m with
  | [] => simp [List.isPrefixOf]
  | [a] => simp [List.isPrefixOf]
  | a :: b :: r => simp [List.isPrefixOf]; constructor <;> (rintro ⟨rfl, rfl⟩; exact ⟨rfl, rfl⟩)
theorem num2_ev (x : ByteArray) (hx : x.size ≤ 1048576) : Ev (fun k => spec_l2Num.f k x) (num2 x.data.toList) := by
  unfold spec_l2Num.f
  refine Ev.bind (pi_spec x hx) ?_
  unfold num2
  by_cases h : (specPI x.data.toList).2 = true
  · exact ev_eq (ev_ifp h (ev_some _)) (if_pos h).symm
  · exact ev_eq (ev_ifn h (ev_some _)) (if_neg h).symm
theorem range_loop (s : ByteArray) (hs : s.size ≤ 1048576) : ∀ d i : Nat, s.size - i = d → i ≤ s.size → (∀ j, j < i → Lib.occAt s.data.toList [46, 46] j = false) →
    Ev (fun k => spec_ParseRange.l0 k s (i : Int)) (rangeOf s.data.toList) := by
  have hsz := size_list s
  intro d
  induction d with
  | zero =>
    intro i hd hi hno
    have hmiss : ¬ 0 ≤ Lib.index s.data.toList [46, 46] := by
      intro h0
      rcases Lib.index_spec s.data.toList [46, 46] with ⟨h1, _⟩ | ⟨j, h1, h2, h3, _⟩
      · omega
      · have hr := Lib.index_room s.data.toList [46, 46] h0
        simp only [List.length_cons, List.length_nil] at hr
        rw [hno j (by omega)] at h3; cases h3
    unfold rangeOf
    rw [if_neg hmiss]
    refine ev_const (fun k => ?_)
    simp only [spec_ParseRange.l0]
    rw [w64 (by omega) (by omega), if_neg (by omega)]
  | succ d ih =>
    intro i hd hi hno
    have w1 : wrap64 ((i : Int) + 1) = ((i + 1 : Nat) : Int) := by rw [w64 (by omega) (by omega)]; omega
    have w2 : wrap64 ((i : Int) + 2) = ((i + 2 : Nat) : Int) := by rw [w64 (by omega) (by omega)]; omega
    by_cases hroom : i + 1 < s.size
    · have hex : (s.extract (i : Int).toNat (((i + 2 : Nat) : Int)).toNat).toList = (s.data.toList.drop i).take 2 := by
        rw [Int.toNat_natCast, Int.toNat_natCast, Lib.toList_data, Lib.extract_data, show i + 2 - i = 2 by omega]
      by_cases hocc : Lib.occAt s.data.toList [46, 46] i = true
      · have hidx : Lib.index s.data.toList [46, 46] = (i : Int) := by
          rcases Lib.index_spec s.data.toList [46, 46] with ⟨h1, h2⟩ | ⟨j, h1, h2, h3, h4⟩
          · exact absurd hocc (by rw [h2 i (by omega)]; simp)
          · rw [h1]
            rcases Nat.lt_trichotomy i j with hj | hj | hj
            · exact absurd hocc (by rw [h4 i hj]; simp)
            · omega
            · exact absurd h3 (by rw [hno j hj]; simp)
        have ht : (s.data.toList.drop i).take 2 = [46, 46] := (pre2 _).1 hocc
        have e1 : (s.extract 0 i).data.toList = s.data.toList.take i := by rw [Lib.extract_data, List.drop_zero, Nat.sub_zero]
        have e2 : (s.extract (i + 2) s.size).data.toList = s.data.toList.drop (i + 2) := by
          rw [Lib.extract_data]; exact List.take_of_length_le (by rw [List.length_drop]; omega)
        have z1 : (s.extract 0 i).size ≤ 1048576 := by rw [size_list, e1, List.length_take]; omega
        have z2 : (s.extract (i + 2) s.size).size ≤ 1048576 := by rw [size_list, e2, List.length_drop]; omega
        have hbody : Ev (fun k => (spec_l2Num.f k (s.extract 0 (i : Int).toNat)).bind fun t119 => (if (0 : Int) ≤ ((i + 2 : Nat) : Int) then ((spec_l2Num.f k (s.extract (((i + 2 : Nat) : Int)).toNat s.size)).bind fun t120 => ((spec_FormatRange.f k t119 t120).bind fun t122 => (if t122.toList = s.toList then (some (t119, t120, true)) else (some (0, 0, false))))) else (none))) (rangeOf s.data.toList) := by
          rw [Int.toNat_natCast, Int.toNat_natCast]
          refine Ev.bind (num2_ev _ z1) ?_
          refine ev_ifp (by omega) ?_
          refine Ev.bind (num2_ev _ z2) ?_
          refine Ev.bind (fmtRange_spec _ _) ?_
          rw [e1, e2]
          have hr : rangeOf s.data.toList = if rangeText (num2 (s.data.toList.take i)) (num2 (s.data.toList.drop (i + 2))) = s.data.toList then (num2 (s.data.toList.take i), num2 (s.data.toList.drop (i + 2)), true) else (0, 0, false) := by
            unfold rangeOf
            rw [if_pos (show (0 : Int) ≤ Lib.index s.data.toList [46, 46] by rw [hidx]; omega), hidx, Int.toNat_natCast]
          rw [hr]
          have he : ((bs (rangeText (num2 (s.data.toList.take i)) (num2 (s.data.toList.drop (i + 2))))).toList = s.toList) ↔ (rangeText (num2 (s.data.toList.take i)) (num2 (s.data.toList.drop (i + 2))) = s.data.toList) := by
            rw [Lib.toList_data, Lib.toList_data, bs_list]
          by_cases h : rangeText (num2 (s.data.toList.take i)) (num2 (s.data.toList.drop (i + 2))) = s.data.toList
          · exact ev_eq (ev_ifp (he.2 h) (ev_some _)) (if_pos h).symm
          · exact ev_eq (ev_ifn (fun e => h (he.1 e)) (ev_some _)) (if_neg h).symm
        refine Ev.step (fun k => ?_) hbody
        simp only [spec_ParseRange.l0]
        rw [w1, w2, if_pos (by omega), if_pos (by omega), if_pos (by omega), if_pos (by omega), if_pos (by rw [hex]; exact ht), if_pos (by omega)]
      · have hnt : ¬ (s.data.toList.drop i).take 2 = [46, 46] := fun e => hocc ((pre2 _).2 e)
        have h := ih (i + 1) (by omega) (by omega) (fun j hj => by
          rcases Nat.lt_succ_iff_lt_or_eq.1 hj with hj | rfl
          · exact hno j hj
          · simpa using hocc)
        refine Ev.step (fun k => ?_) h
        simp only [spec_ParseRange.l0]
        rw [w1, w2, if_pos (by omega), if_pos (by omega), if_pos (by omega), if_pos (by omega), if_neg (by rw [hex]; exact hnt)]
    · have hmiss : ¬ 0 ≤ Lib.index s.data.toList [46, 46] := by
        intro h0
        rcases Lib.index_spec s.data.toList [46, 46] with ⟨h1, _⟩ | ⟨j, h1, h2, h3, _⟩
        · omega
        · have hr := Lib.index_room s.data.toList [46, 46] h0
          simp only [List.length_cons, List.length_nil] at hr
          rw [hno j (by omega)] at h3; cases h3
      unfold rangeOf
      rw [if_neg hmiss]
      refine ev_const (fun k => ?_)
      simp only [spec_ParseRange.l0]
      rw [w1, if_neg (by omega)]
theorem range_ev (s : ByteArray) (hs : s.size ≤ 1048576) : Ev (fun k => spec_ParseRange.f k s) (rangeOf s.data.toList) := by
  unfold spec_ParseRange.f
  exact range_loop s hs s.size 0 (by omega) (by omega) (fun j hj => absurd hj (Nat.not_lt_zero _))
theorem cut_len (l : List UInt8) : (Lib.cut l [46, 46]).1.length ≤ l.length ∧ (Lib.cut l [46, 46]).2.1.length ≤ l.length := by
  unfold Lib.cut
  by_cases h : 0 ≤ Lib.index l [46, 46]
  · rw [if_pos h]; simp only [List.length_take, List.length_drop]; omega
  · rw [if_neg h]; simp
theorem range_pimpl (s : ByteArray) (hs : s.size ≤ 1048576) : impl_ParseRange.f s = some (rangeOf s.data.toList) := by
  have hsz := size_list s
  have hl := cut_len s.data.toList
  unfold impl_ParseRange.f strings_Cut.f
  rw [if_pos (by omega), Option.bind_some]
  dsimp only
  have c0 : (⟨#[46, 46]⟩ : ByteArray).data.toList = [46, 46] := rfl
  try rw [c0]
  have p1 := pi_impl (bs (Lib.cut s.data.toList [46, 46]).1) (by rw [bs_size]; omega)
  have p2 := pi_impl (bs (Lib.cut s.data.toList [46, 46]).2.1) (by rw [bs_size]; omega)
  rw [bs_list] at p1 p2
  rw [show (⟨(Lib.cut s.data.toList [46, 46]).1.toArray⟩ : ByteArray) = bs (Lib.cut s.data.toList [46, 46]).1 from rfl, show (⟨(Lib.cut s.data.toList [46, 46]).2.1.toArray⟩ : ByteArray) = bs (Lib.cut s.data.toList [46, 46]).2.1 from rfl, p1, Option.bind_some, p2, Option.bind_some, ← range_same]
  unfold rangeOf'
  have he0 : (s.toList = ([] : List UInt8)) ↔ s.data.toList = [] := by rw [Lib.toList_data]
  by_cases hn : s.data.toList = []
  · rw [if_pos hn, if_pos (he0.2 hn)]
  · rw [if_neg hn, if_neg (fun e => hn (he0.1 e)), fmtRange_impl, Option.bind_some]
    have he : ∀ x : List UInt8, ((bs x).toList = s.toList) ↔ x = s.data.toList := fun x => by rw [Lib.toList_data, Lib.toList_data, bs_list]
    by_cases h : rangeText (specPI (Lib.cut s.data.toList [46, 46]).1).1 (specPI (Lib.cut s.data.toList [46, 46]).2.1).1 = s.data.toList
    · rw [if_pos h, if_pos ((he _).2 h)]
    · rw [if_neg h, if_neg (fun e => h ((he _).1 e))]


end Go.Proofs.YtjgfbamloldkfaaDoor.Pure.FnExactParseRange
namespace Go.Proofs.YtjgfbamloldkfaaDoor.Pure
open Go.RowKit Go.Proofs.YtjgfbamloldkfaaDoor.PFnExactParseRange Go.Proofs.YtjgfbamloldkfaaDoorW.PrintWords Go.Proofs.YtjgfbamloldkfaaDoorW.PrintLast Go.Proofs.YtjgfbamloldkfaaDoorW.PrintMore Go.Proofs.YtjgfbamloldkfaaDoor.B Go.Proofs.YtjgfbamloldkfaaDoor.Pure.FnExactParseRange
theorem FnExactParseRange : laws_FnExactParseRange.Pure := by
  intro s hs
  refine Ev.rounds (g := fun k => laws_FnExactParseRange.f k s) ?_
  unfold laws_FnExactParseRange.f
  by_cases h : (s.size : Int) > 1048576
  · exact ev_ifp h (ev_some _)
  refine ev_ifn h ?_
  refine Ev.bind (range_ev s (by omega)) ?_
  refine ev_pure (range_pimpl s (by omega)) ?_
  refine ev_pure (a := true) (by unfold laws_eqRange.f; rw [if_pos rfl, if_pos rfl]) ?_
  exact ev_ifp rfl (ev_ifn (by simp) (ev_some _))

end Go.Proofs.YtjgfbamloldkfaaDoor.Pure
