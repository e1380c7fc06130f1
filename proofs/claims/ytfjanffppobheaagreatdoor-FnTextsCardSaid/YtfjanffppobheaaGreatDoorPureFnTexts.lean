/- Tables and ranges are read back from their formats, in every text that the program draws; no condition. -/
import Derived.Test.YtfjanffppobheaaGreatDoorPFnTextsx0
import Derived.Test.YtfjanffppobheaaGreatDoorPFnTextsx1
import Derived.Test.YtfjanffppobheaaGreatDoorPFnTextsx2
import Derived.Test.YtfjanffppobheaaGreatDoorPFnTextsx3
import Derived.Test.YtfjanffppobheaaGreatDoorPFnTextsx4
import Derived.Test.YtfjanffppobheaaGreatDoorPFnTextsx5
import Derived.Test.YtfjanffppobheaaGreatDoorPFnTextsx6
import Derived.Test.YtfjanffppobheaaGreatDoorPFnTextsx7
import Derived.Test.YtfjanffppobheaaGreatDoorPFnTextsx8
import Derived.Test.YtfjanffppobheaaGreatDoorPFnTextsx9
import Derived.Test.YtfjanffppobheaaGreatDoorPFnTextsx10
import Derived.Test.YtfjanffppobheaaGreatDoorPFnTextsx11
import Derived.Test.YtfjanffppobheaaGreatDoorPFnTextsx12
import Derived.Test.YtfjanffppobheaaGreatDoorPFnTextsx13
import Derived.Test.YtfjanffppobheaaGreatDoorB
set_option linter.unusedVariables false
set_option linter.unusedSimpArgs false
namespace Go.Proofs.YtfjanffppobheaaGreatDoor.Pure.FnTexts
open Go.RowKit Go.Proofs.YtfjanffppobheaaGreatDoor.PFnTexts Go.Proofs.YtfjanffppobheaaGreatDoorW.PrintWords Go.Proofs.YtfjanffppobheaaGreatDoorW.PrintLast Go.Proofs.YtfjanffppobheaaGreatDoorW.PrintMore Go.Proofs.YtfjanffppobheaaGreatDoor.B

def bs (l : List UInt8) : ByteArray := ⟨l.toArray⟩
theorem bs_app (a b : List UInt8) : bs a ++ bs b = bs (a ++ b) := by
  apply ByteArray.ext
  rw [ByteArray.data_append]
  simp [bs]
theorem bs_size (a : List UInt8) : (bs a).size = a.length := by simp [bs, ByteArray.size]

/-- The decimal digits of a number that is not 0; none for 0. -/
def digs (u : Nat) : List UInt8 := if u = 0 then [] else Lib.decDigits u
theorem digs_step {u : Nat} (h : 0 < u) : digs u = digs (u / 10) ++ [UInt8.ofNat (48 + u % 10)] := by
  unfold digs
  rw [if_neg (by omega), Lib.decDigits]
  by_cases h10 : u < 10
  · rw [dif_pos h10, if_pos (by omega), show u % 10 = u by omega]; rfl
  · rw [dif_neg h10, if_neg (by omega)]
theorem digs_len (u : Nat) : (digs u).length ≤ 1 + u / 10 := by
  induction u using Nat.strongRecOn with
  | _ u ih =>
    by_cases h : u = 0
    · subst h; simp [digs]
    · rw [digs_step (by omega), List.length_append, List.length_singleton]
      by_cases h10 : u < 10
      · have : u / 10 = 0 := by omega
        rw [this]; simp [digs]
      · have := ih (u / 10) (by omega); omega
def sgnB (b : Bool) : List UInt8 := if b then [45] else []
theorem ofInt_byte (m : Nat) (h : m < 10) : (wrap64 (48 + (m : Int))) % 256 = ((48 + m : Nat) : Int) := by
  rw [w64 (by omega) (by omega)]; omega
theorem str_one (m : Nat) (h : m < 10) (s : List UInt8) : strOfNums [((48 + m : Nat) : Int)] ++ (⟨s.toArray⟩ : ByteArray) = ⟨(UInt8.ofNat (48 + m) :: s).toArray⟩ := by
  apply ByteArray.ext
  rw [ByteArray.data_append]
  show (strOfNums [((48 + m : Nat) : Int)]).data ++ s.toArray = (UInt8.ofNat (48 + m) :: s).toArray
  rw [show (strOfNums [((48 + m : Nat) : Int)]).data = #[UInt8.ofNat (48 + m)] from rfl]
  simp
theorem fmt_loop (u : Nat) : ∀ (x : Int) (s : List UInt8) (neg : Bool), x.natAbs = u → -9223372036854775808 ≤ x → x ≤ 9223372036854775807 → s.length + (digs u).length ≤ 922337203685477600 →
    Ev (fun k => spec_FormatInt.l0 k x ⟨s.toArray⟩ neg) ⟨(sgnB neg ++ (digs u ++ s)).toArray⟩ := by
  induction u using Nat.strongRecOn with
  | _ u ih =>
    intro x s neg hu hl hh hs
    have hsz : (⟨s.toArray⟩ : ByteArray).size = s.length := by simp [ByteArray.size]
    by_cases h0 : x = 0
    · subst h0
      have : u = 0 := by omega
      subst this
      refine ev_const (fun k => ?_)
      simp only [spec_FormatInt.l0]
      rw [if_pos trivial, hsz]
      cases neg with
      | true =>
        rw [if_pos rfl, if_pos (by simp [digs] at hs; omega)]
        congr 1
      | false => rw [if_neg (by simp)]; simp [sgnB, digs]
    · have hu0 : 0 < u := by omega
      have hm : (Int.tmod x 10 < 0 → -(Int.tmod x 10) = ((u % 10 : Nat) : Int)) ∧ (¬ Int.tmod x 10 < 0 → Int.tmod x 10 = ((u % 10 : Nat) : Int)) := by
        have := tmod_cases x 10
        by_cases hx : 0 ≤ x
        · have := this.1 hx; omega
        · have := this.2 (by omega); omega
      have hd : (Int.tdiv x 10).natAbs = u / 10 ∧ -9223372036854775808 ≤ Int.tdiv x 10 ∧ Int.tdiv x 10 ≤ 9223372036854775807 := by
        have := tdiv_cases x 10
        by_cases hx : 0 ≤ x
        · have := this.1 hx; omega
        · have := this.2 (by omega); omega
      have hst := digs_step hu0
      have hlen : (digs u).length = (digs (u / 10)).length + 1 := by rw [hst]; simp
      have h := ih (u / 10) (by omega) (Int.tdiv x 10) (UInt8.ofNat (48 + u % 10) :: s) neg hd.1 hd.2.1 hd.2.2 (by simp; omega)
      refine ev_eq (Ev.step (fun k => ?_) h) (by rw [hst, List.append_assoc]; rfl)
      simp only [spec_FormatInt.l0]
      rw [if_neg h0, w64 (n := Int.tdiv x 10) hd.2.1 (by omega)]
      by_cases ht : Int.tmod x 10 < 0
      · rw [if_pos ht, hm.1 ht, Option.bind_some, w64 (n := ((u % 10 : Nat) : Int)) (by omega) (by omega), ofInt_byte _ (by omega), if_pos (by rw [strOfNums_size, hsz]; simp; omega), str_one _ (by omega)]
      · rw [if_neg ht, hm.2 ht, Option.bind_some, ofInt_byte _ (by omega), if_pos (by rw [strOfNums_size, hsz]; simp; omega), str_one _ (by omega)]
theorem fmt_spec (n : Int) (h0 : -9223372036854775808 ≤ n) (h1 : n ≤ 9223372036854775807) : Ev (fun k => spec_FormatInt.f k n) ⟨(Lib.itoa n).toArray⟩ := by
  unfold spec_FormatInt.f
  by_cases hz : n = 0
  · subst hz
    exact ev_ifp rfl (ev_eq (ev_some _) (by decide +kernel))
  · refine ev_ifn hz ?_
    have h := fmt_loop n.natAbs n [] (decide (n < 0)) rfl h0 h1 (by have := digs_len n.natAbs; simp; omega)
    have hne : n.natAbs ≠ 0 := by omega
    have hd : digs n.natAbs = Lib.decDigits n.natAbs := if_neg hne
    have e : (sgnB (decide (n < 0)) ++ (digs n.natAbs ++ [])) = Lib.itoa n := by
      rw [List.append_nil, hd]
      unfold Lib.itoa
      by_cases hn : n < 0
      · rw [decide_eq_true hn, if_pos hn]; rfl
      · rw [decide_eq_false hn, if_neg hn, show n.natAbs = n.toNat by omega]; rfl
    rw [e] at h
    exact h
theorem fmt_impl (n : Int) (h0 : -9223372036854775808 ≤ n) (h1 : n ≤ 9223372036854775807) : impl_FormatInt.f n = some ⟨(Lib.itoa n).toArray⟩ := by
  unfold impl_FormatInt.f strconv_Itoa.f
  rw [if_pos ⟨h0, h1⟩]
  rfl

/-- One byte of a numeral: the number and the count of digits so far. -/
def dstep (p : Nat × Nat) (b : UInt8) : Nat × Nat := if 48 ≤ b.toNat ∧ b.toNat ≤ 57 then (p.1 * 10 + (b.toNat - 48), p.2 + 1) else p
theorem dfold_bound : ∀ (l : List UInt8) (p : Nat × Nat), p.1 < 10 ^ p.2 → (l.foldl dstep p).1 < 10 ^ (l.foldl dstep p).2
  | [], p, h => h
  | b :: r, p, h => by
    rw [List.foldl_cons]
    refine dfold_bound r _ ?_
    unfold dstep
    by_cases hb : 48 ≤ b.toNat ∧ b.toNat ≤ 57
    · rw [if_pos hb]
      show p.1 * 10 + (b.toNat - 48) < 10 ^ (p.2 + 1)
      rw [Nat.pow_succ]; omega
    · rw [if_neg hb]; exact h
theorem dfold_count : ∀ (l : List UInt8) (p : Nat × Nat), (l.foldl dstep p).2 ≤ p.2 + l.length
  | [], p => by simp
  | b :: r, p => by
    rw [List.foldl_cons]
    have := dfold_count r (dstep p b)
    have h2 : (dstep p b).2 ≤ p.2 + 1 := by unfold dstep; split <;> simp
    rw [List.length_cons]; omega
theorem digit_nat (d : Nat) (h : d < 10) : (UInt8.ofNat (48 + d)).toNat = 48 + d := by
  simp [UInt8.toNat_ofNat']; omega
theorem digs_fold (u : Nat) : ∀ p : Nat × Nat, (digs u).foldl dstep p = (p.1 * 10 ^ (digs u).length + u, p.2 + (digs u).length) := by
  induction u using Nat.strongRecOn with
  | _ u ih =>
    intro p
    by_cases h : u = 0
    · subst h; simp [digs]
    · rw [digs_step (by omega), List.foldl_append, ih (u / 10) (by omega) p, List.length_append, List.length_singleton, List.foldl_cons, List.foldl_nil]
      unfold dstep
      rw [digit_nat _ (by omega), if_pos (by omega), Nat.pow_succ]
      refine Prod.ext ?_ ?_
      · show (p.1 * 10 ^ (digs (u / 10)).length + u / 10) * 10 + (48 + u % 10 - 48) = p.1 * (10 ^ (digs (u / 10)).length * 10) + u
        rw [Nat.add_mul, Nat.mul_assoc]; omega
      · show p.2 + (digs (u / 10)).length + 1 = p.2 + ((digs (u / 10)).length + 1)
        omega
theorem digs_small (k : Nat) : ∀ u, u < 10 ^ k → (digs u).length ≤ k := by
  induction k with
  | zero => intro u h; have : u = 0 := by simpa using h
            subst this; simp [digs]
  | succ k ih =>
    intro u h
    by_cases h0 : u = 0
    · subst h0; simp [digs]
    · rw [digs_step (by omega), List.length_append, List.length_singleton]
      have := ih (u / 10) (by rw [Nat.pow_succ] at h; omega)
      omega
theorem digs_dec (u : Nat) : ∀ acc, Lib.decFrom acc (digs u) = some (acc * 10 ^ (digs u).length + u) := by
  induction u using Nat.strongRecOn with
  | _ u ih =>
    intro acc
    by_cases h : u = 0
    · subst h; simp [digs, Lib.decFrom]
    · have happ : ∀ (l : List UInt8) (acc : Nat) (r : Nat) (d : Nat), d < 10 → Lib.decFrom acc l = some r → Lib.decFrom acc (l ++ [UInt8.ofNat (48 + d)]) = some (r * 10 + d) := by
        intro l
        induction l with
        | nil =>
          intro acc r d hd hr
          obtain rfl := Option.some.inj hr
          simp only [List.nil_append, Lib.decFrom, Lib.digitVal]
          rw [digit_nat d hd, if_pos (by omega)]
          simp
        | cons b t ih2 =>
          intro acc r d hd hr
          simp only [List.cons_append, Lib.decFrom] at hr ⊢
          cases hq : Lib.digitVal b with
          | none => rw [hq] at hr; cases hr
          | some q => rw [hq] at hr; exact ih2 _ _ _ hd hr
      rw [digs_step (by omega), happ _ _ _ _ (by omega) (ih (u / 10) (by omega) acc), List.length_append, List.length_singleton, Nat.pow_succ]
      congr 1
      rw [Nat.add_mul, Nat.mul_assoc]; omega
theorem digs_head (u : Nat) : ∀ b r, digs u = b :: r → 48 ≤ b.toNat ∧ b.toNat ≤ 57 := by
  induction u using Nat.strongRecOn with
  | _ u ih =>
    intro b r h
    by_cases h0 : u = 0
    · subst h0; simp [digs] at h
    · rw [digs_step (by omega)] at h
      cases hq : digs (u / 10) with
      | nil =>
        rw [hq] at h
        obtain ⟨rfl, _⟩ := List.cons.inj h
        rw [digit_nat _ (by omega)]; omega
      | cons c t =>
        rw [hq] at h
        obtain ⟨rfl, _⟩ := List.cons.inj h
        by_cases h1 : u / 10 < u
        · exact ih (u / 10) h1 _ _ hq
        · omega
theorem itoa_pos {n : Int} (h : 0 < n) : Lib.itoa n = digs n.natAbs := by
  unfold Lib.itoa digs
  rw [if_neg (by omega), if_neg (by omega), show n.toNat = n.natAbs by omega]
theorem itoa_neg {n : Int} (h : n < 0) : Lib.itoa n = 45 :: digs n.natAbs := by
  unfold Lib.itoa digs
  rw [if_pos h, if_neg (by omega)]
/-- A small number's numeral is read back. -/
theorem atoi_itoa {n : Int} (h0 : -999999999 ≤ n) (h1 : n ≤ 999999999) : Lib.atoiAll (Lib.itoa n) = .ok n ∧ (Lib.itoa n).length ≤ 10 ∧
    ((Lib.itoa n).foldl dstep (0, 0)).2 ≤ 9 ∧ (if (Lib.itoa n).head? = some 45 then -((((Lib.itoa n).foldl dstep (0, 0)).1 : Nat) : Int) else ((((Lib.itoa n).foldl dstep (0, 0)).1 : Nat) : Int)) = n := by
  by_cases hz : n = 0
  · subst hz; decide +kernel
  have hl := digs_small 9 n.natAbs (by omega)
  have hne : digs n.natAbs ≠ [] := by rw [digs_step (by omega)]; simp
  have hdn : Lib.decNat (digs n.natAbs) = some n.natAbs := by
    unfold Lib.decNat
    rw [if_neg (by simpa using hne), digs_dec]; simp
  by_cases hn : n < 0
  · rw [itoa_neg hn]
    have hlen : (45 :: digs n.natAbs).length ≤ 10 := by rw [List.length_cons]; omega
    refine ⟨?_, hlen, ?_, ?_⟩
    · rw [Lib.atoiAll_short _ (by omega)]
      unfold Lib.atoi
      simp only [hdn]
      show Lib.NumEnd.ok (-(n.natAbs : Int)) = _
      congr 1; omega
    · rw [List.foldl_cons, show dstep (0, 0) 45 = (0, 0) from by decide, digs_fold]; show 0 + _ ≤ 9; omega
    · rw [List.foldl_cons, show dstep (0, 0) 45 = (0, 0) from by decide, digs_fold, if_pos (show (45 :: digs n.natAbs).head? = some 45 from rfl)]; show -(((0 * _ + n.natAbs : Nat)) : Int) = n; rw [Nat.zero_mul]; omega
  · rw [itoa_pos (by omega)]
    obtain ⟨b, r, hb⟩ : ∃ b r, digs n.natAbs = b :: r := by cases hq : digs n.natAbs with | nil => exact absurd hq hne | cons b r => exact ⟨b, r, rfl⟩
    have hbb := digs_head _ _ _ hb
    have n45 : b ≠ 45 := by intro e; subst e; revert hbb; decide
    have n43 : b ≠ 43 := by intro e; subst e; revert hbb; decide
    refine ⟨?_, by omega, ?_, ?_⟩
    · rw [Lib.atoiAll_short _ (by omega)]
      rw [hb] at hdn ⊢
      unfold Lib.atoi
      simp only [hdn, beq_iff_eq, n45, n43, if_false]
      show Lib.NumEnd.ok (n.natAbs : Int) = _
      congr 1; omega
    · rw [digs_fold]; show 0 + _ ≤ 9; omega
    · rw [if_neg (by rw [hb]; simpa using n45), digs_fold]; show (((0 * _ + n.natAbs : Nat)) : Int) = n; rw [Nat.zero_mul]; omega
/-- What the reference answers. -/
def numOf (l : List UInt8) : Int := if l.head? = some 45 then -((((l.take 11).foldl dstep (0, 0)).1 : Nat) : Int) else ((((l.take 11).foldl dstep (0, 0)).1 : Nat) : Int)
def specPI (l : List UInt8) : Int × Bool := if ((l.take 11).foldl dstep (0, 0)).2 > 9 then (0, false) else if l.length > 10 then (0, false) else if Lib.itoa (numOf l) = l then (numOf l, true) else (0, false)
theorem numOf_small {l : List UInt8} (h : ((l.take 11).foldl dstep (0, 0)).2 ≤ 9) : -999999999 ≤ numOf l ∧ numOf l ≤ 999999999 := by
  have hb := dfold_bound (l.take 11) (0, 0) (by decide)
  have hp : 10 ^ ((l.take 11).foldl dstep (0, 0)).2 ≤ 10 ^ 9 := Nat.pow_le_pow_right (by decide) h
  unfold numOf
  split <;> omega
theorem pi_same (l : List UInt8) : impl_ParseInt.parse l = specPI l := by
  by_cases hE : ∃ v, Lib.itoa v = l ∧ -999999999 ≤ v ∧ v ≤ 999999999
  · obtain ⟨v, rfl, h0, h1⟩ := hE
    obtain ⟨a1, a2, a3, a4⟩ := atoi_itoa h0 h1
    have ht : (Lib.itoa v).take 11 = Lib.itoa v := List.take_of_length_le (by omega)
    have hn : numOf (Lib.itoa v) = v := by unfold numOf; rw [ht]; exact a4
    unfold impl_ParseInt.parse specPI
    rw [a1, ht, hn, if_neg (by omega), if_neg (by omega), if_pos rfl]
    show (if Lib.itoa v = Lib.itoa v ∧ v ≤ 999999999 ∧ -999999999 ≤ v then (v, true) else (0, false)) = _
    rw [if_pos ⟨rfl, h1, h0⟩]
  · have hs : specPI l = (0, false) := by
      unfold specPI
      by_cases c1 : ((l.take 11).foldl dstep (0, 0)).2 > 9
      · rw [if_pos c1]
      · rw [if_neg c1]
        by_cases c2 : l.length > 10
        · rw [if_pos c2]
        · rw [if_neg c2, if_neg (fun e => hE ⟨_, e, (numOf_small (by omega)).1, (numOf_small (by omega)).2⟩)]
    rw [hs]
    unfold impl_ParseInt.parse
    rcases Lib.atoiAll l with v | _ | _
    · show (if Lib.itoa v = l ∧ v ≤ 999999999 ∧ -999999999 ≤ v then (v, true) else (0, false)) = _
      rw [if_neg (fun e => hE ⟨v, e.1, e.2.2, e.2.1⟩)]
    · rfl
    · rfl
theorem pi_impl (s : ByteArray) (hs : s.size ≤ 1048576) : impl_ParseInt.f s = some (specPI s.data.toList) := by
  unfold impl_ParseInt.f
  rw [if_pos (by omega), pi_same]

theorem size_list (s : ByteArray) : s.size = s.data.toList.length := (Array.length_toList (xs := s.data)).symm
theorem bt_list (s : ByteArray) (i : Nat) (h : i < s.data.toList.length) : bt s (i : Int) = ((s.data.toList[i]'h).toNat : Int) := by
  have h' : i < s.size := by rw [size_list]; exact h
  unfold bt
  rw [dif_pos (show (i : Int).toNat < s.size from by rw [Int.toNat_natCast]; exact h')]
  rfl
def cutA (c : UInt8) : List UInt8 → List UInt8 → List (List UInt8)
  | part, [] => [part]
  | part, b :: r => if b = c then part :: cutA c [] r else cutA c (part ++ [b]) r
def cuts (c : UInt8) (l : List UInt8) : List (List UInt8) := cutA c [] l
theorem cutA_ne (c : UInt8) : ∀ (l p : List UInt8), cutA c p l ≠ []
  | [], p => by simp [cutA]
  | b :: r, p => by
    unfold cutA
    split
    · simp
    · exact cutA_ne c r _
theorem cutA_len (c : UInt8) : ∀ (l p : List UInt8), (cutA c p l).length ≤ l.length + 1
  | [], p => by simp [cutA]
  | b :: r, p => by
    unfold cutA
    split
    · have := cutA_len c r []; simp only [List.length_cons]; omega
    · have := cutA_len c r (p ++ [b]); simp only [List.length_cons]; omega
theorem cutA_part (c : UInt8) : ∀ (l p w : List UInt8), w ∈ cutA c p l → w.length ≤ p.length + l.length
  | [], p, w, h => by
    rw [cutA, List.mem_singleton] at h
    subst h; simp
  | b :: r, p, w, h => by
    unfold cutA at h
    split at h
    · rcases List.mem_cons.1 h with h | h
      · subst h; omega
      · have := cutA_part c r [] w h; simp only [List.length_cons, List.length_nil] at *; omega
    · have := cutA_part c r (p ++ [b]) w h; simp only [List.length_cons, List.length_append, List.length_nil] at *; omega
theorem cutA_app (c : UInt8) : ∀ (w r p : List UInt8), (∀ x ∈ w, x ≠ c) → cutA c p (w ++ c :: r) = (p ++ w) :: cutA c [] r
  | [], r, p, _ => by simp [cutA]
  | b :: w, r, p, h => by
    rw [List.cons_append, cutA, if_neg (h b (by simp)), cutA_app c w r (p ++ [b]) (fun x hx => h x (by simp [hx]))]
    simp
theorem cutA_end (c : UInt8) : ∀ (w p : List UInt8), (∀ x ∈ w, x ≠ c) → cutA c p w = [p ++ w]
  | [], p, _ => by simp [cutA]
  | b :: w, p, h => by
    rw [cutA, if_neg (h b (by simp)), cutA_end c w (p ++ [b]) (fun x hx => h x (by simp [hx]))]
    simp
theorem ext_one (s : ByteArray) (i : Nat) (h : i < s.data.toList.length) : s.extract i (i + 1) = bs [s.data.toList[i]] := by
  have e : (s.extract i (i + 1)).data.toList = [s.data.toList[i]] := by
    rw [Lib.extract_data, show i + 1 - i = 1 by omega, List.drop_eq_getElem_cons h]; rfl
  apply ByteArray.ext
  apply Array.ext'
  rw [e]; rfl
theorem idx1_hit (c : UInt8) : ∀ (p r : List UInt8), (∀ x ∈ p, x ≠ c) → Lib.index (p ++ c :: r) [c] = p.length
  | [], r, _ => by simp [Lib.index, List.isPrefixOf]
  | b :: p, r, h => by
    have hb : b ≠ c := h b (by simp)
    have ih := idx1_hit c p r (fun x hx => h x (by simp [hx]))
    have hpre : ([c] : List UInt8).isPrefixOf (b :: (p ++ c :: r)) = false := by
      have : (c == b) = false := by rw [beq_eq_false_iff_ne]; exact fun e => hb e.symm
      simp [List.isPrefixOf, this]
    rw [List.cons_append]
    unfold Lib.index
    rw [hpre, ih]
    have : ((p.length : Int) == -1) = false := by rw [beq_eq_false_iff_ne]; omega
    rw [this]
    simp
theorem idx1_miss (c : UInt8) : ∀ (p : List UInt8), (∀ x ∈ p, x ≠ c) → Lib.index p [c] = -1
  | [], _ => by simp [Lib.index]
  | b :: p, h => by
    have hb : b ≠ c := h b (by simp)
    have ih := idx1_miss c p (fun x hx => h x (by simp [hx]))
    have hpre : ([c] : List UInt8).isPrefixOf (b :: p) = false := by
      have : (c == b) = false := by rw [beq_eq_false_iff_ne]; exact fun e => hb e.symm
      simp [List.isPrefixOf, this]
    unfold Lib.index
    rw [hpre, ih]
    rfl
theorem first_c (c : UInt8) : ∀ l : List UInt8, (∀ x ∈ l, x ≠ c) ∨ ∃ p r, l = p ++ c :: r ∧ ∀ x ∈ p, x ≠ c
  | [] => .inl (by simp)
  | b :: l => by
    by_cases e : b = c
    · exact .inr ⟨[], l, by rw [e]; rfl, by simp⟩
    · rcases first_c c l with h | ⟨p, r, h1, h2⟩
      · exact .inl (fun x hx => by rcases List.mem_cons.1 hx with h' | h'; exact h' ▸ e; exact h x h')
      · exact .inr ⟨b :: p, r, by rw [h1]; rfl, fun x hx => by rcases List.mem_cons.1 hx with h' | h'; exact h' ▸ e; exact h2 x h'⟩
theorem splitK_cuts (c : UInt8) : ∀ (n : Nat) (l : List UInt8), l.length ≤ n → Lib.splitK [c] 0 (Lib.count l [c]) l = cuts c l := by
  intro n
  induction n with
  | zero =>
    intro l hl
    obtain rfl : l = [] := List.length_eq_zero_iff.1 (by omega)
    rw [Lib.count_miss (idx1_miss c [] (by simp))]
    rfl
  | succ n ih =>
    intro l hl
    rcases first_c c l with h | ⟨p, r, rfl, h⟩
    · rw [Lib.count_miss (idx1_miss c l h)]
      unfold cuts
      rw [cutA_end c l [] h]
      rfl
    · have hi := idx1_hit c p r h
      have hd : (p ++ c :: r).drop (p.length + 1) = r := by
        rw [show p ++ c :: r = (p ++ [c]) ++ r by simp, show p.length + 1 = (p ++ [c]).length by simp, List.drop_left]
      rw [Lib.count_hit (by simp) hi, show ([c] : List UInt8).length = 1 from rfl, hd, Nat.add_comm, Lib.splitK, hi, if_neg (by simp <;> omega), Int.toNat_natCast, Nat.add_zero, List.take_left, show ([c] : List UInt8).length = 1 from rfl, hd, ih r (by simp at hl; omega)]
      unfold cuts
      rw [cutA_app c p r [] h]
      rfl
theorem ba_bs' (s : ByteArray) : bs s.data.toList = s := by
  apply ByteArray.ext
  simp [bs]
theorem split_ev (s : ByteArray) (c : UInt8) (hs : s.size ≤ 1048576) : strings_Split.f s (⟨#[c]⟩ : ByteArray) = some ((cuts c s.data.toList).map bs) := by
  unfold strings_Split.f
  rw [if_pos ⟨by omega, by show 1 ≤ 1; omega⟩]
  congr 1
  have h := Lib.splitB_data (⟨#[c]⟩ : ByteArray) 0 (Lib.countB s (⟨#[c]⟩ : ByteArray)) s
  have hk : Lib.splitK [c] 0 (Lib.countB s (⟨#[c]⟩ : ByteArray)) s.data.toList = cuts c s.data.toList := splitK_cuts c _ _ (Nat.le_refl _)
  have h2 := h.trans hk
  rw [← h2, List.map_map]
  have : (bs ∘ fun x : ByteArray => x.data.toList) = id := by funext x; exact ba_bs' x
  rw [this, List.map_id]

theorem itoa_len2 (n : Int) : (Lib.itoa n).length ≤ 3 + n.natAbs / 10 := by
  by_cases hz : n = 0
  · subst hz; decide +kernel
  · have hd : digs n.natAbs = Lib.decDigits n.natAbs := if_neg (by omega)
    have := digs_len n.natAbs
    unfold Lib.itoa
    by_cases hn : n < 0
    · rw [if_pos hn, List.length_cons, ← hd]; omega
    · rw [if_neg hn, show n.toNat = n.natAbs by omega, ← hd]; omega
theorem fs (n : Int) (h : n.natAbs ≤ 100000) : Ev (fun k => spec_FormatInt.f k n) (bs (Lib.itoa n)) := fmt_spec n (by omega) (by omega)
theorem fi (n : Int) (h : n.natAbs ≤ 100000) : impl_FormatInt.f n = some (bs (Lib.itoa n)) := fmt_impl n (by omega) (by omega)
theorem bs_list (l : List UInt8) : (bs l).data.toList = l := by simp [bs]

theorem digs_all (u : Nat) : ∀ x ∈ digs u, 48 ≤ x.toNat := by
  induction u using Nat.strongRecOn with
  | _ u ih =>
    intro x hx
    by_cases h0 : u = 0
    · subst h0; simp [digs] at hx
    · rw [digs_step (by omega), List.mem_append, List.mem_singleton] at hx
      rcases hx with hx | rfl
      · exact ih (u / 10) (by omega) x hx
      · rw [digit_nat _ (by omega)]; omega
theorem specPI_itoa {v : Int} (h0 : -999999999 ≤ v) (h1 : v ≤ 999999999) : specPI (Lib.itoa v) = (v, true) := by
  obtain ⟨a1, a2, a3, a4⟩ := atoi_itoa h0 h1
  have ht : (Lib.itoa v).take 11 = Lib.itoa v := List.take_of_length_le (by omega)
  have hn : numOf (Lib.itoa v) = v := by unfold numOf; rw [ht]; exact a4
  unfold specPI
  rw [ht, hn, if_neg (by omega), if_neg (by omega), if_pos rfl]
def num2 (l : List UInt8) : Int := if (specPI l).2 = true then (specPI l).1 else -100000
theorem rdColumn {l : List S58} {i : Nat} (h : i < l.length) : rd_T58 l (i : Int) = l[i] := by
  unfold rd_T58; simp [List.getD_eq_getElem?_getD, List.getElem?_eq_getElem h]

def pushR (f : List UInt8 → Int) : List (List UInt8) → List S58 → List S58
  | n :: ns, c :: cs => ⟨c.f0, c.f1 ++ [f n]⟩ :: pushR f ns cs
  | [], cs => cs
  | _ :: _, [] => []
theorem pushR_nil (f : List UInt8 → Int) (ns : List (List UInt8)) : pushR f ns [] = [] := by cases ns <;> rfl
theorem pushR_len (f : List UInt8 → Int) : ∀ (ns : List (List UInt8)) (cs : List S58), (pushR f ns cs).length = cs.length
  | [], cs => by rw [pushR]
  | n :: ns, [] => by rw [pushR]
  | n :: ns, c :: cs => by rw [pushR, List.length_cons, pushR_len f ns cs, List.length_cons]
def boundT (m : Nat) (T : List S58) : Prop := ∀ z ∈ T, z.f0.size ≤ 1048576 ∧ z.f1.length ≤ m
theorem pushR_bound (f : List UInt8 → Int) (m : Nat) : ∀ (ns : List (List UInt8)) (cs : List S58), boundT m cs → boundT (m + 1) (pushR f ns cs)
  | [], cs, h => fun z hz => by rw [pushR] at hz; have := h z hz; omega
  | n :: ns, [], h => fun z hz => by rw [pushR] at hz; cases hz
  | n :: ns, c :: cs, h => fun z hz => by
    rw [pushR] at hz
    rcases List.mem_cons.1 hz with e | e
    · subst e
      have := h c (by simp)
      simp only [List.length_append, List.length_singleton]
      omega
    · exact pushR_bound f m ns cs (fun y hy => h y (by simp [hy])) z e
def pi1 (l : List UInt8) : Int := (specPI l).1
theorem rdB_at (P R : List ByteArray) (x : ByteArray) : rdOf ByteArray.empty (P ++ x :: R) (P.length : Int) = x := by
  unfold rdOf
  rw [Int.toNat_natCast, List.getD_eq_getElem?_getD, List.getElem?_append_right (Nat.le_refl _), Nat.sub_self]
  rfl
theorem rdT_at (A B : List S58) (c : S58) : rd_T58 (A ++ c :: B) (A.length : Int) = c := by
  unfold rd_T58
  rw [Int.toNat_natCast, List.getD_eq_getElem?_getD, List.getElem?_append_right (Nat.le_refl _), Nat.sub_self]
  rfl
theorem setT_at (A B : List S58) (c d : S58) : (A ++ c :: B).set A.length d = (A ++ [d]) ++ B := by
  rw [List.set_append_right _ _ (Nat.le_refl _), Nat.sub_self, List.append_assoc]
  rfl
theorem im_l2 (s : ByteArray) (y : List ByteArray) (x45 x46 : Int) (r : List S58 × Bool) : ∀ (ns : List (List UInt8)) (P : List ByteArray) (A B : List S58) (N : Int), N = (P.length : Int) + ns.length →
    P.length = A.length → ns.length = B.length → (∀ w ∈ ns, w.length ≤ 1048576) → boundT 1048576 B → A.length + B.length ≤ 1048577 →
    Ev (fun k => impl_ParseTable.l1 k s y x45 (wrap64 (x46 + 1)) (A ++ pushR pi1 ns B)) r → Ev (fun k => impl_ParseTable.l2 k s y x45 x46 (P ++ ns.map bs) N (A.length : Int) (A ++ B)) r
  | [], P, A, B, N, hN, hP, hE, hw, hB, hn, h => by
    rw [pushR] at h
    rw [List.length_nil] at hN
    refine Ev.step (fun k => ?_) h
    simp only [impl_ParseTable.l2]
    rw [if_neg (by omega)]
  | n :: ns, P, A, [], N, hN, hP, hE, hw, hB, hn, h => by simp at hE
  | n :: ns, P, A, c :: B, N, hN, hP, hE, hw, hB, hn, h => by
    have hc := hB c (by simp)
    rw [List.length_cons] at hn hE hN
    rw [List.length_cons] at hE
    rw [pushR, show ∀ X, A ++ (⟨c.f0, c.f1 ++ [pi1 n]⟩ : S58) :: X = (A ++ [⟨c.f0, c.f1 ++ [pi1 n]⟩]) ++ X from fun X => by simp] at h
    have ih := im_l2 s y x45 x46 r ns (P ++ [bs n]) (A ++ [⟨c.f0, c.f1 ++ [pi1 n]⟩]) B N (by simp; omega) (by simp; omega) (by omega) (fun w hw' => hw w (by simp [hw'])) (fun z hz => hB z (by simp [hz])) (by simp; omega) h
    apply Ev.step
    · intro k; simp only [impl_ParseTable.l2]; rfl
    refine ev_ifp (by omega) (ev_ifp (by omega) (ev_ifp (by simp; omega) ?_))
    rw [List.map_cons, ← hP, rdB_at, hP, rdT_at, Int.toNat_natCast]
    have hb := pi_impl (bs n) (by rw [bs_size]; exact hw n (by simp))
    rw [bs_list] at hb
    refine ev_pure hb (ev_ifp (by simp; omega) (ev_ifp (by omega) ?_))
    rw [setT_at, show wrap64 ((A.length : Int) + 1) = ((A ++ [(⟨c.f0, c.f1 ++ [pi1 n]⟩ : S58)]).length : Int) from by rw [w64 (by omega) (by omega)]; simp, show P ++ bs n :: ns.map bs = (P ++ [bs n]) ++ ns.map bs by simp]
    exact ih

def flat (ws : List (List UInt8)) : List UInt8 := (ws.map (32 :: ·)).flatten
theorem flat_app (ws : List (List UInt8)) (w : List UInt8) : flat (ws ++ [w]) = flat ws ++ 32 :: w := by simp [flat]
theorem join_flat : ∀ ws : List (List UInt8), ws ≠ [] → Lib.join ws [32] = (flat ws).drop 1
  | [], h => absurd rfl h
  | x :: r, _ => by rw [Lib.join_cons]; simp [flat, Lib.joinTail]
theorem flat_ne {ws : List (List UInt8)} (h : ws ≠ []) : flat ws ≠ [] := by
  cases ws with
  | nil => exact absurd rfl h
  | cons x r => simp [flat]
theorem map_bs (ws : List (List UInt8)) : (ws.map bs).map (·.data.toList) = ws := by
  rw [List.map_map]
  have : ((fun x : ByteArray => x.data.toList) ∘ bs) = id := by funext l; exact bs_list l
  rw [this, List.map_id]

def areV (l : List Int) : Bool := decide (l.length ≤ 64) && l.all (fun x => decide (-999 ≤ x) && decide (x ≤ 999))

theorem areV_facts {l : List Int} (h : areV l = true) : l.length ≤ 64 ∧ ∀ i : Nat, i < l.length → -999 ≤ rd l (i : Int) ∧ rd l (i : Int) ≤ 999 := by
  unfold areV at h
  rw [Bool.and_eq_true, decide_eq_true_eq, List.all_eq_true] at h
  refine ⟨h.1, fun i hi => ?_⟩
  rw [rd_nat hi]
  have := h.2 l[i] (List.getElem_mem hi)
  simpa using this

/-- A loop that ends false at the first round that is not ok, and goes on with r behind the last. -/
theorem all_ev (n : Nat) (ok : Nat → Bool) (r : Bool) (g : Nat → Nat → Option Bool) (hf : ∀ i, i < n → ok i = false → Ev (fun k => g k i) false)
    (ht : ∀ i, i < n → ∀ r, ok i = true → Ev (fun k => g k (i + 1)) r → Ev (fun k => g k i) r) (he : (∀ i, i < n → ok i = true) → Ev (fun k => g k n) r) :
    Ev (fun k => g k 0) ((List.range n).all ok && r) := by
  refine loop_ev n (fun i => ∀ j, j < i → ok j = true) g _ (fun j h => absurd h (Nat.not_lt_zero _)) ?_ ?_
  · intro i hi hc ih
    cases e : ok i with
    | true =>
      refine ht i hi _ e (ih (fun j hj => ?_))
      by_cases h : j = i
      · rw [h]; exact e
      · exact hc j (by omega)
    | false =>
      have : (List.range n).all ok = false := by
        rw [List.all_eq_false]
        exact ⟨i, List.mem_range.2 hi, by simp [e]⟩
      rw [this, Bool.false_and]
      exact hf i hi e
  · intro hc
    have : (List.range n).all ok = true := by
      rw [List.all_eq_true]
      exact fun i hi => hc i (List.mem_range.1 hi)
    rw [this, Bool.true_and]
    exact he hc

theorem l1In_eq (x a b : Int) : spec_l1In.f x a b = some (decide (a ≤ x) && decide (x ≤ b)) := by
  unfold spec_l1In.f
  by_cases h : x ≥ a
  · rw [if_pos h]
    have : a ≤ x := h
    simp [this]
  · rw [if_neg h]
    have : ¬ a ≤ x := h
    simp [this]

theorem specAreValues_ev (l : List Int) (hl : l.length ≤ 4611686018427387904) : Ev (fun k => spec_AreValues.f k l) (areV l) := by
  unfold spec_AreValues.f
  refine loop_ev l.length (fun i => ∀ j (h : j < l.length), j < i → (decide (-999 ≤ l[j]) && decide (l[j] ≤ 999)) = true) (fun k i => spec_AreValues.l0 k l (i : Int)) (areV l) (fun j _ h => absurd h (Nat.not_lt_zero _)) ?_ ?_
  · intro i hi hc ih
    cases e : (decide (-999 ≤ l[i]) && decide (l[i] ≤ 999)) with
    | true =>
      refine Ev.step (fun k => ?_) (ih (fun j h hj => ?_))
      · simp only [spec_AreValues.l0]
        rw [if_pos (by omega), if_pos (by omega), rd_nat hi]
        have e2 : spec_l1In.f l[i] (-999) 999 = some true := by
          simp at e
          unfold spec_l1In.f
          rw [if_pos (by omega)]
          simp [e.2]
        rw [e2, Option.bind_some, if_pos rfl, wS hi (by omega)]
      · by_cases hji : j = i
        · subst hji; exact e
        · exact hc j h (by omega)
    | false =>
      refine ev_const (fun k => ?_)
      simp only [spec_AreValues.l0]
      rw [if_pos (by omega), if_pos (by omega), rd_nat hi]
      have e2 : spec_l1In.f l[i] (-999) 999 = some false := by
        unfold spec_l1In.f
        by_cases c : l[i] ≥ -999
        · rw [if_pos c]
          have c2 : -999 ≤ l[i] := c
          simp [c2] at e
          simp; omega
        · rw [if_neg c]
      rw [e2, Option.bind_some, if_neg (by simp)]
      unfold areV
      rw [all_false_at _ l i hi e, Bool.and_false]
  · intro hc
    refine ev_const (fun k => ?_)
    simp only [spec_AreValues.l0]
    rw [if_neg (by omega)]
    unfold areV
    rw [all_take_true _ l (fun i h => hc i h h), Bool.and_true]
    congr 1
    simp
    omega

theorem within_all (l : List Int) (a b : Int) : impl_within.f l a b = some (l.all fun x => decide (a ≤ x) && decide (x ≤ b)) := by
  unfold impl_within.f
  rw [List.not_any_eq_all_not]
  congr 2
  funext x
  by_cases h1 : x < a <;> by_cases h2 : b < x <;> simp [h1, h2] <;> omega
theorem implAreValues (l : List Int) : impl_AreValues.f l = some (areV l) := by
  unfold impl_AreValues.f areV
  by_cases h : (l.length : Int) ≤ 64
  · rw [if_pos h, within_all, Option.bind_some]
    have : l.length ≤ 64 := by omega
    simp [this]
  · rw [if_neg h]
    have : ¬ l.length ≤ 64 := by omega
    simp [this]

def nmI (s : ByteArray) (i : Nat) : Bool := decide (97 ≤ bt s (i : Int)) && decide (bt s (i : Int) ≤ 122)
def isN (s : ByteArray) : Bool := (List.range s.size).all (nmI s) && (decide (1 ≤ (s.size : Int)) && decide ((s.size : Int) ≤ 8))
theorem specIsName_ev (s : ByteArray) (hs : s.size ≤ 4611686018427387904) : Ev (fun k => spec_IsName.f k s) (isN s) := by
  unfold spec_IsName.f
  refine all_ev s.size (nmI s) _ (fun k i => spec_IsName.l0 k s (i : Int)) ?_ ?_ ?_
  · intro i hi e
    refine ev_const (fun k => ?_)
    simp only [spec_IsName.l0]
    unfold nmI at e
    rw [if_pos (by omega), if_pos (by omega)]
    by_cases c : bt s (i : Int) < 97
    · rw [if_pos c]
    · rw [if_neg c, if_pos]
      simp [show 97 ≤ bt s (i : Int) by omega] at e
      omega
  · intro i hi r e h
    refine Ev.step (fun k => ?_) h
    simp only [spec_IsName.l0]
    unfold nmI at e
    simp only [Bool.and_eq_true, decide_eq_true_eq] at e
    rw [if_pos (by omega), if_pos (by omega), if_neg (by omega), if_neg (by omega), wS hi (by omega)]
  · intro _
    refine ev_const (fun k => ?_)
    simp only [spec_IsName.l0]
    rw [if_neg (by omega), l1In_eq, Option.bind_some]
theorem implIsName_ev (s : ByteArray) (hs : s.size ≤ 4611686018427387904) : Ev (fun k => impl_IsName.f k s) (isN s) := by
  unfold impl_IsName.f
  refine all_ev s.size (nmI s) _ (fun k i => impl_IsName.l0 k s (s.size : Int) (i : Int)) ?_ ?_ ?_
  · intro i hi e
    refine ev_const (fun k => ?_)
    simp only [impl_IsName.l0]
    unfold nmI at e
    rw [if_pos (by omega), if_pos (by omega), if_pos (by omega)]
    by_cases c : bt s (i : Int) < 97
    · rw [if_pos c]
    · rw [if_neg c, if_pos]
      simp [show 97 ≤ bt s (i : Int) by omega] at e
      omega
  · intro i hi r e h
    refine Ev.step (fun k => ?_) h
    simp only [impl_IsName.l0]
    unfold nmI at e
    simp only [Bool.and_eq_true, decide_eq_true_eq] at e
    rw [if_pos (by omega), if_pos (by omega), if_pos (by omega), if_neg (by omega), if_neg (by omega), wS hi (by omega)]
  · intro _
    refine ev_const (fun k => ?_)
    simp only [impl_IsName.l0]
    rw [if_neg (by omega)]
    by_cases h : (s.size : Int) ≥ 1
    · rw [if_pos h]
      have : 1 ≤ (s.size : Int) := h
      simp [this]
    · rw [if_neg h, decide_eq_false (show ¬ 1 ≤ (s.size : Int) from h), Bool.false_and]

def colP (nm : ByteArray) (x : S58) : Bool := x.f0.toList == nm.toList
def colAt (l : List S58) (nm : ByteArray) : Int := Giv.fidx (colP nm) l
theorem implFindColumn (l : List S58) (nm : ByteArray) : impl_FindColumn.f l nm = some (colAt l nm) := rfl

def lone (l : List S58) (i j : Nat) : Bool := !colP (rd_T58 l (i : Int)).f0 (rd_T58 l (j : Int))
def colH (l : List S58) (i : Nat) : Bool := isN (rd_T58 l (i : Int)).f0 && (areV (rd_T58 l (i : Int)).f1 && decide (((rd_T58 l (i : Int)).f1.length : Int) = ((rd_T58 l 0).f1.length : Int)))
def colOk (l : List S58) (i : Nat) : Bool := colH l i && (List.range i).all (lone l i)
def isT (l : List S58) : Bool := (decide (1 ≤ (l.length : Int)) && decide ((l.length : Int) ≤ 4)) && (List.range l.length).all (colOk l)
theorem colAt_first {l : List S58} {i : Nat} (hi : i < l.length) : (colAt l (rd_T58 l (i : Int)).f0 = (i : Int)) ↔ (List.range i).all (lone l i) = true := by
  have hself : colP (rd_T58 l (i : Int)).f0 l[i] = true := by rw [rdColumn hi]; unfold colP; simp
  constructor
  · intro h
    rw [List.all_eq_true]
    intro j hj
    have hj := List.mem_range.1 hj
    unfold lone
    rw [rdColumn (show j < l.length by omega)]
    unfold colAt Giv.fidx at h
    cases hf : l.findIdx? (colP (rd_T58 l (i : Int)).f0) with
    | none => rw [hf] at h; simp only at h; omega
    | some m =>
      rw [hf] at h
      simp only at h
      have hm : m = i := by omega
      subst hm
      obtain ⟨_, _, h3⟩ := List.findIdx?_eq_some_iff_getElem.1 hf
      simpa using h3 j hj
  · intro h
    rw [List.all_eq_true] at h
    exact Giv.fidx_hit (List.getElem?_eq_getElem hi) hself (fun j x hj hx => by
      obtain ⟨h1, rfl⟩ := List.getElem?_eq_some_iff.1 hx
      have := h j (List.mem_range.2 hj)
      unfold lone at this
      rw [rdColumn h1] at this
      simpa using this)
theorem specT_in (l : List S58) (i : Nat) (hi : i < l.length) (r : Bool) (hl : l.length ≤ 1048577) (h : (List.range i).all (lone l i) = true → Ev (fun k => spec_IsTable.l0 k (wrap64 ((i : Int) + 1)) l) r) :
    Ev (fun k => spec_IsTable.l1 k (i : Int) 0 l (rd_T58 l (i : Int)).f0 (rd_T58 l (i : Int)).f1) ((List.range i).all (lone l i) && r) := by
  refine all_ev i (lone l i) r (fun k j => spec_IsTable.l1 k (i : Int) (j : Int) l (rd_T58 l (i : Int)).f0 (rd_T58 l (i : Int)).f1) ?_ ?_ ?_
  · intro j hj e
    refine ev_const (fun k => ?_)
    simp only [spec_IsTable.l1]
    unfold lone colP at e
    rw [if_pos (by omega), if_pos (by omega), if_pos (by omega), if_pos (by simpa using e)]
  · intro j hj r e h
    refine Ev.step (fun k => ?_) h
    simp only [spec_IsTable.l1]
    unfold lone colP at e
    rw [if_pos (by omega), if_pos (by omega), if_pos (by omega), if_neg (by simpa using e), wS (show j < i from hj) (by omega)]
  · intro hall
    refine Ev.step (fun k => ?_) (h (by rw [List.all_eq_true]; exact fun j hj => hall j (List.mem_range.1 hj)))
    simp only [spec_IsTable.l1]
    rw [if_neg (by omega)]
theorem specT_head (l : List S58) (i : Nat) (hi : i < l.length) (hl : l.length ≤ 1048577) (hz : ∀ z ∈ l, z.f0.size ≤ 1048576 ∧ z.f1.length ≤ 1048576) (r : Bool)
    (hf : colH l i = false → r = false) (ht : colH l i = true → Ev (fun k => spec_IsTable.l1 k (i : Int) 0 l (rd_T58 l (i : Int)).f0 (rd_T58 l (i : Int)).f1) r) : Ev (fun k => spec_IsTable.l0 k (i : Int) l) r := by
  have hm := hz _ (List.getElem_mem hi)
  have hj : colH l i = false → ∀ a b, Ev (fun k => spec_IsTable.j1 k (i : Int) true l a b) r := fun e a b => by
    rw [hf e]
    exact ev_const (fun k => by simp [spec_IsTable.j1])
  apply Ev.step
  · intro k; simp only [spec_IsTable.l0]; rfl
  refine ev_ifp (by omega) (ev_ifp (by omega) ?_)
  refine Ev.bind (specIsName_ev _ (by rw [rdColumn hi]; omega)) ?_
  cases h1 : isN (rd_T58 l (i : Int)).f0 with
  | false => exact ev_ifn (by simp) (hj (by unfold colH; rw [h1]; rfl) _ _)
  | true =>
    refine ev_ifp rfl (Ev.bind (specAreValues_ev _ (by rw [rdColumn hi]; omega)) ?_)
    cases h2 : areV (rd_T58 l (i : Int)).f1 with
    | false => exact ev_ifn (by simp) (hj (by unfold colH; rw [h1, h2]; rfl) _ _)
    | true =>
      refine ev_ifp rfl (ev_ifp (by omega) ?_)
      by_cases c : ((rd_T58 l (i : Int)).f1.length : Int) = ((rd_T58 l 0).f1.length : Int)
      · have hH : colH l i = true := by unfold colH; rw [h1, h2, decide_eq_true c]; rfl
        rw [show (((rd_T58 l (i : Int)).f1.length : Int) != ((rd_T58 l 0).f1.length : Int)) = false by simp [c]]
        refine Ev.step (fun k => ?_) (ht hH)
        simp only [spec_IsTable.j1]
        rw [if_neg (by simp)]
      · have hH : colH l i = false := by unfold colH; rw [h1, h2, decide_eq_false c]; rfl
        rw [show (((rd_T58 l (i : Int)).f1.length : Int) != ((rd_T58 l 0).f1.length : Int)) = true from bne_iff_ne.2 c]
        exact hj hH _ _
theorem specIsTable_ev (l : List S58) (hl : l.length ≤ 1048577) (hz : ∀ z ∈ l, z.f0.size ≤ 1048576 ∧ z.f1.length ≤ 1048576) : Ev (fun k => spec_IsTable.f k l) (isT l) := by
  unfold spec_IsTable.f isT
  refine ev_pure (l1In_eq _ _ _) ?_
  cases (decide (1 ≤ (l.length : Int)) && decide ((l.length : Int) ≤ 4)) with
  | false => exact ev_ifn (by simp) (ev_some _)
  | true =>
    refine ev_ifp rfl ?_
    rw [Bool.true_and]
    have := all_ev l.length (colOk l) true (fun k i => spec_IsTable.l0 k (i : Int) l) ?_ ?_ ?_
    · rw [Bool.and_true] at this; exact this
    · intro i hi e
      refine specT_head l i hi hl hz false (fun _ => rfl) (fun hH => ?_)
      unfold colOk at e
      rw [hH, Bool.true_and] at e
      exact ev_eq (specT_in l i hi false hl (fun h => by rw [e] at h; cases h)) (by simp)
    · intro i hi r e h
      unfold colOk at e
      rw [Bool.and_eq_true] at e
      exact specT_head l i hi hl hz r (fun hH => by rw [e.1] at hH; cases hH) (fun _ => ev_eq (specT_in l i hi r hl (fun _ => by rw [wS hi (by omega)]; exact h)) (by rw [e.2, Bool.true_and]))
    · intro _
      exact ev_const (fun k => by simp only [spec_IsTable.l0]; rw [if_neg (by omega)])
theorem implIsTable_ev (l : List S58) (hl : l.length ≤ 1048577) (hz : ∀ z ∈ l, z.f0.size ≤ 1048576 ∧ z.f1.length ≤ 1048576) : Ev (fun k => impl_IsTable.f k l) (isT l) := by
  unfold impl_IsTable.f isT
  rw [Bool.and_comm]
  refine all_ev l.length (colOk l) _ (fun k i => impl_IsTable.l0 k l (l.length : Int) (i : Int) l) ?_ ?_ ?_
  · intro i hi e
    have hm := hz _ (List.getElem_mem hi)
    apply Ev.step
    · intro k; simp only [impl_IsTable.l0, implAreValues, implFindColumn, Option.bind_some]; rfl
    refine ev_ifp (by omega) (ev_ifp (by omega) (ev_ifp (by omega) (Ev.bind (implIsName_ev _ (by rw [rdColumn hi]; omega)) ?_)))
    unfold colOk colH at e
    cases h1 : isN (rd_T58 l (i : Int)).f0 with
    | false => exact ev_ifn (by simp) (ev_some _)
    | true =>
      refine ev_ifp rfl ?_
      cases h2 : areV (rd_T58 l (i : Int)).f1 with
      | false => exact ev_ifn (by simp) (ev_some _)
      | true =>
        refine ev_ifp rfl (ev_ifp (by omega) ?_)
        by_cases c : ((rd_T58 l (i : Int)).f1.length : Int) = ((rd_T58 l 0).f1.length : Int)
        · refine ev_ifp c (ev_ifn (fun hx => ?_) (ev_some _))
          rw [h1, h2, decide_eq_true c, (colAt_first hi).1 hx] at e
          cases e
        · exact ev_ifn c (ev_some _)
  · intro i hi r e h
    have hm := hz _ (List.getElem_mem hi)
    unfold colOk colH at e
    simp only [Bool.and_eq_true, decide_eq_true_eq] at e
    apply Ev.step
    · intro k; simp only [impl_IsTable.l0, implAreValues, implFindColumn, Option.bind_some]; rfl
    refine ev_ifp (by omega) (ev_ifp (by omega) (ev_ifp (by omega) (Ev.bind (implIsName_ev _ (by rw [rdColumn hi]; omega)) (ev_ifp e.1.1 (ev_ifp e.1.2.1 (ev_ifp (by omega) (ev_ifp e.1.2.2 (ev_ifp ((colAt_first hi).2 e.2) ?_))))))))
    rw [wS hi (by omega)]
    exact h
  · intro _
    refine ev_const (fun k => ?_)
    simp only [impl_IsTable.l0]
    rw [if_neg (by omega)]
    by_cases h : (l.length : Int) ≥ 1
    · rw [if_pos h]
      have : 1 ≤ (l.length : Int) := h
      simp [this]
    · rw [if_neg h, decide_eq_false (show ¬ 1 ≤ (l.length : Int) from h), Bool.false_and]

theorem join_snoc (ws : List (List UInt8)) (w : List UInt8) : Lib.join (ws ++ [w]) [32] = if ws = [] then w else Lib.join ws [32] ++ 32 :: w := by
  cases ws with
  | nil => rw [List.nil_append, Lib.join_one, if_pos rfl]
  | cons x r => rw [List.cons_append, Lib.join_cons, Lib.join_cons, if_neg (by simp)]; simp [Lib.joinTail]
theorem flat_len (B : Nat) : ∀ ws : List (List UInt8), (∀ w ∈ ws, w.length < B) → (flat ws).length ≤ ws.length * B
  | [], _ => by simp [flat]
  | x :: r, h => by
    have ih := flat_len B r (fun w hw => h w (by simp [hw]))
    have hx := h x (by simp)
    have e : flat (x :: r) = 32 :: x ++ flat r := by simp [flat]
    rw [e, List.length_append, List.length_cons, List.length_cons, Nat.add_mul, Nat.one_mul]
    omega
theorem join_len (B : Nat) (ws : List (List UInt8)) (h : ∀ w ∈ ws, w.length < B) : (Lib.join ws [32]).length ≤ ws.length * B := by
  by_cases hz : ws = []
  · subst hz; simp [Lib.join_nil]
  · rw [join_flat ws hz, List.length_drop]
    have := flat_len B ws h
    omega
theorem size_list2 (s : ByteArray) : s.size = s.data.toList.length := (Array.length_toList (xs := s.data)).symm
theorem ba_bs (s : ByteArray) : bs s.data.toList = s := by
  apply ByteArray.ext
  simp [bs]
theorem tab_bounds {l : List S58} (h : isT l = true) : 1 ≤ l.length ∧ l.length ≤ 4 ∧ (rd_T58 l 0).f1.length ≤ 64 ∧
    ∀ j : Nat, j < l.length → (rd_T58 l (j : Int)).f1.length = (rd_T58 l 0).f1.length ∧ ∀ i : Nat, i < (rd_T58 l 0).f1.length → (rd (rd_T58 l (j : Int)).f1 (i : Int)).natAbs ≤ 999 := by
  unfold isT at h
  simp only [Bool.and_eq_true, decide_eq_true_eq, List.all_eq_true] at h
  have hc : ∀ j : Nat, j < l.length → areV (rd_T58 l (j : Int)).f1 = true ∧ (((rd_T58 l (j : Int)).f1.length : Int) = ((rd_T58 l 0).f1.length : Int)) := by
    intro j hj
    have := h.2 j (List.mem_range.2 hj)
    unfold colOk colH at this
    simp only [Bool.and_eq_true, decide_eq_true_eq] at this
    exact this.1.2
  have h0 := hc 0 (by omega)
  refine ⟨by omega, by omega, (areV_facts h0.1).1, fun j hj => ?_⟩
  have hj' := hc j hj
  refine ⟨by omega, fun i hi => ?_⟩
  have := (areV_facts hj'.1).2 i (by omega)
  omega
/-- The table's text, row by row. -/
def hdr (l : List S58) : List (List UInt8) := l.map fun c => c.f0.data.toList
def rowW (l : List S58) (i : Nat) : List (List UInt8) := l.map fun c => Lib.itoa (rd c.f1 (i : Int))
def tx (l : List S58) : Nat → List UInt8
  | 0 => Lib.join (hdr l) [32] ++ [10]
  | i + 1 => tx l i ++ (Lib.join (rowW l i) [32] ++ [10])
theorem take_snoc {α β : Type} (f : α → β) (l : List α) (j : Nat) (hj : j < l.length) : (l.take (j + 1)).map f = (l.take j).map f ++ [f l[j]] := by
  rw [List.take_succ_eq_append_getElem hj, List.map_append]; rfl
theorem wP (i : Nat) (h : i ≤ 1000000) : wrap64 ((i : Int) + 1) = ((i + 1 : Nat) : Int) := by rw [w64 (by omega) (by omega)]; omega
theorem lsp (s : List UInt8) : (bs s ++ (⟨#[32]⟩ : ByteArray)) = bs (s ++ [32]) := bs_app s [32]
theorem lnl (s : List UInt8) : (bs s ++ (⟨#[10]⟩ : ByteArray)) = bs (s ++ [10]) := bs_app s [10]
/-- One row of the reference's loop: x < 0: the names; else the x-th values. -/
theorem st_inner (l : List S58) (x : Int) (wd : S58 → List UInt8) (s : List UInt8) (r : ByteArray) (hl : l.length ≤ 4) (hs : s.length ≤ 100000000)
    (hw : ∀ j : Nat, (hj : j < l.length) → (wd l[j]).length ≤ 1048576)
    (hn : x < 0 → ∀ j : Nat, (hj : j < l.length) → l[j].f0 = bs (wd l[j]))
    (hr : ¬ x < 0 → ∀ j : Nat, (hj : j < l.length) → x < (l[j].f1.length : Int) ∧ wd l[j] = Lib.itoa (rd l[j].f1 x) ∧ (rd l[j].f1 x).natAbs ≤ 999)
    (h : Ev (fun q => spec_FormatTable.l0 q (bs (s ++ (Lib.join (l.map wd) [32] ++ [10]))) (wrap64 (x + 1)) l) r) :
    ∀ d j : Nat, l.length - j = d → j ≤ l.length → Ev (fun q => spec_FormatTable.l1 q (bs (s ++ Lib.join ((l.take j).map wd) [32])) x (j : Int) l) r := by
  have hjl : ∀ j, j ≤ l.length → (Lib.join ((l.take j).map wd) [32]).length ≤ 4 * 1048577 := by
    intro j hj
    have h1 := join_len 1048577 ((l.take j).map wd) (fun w hw' => by
      obtain ⟨c, hc, rfl⟩ := List.mem_map.1 hw'
      obtain ⟨m, hm, rfl⟩ := List.mem_iff_getElem.1 (List.mem_of_mem_take hc)
      have := hw m hm
      omega)
    rw [List.length_map, List.length_take] at h1
    have h2 : min j l.length * 1048577 ≤ 4 * 1048577 := Nat.mul_le_mul (by omega) (by omega)
    exact Nat.le_trans h1 h2
  intro d
  induction d with
  | zero =>
    intro j hd hj
    have e : j = l.length := by omega
    have hb := hjl j hj
    subst e
    rw [List.take_length] at hb ⊢
    refine Ev.step (fun q => ?_) h
    simp only [spec_FormatTable.l1]
    rw [if_neg (by omega), bs_size, if_pos (by rw [List.length_append]; omega), lnl, List.append_assoc]
  | succ d ih =>
    intro j hd hj
    have hlt : j < l.length := by omega
    have hb := hjl j hj
    have ih' := ih (j + 1) (by omega) (by omega)
    have hwj := hw j hlt
    rw [take_snoc wd l j hlt, join_snoc] at ih'
    generalize hA : Lib.join ((l.take j).map wd) [32] = A at ih' hb
    have hnil : ((l.take j).map wd = []) ↔ j = 0 := by
      constructor
      · intro e
        have := congrArg List.length e
        rw [List.length_map, List.length_take] at this
        simp only [List.length_nil] at this
        omega
      · rintro rfl; rfl
    have hsz : (bs (s ++ A)).size = s.length + A.length := by rw [bs_size, List.length_append]
    by_cases hj0 : j = 0
    · rw [if_pos (hnil.2 hj0)] at ih'
      have hAn : A = [] := by rw [← hA, hnil.2 hj0]; rfl
      subst hAn
      by_cases hx : x < 0
      · have hf := hn hx j hlt
        apply Ev.step
        · intro q; simp only [spec_FormatTable.l1]; rfl
        rw [rdColumn hlt, hf, wP j (by omega)]
        refine ev_ifp (by omega) (ev_ifn (by omega) (ev_ifp hx (ev_ifp (by omega) (ev_ifp (by rw [hsz, bs_size, List.length_nil]; omega) ?_))))
        rw [bs_app, List.append_nil]
        exact ih'
      · obtain ⟨q1, q2, q3⟩ := hr hx j hlt
        have lx := itoa_len2 (rd l[j].f1 x)
        apply Ev.step
        · intro q; simp only [spec_FormatTable.l1]; rfl
        rw [rdColumn hlt, wP j (by omega)]
        refine ev_ifp (by omega) (ev_ifn (by omega) (ev_ifn hx (ev_ifp (by omega) (ev_ifp (by omega) (ev_ifp q1 (Ev.bind (fs _ (by omega)) (ev_ifp (by rw [hsz, bs_size, List.length_nil]; omega) ?_)))))))
        rw [bs_app, List.append_nil, ← q2]
        exact ih'
    · rw [if_neg (fun e => hj0 (hnil.1 e))] at ih'
      by_cases hx : x < 0
      · have hf := hn hx j hlt
        apply Ev.step
        · intro q; simp only [spec_FormatTable.l1]; rfl
        rw [rdColumn hlt, hf, wP j (by omega)]
        refine ev_ifp (by omega) (ev_ifp (by omega) (ev_ifp (by rw [hsz]; omega) (ev_ifp hx (ev_ifp (by omega) (ev_ifp (by rw [lsp, bs_size, bs_size, List.length_append, List.length_append, List.length_singleton]; omega) ?_)))))
        rw [lsp, bs_app, show s ++ A ++ [32] ++ wd l[j] = s ++ (A ++ 32 :: wd l[j]) by simp]
        exact ih'
      · obtain ⟨q1, q2, q3⟩ := hr hx j hlt
        have lx := itoa_len2 (rd l[j].f1 x)
        apply Ev.step
        · intro q; simp only [spec_FormatTable.l1]; rfl
        rw [rdColumn hlt, wP j (by omega)]
        refine ev_ifp (by omega) (ev_ifp (by omega) (ev_ifp (by rw [hsz]; omega) (ev_ifn hx (ev_ifp (by omega) (ev_ifp (by omega) (ev_ifp q1 (Ev.bind (fs _ (by omega)) (ev_ifp (by rw [lsp, bs_size, bs_size, List.length_append, List.length_append, List.length_singleton]; omega) ?_))))))))
        rw [lsp, bs_app, ← q2, show s ++ A ++ [32] ++ wd l[j] = s ++ (A ++ 32 :: wd l[j]) by simp]
        exact ih'
theorem joinF (xs : List ByteArray) (ws : List (List UInt8)) (he : xs.map (·.data.toList) = ws) (hl : ws.length ≤ 100000) (hj : (Lib.join ws [32]).length ≤ 100000000) : strings_Join.f xs (⟨#[32]⟩ : ByteArray) = some (bs (Lib.join ws [32])) := by
  have hlen : xs.length = ws.length := by rw [← he, List.length_map]
  have c0 : (⟨#[32]⟩ : ByteArray).data.toList = [32] := rfl
  unfold strings_Join.f
  rw [c0, he, if_pos ⟨by omega, by omega⟩]
  rfl
theorem it_names (l : List S58) (r : ByteArray) (hl : l.length ≤ 4) (h1 : 1 ≤ l.length) (hw : ∀ j : Nat, (hj : j < l.length) → l[j].f0.size ≤ 1048576)
    (h : Ev (fun q => impl_FormatTable.l1 q (bs (tx l 0)) ((rd_T58 l 0).f1.length : Int) 0 l) r) :
    ∀ d j : Nat, l.length - j = d → j ≤ l.length → Ev (fun q => impl_FormatTable.l0 q ((l.take j).map (·.f0)) l (l.length : Int) (j : Int) l) r := by
  intro d
  induction d with
  | zero =>
    intro j hd hj
    have e : j = l.length := by omega
    subst e
    have hb := join_len 1048577 (hdr l) (fun w hw' => by
      obtain ⟨c, hc, rfl⟩ := List.mem_map.1 hw'
      obtain ⟨m, hm, rfl⟩ := List.mem_iff_getElem.1 hc
      have := hw m hm
      rw [size_list2] at this
      omega)
    have hh : (hdr l).length = l.length := by unfold hdr; rw [List.length_map]
    rw [hh] at hb
    have h2 : l.length * 1048577 ≤ 4 * 1048577 := Nat.mul_le_mul hl (by omega)
    have hjn := joinF (l.map (·.f0)) (hdr l) (by unfold hdr; rw [List.map_map]; rfl) (by omega) (by omega)
    rw [List.take_length]
    apply Ev.step
    · intro q; simp only [impl_FormatTable.l0]; rfl
    refine ev_ifn (by omega) (ev_pure hjn (ev_ifp (by rw [bs_size]; omega) (ev_ifp (by omega) ?_)))
    rw [lnl]
    exact h
  | succ d ih =>
    intro j hd hj
    have hlt : j < l.length := by omega
    have ih' := ih (j + 1) (by omega) (by omega)
    rw [take_snoc (·.f0) l j hlt] at ih'
    refine Ev.step (fun q => ?_) ih'
    simp only [impl_FormatTable.l0]
    rw [if_pos (by omega), if_pos (by omega), if_pos (by omega), if_pos (by rw [List.length_map, List.length_take]; omega), rdColumn hlt, wP j (by omega)]
theorem joined_ev (xs : List Int) (hl : xs.length ≤ 4) (hx : ∀ j : Nat, (hj : j < xs.length) → xs[j].natAbs ≤ 999) : Ev (fun q => impl_joined.f q xs (⟨#[32]⟩ : ByteArray)) (bs (Lib.join (xs.map Lib.itoa) [32])) := by
  unfold impl_joined.f
  have key : ∀ d j : Nat, xs.length - j = d → j ≤ xs.length → Ev (fun q => impl_joined.l0 q (⟨#[32]⟩ : ByteArray) (((xs.take j).map Lib.itoa).map bs) xs (xs.length : Int) (j : Int)) (bs (Lib.join (xs.map Lib.itoa) [32])) := by
    intro d
    induction d with
    | zero =>
      intro j hd hj
      have e : j = xs.length := by omega
      subst e
      rw [List.take_length]
      have hb := join_len 201 (xs.map Lib.itoa) (fun w hw' => by
        obtain ⟨c, hc, rfl⟩ := List.mem_map.1 hw'
        obtain ⟨m, hm, rfl⟩ := List.mem_iff_getElem.1 hc
        have := itoa_len2 xs[m]
        have := hx m hm
        omega)
      rw [List.length_map] at hb
      have h2 : xs.length * 201 ≤ 4 * 201 := Nat.mul_le_mul hl (by omega)
      have hjn := joinF ((xs.map Lib.itoa).map bs) (xs.map Lib.itoa) (map_bs _) (by rw [List.length_map]; omega) (by omega)
      apply Ev.step
      · intro q; simp only [impl_joined.l0]; rfl
      exact ev_ifn (by omega) (ev_pure hjn (ev_some _))
    | succ d ih =>
      intro j hd hj
      have hlt : j < xs.length := by omega
      have ih' := ih (j + 1) (by omega) (by omega)
      have hxj := hx j hlt
      rw [take_snoc Lib.itoa xs j hlt, List.map_append] at ih'
      apply Ev.step
      · intro q; simp only [impl_joined.l0]; rfl
      refine ev_ifp (by omega) (ev_ifp (by omega) (ev_ifp (by omega) ?_))
      rw [rd_nat hlt, wP j (by omega)]
      refine ev_pure (fi _ (by omega)) (ev_ifp (by rw [List.length_map, List.length_map, List.length_take]; omega) ?_)
      exact ih'
  exact key xs.length 0 (by omega) (by omega)
theorem it_row (l : List S58) (i : Nat) (s : List UInt8) (n : Int) (r : ByteArray) (hl : l.length ≤ 4) (hs : s.length ≤ 100000000) (hi : i ≤ 1000)
    (hr : ∀ j : Nat, (hj : j < l.length) → (i : Int) < (l[j].f1.length : Int) ∧ (rd l[j].f1 (i : Int)).natAbs ≤ 999)
    (h : Ev (fun q => impl_FormatTable.l1 q (bs (s ++ (Lib.join (rowW l i) [32] ++ [10]))) n ((i + 1 : Nat) : Int) l) r) :
    ∀ d j : Nat, l.length - j = d → j ≤ l.length → Ev (fun q => impl_FormatTable.l2 q (bs s) (i : Int) ((l.take j).map fun c => rd c.f1 (i : Int)) n (i : Int) l (l.length : Int) (j : Int) l) r := by
  intro d
  induction d with
  | zero =>
    intro j hd hj
    have e : j = l.length := by omega
    subst e
    rw [List.take_length]
    have hjd := joined_ev (l.map fun c => rd c.f1 (i : Int)) (by rw [List.length_map]; exact hl) (fun j hj => by
      rw [List.getElem_map]
      exact (hr j (by rw [List.length_map] at hj; exact hj)).2)
    have hrw : (l.map fun c => rd c.f1 (i : Int)).map Lib.itoa = rowW l i := by unfold rowW; rw [List.map_map]; rfl
    rw [hrw] at hjd
    have hb := join_len 201 (rowW l i) (fun w hw' => by
      obtain ⟨c, hc, rfl⟩ := List.mem_map.1 hw'
      obtain ⟨m, hm, rfl⟩ := List.mem_iff_getElem.1 hc
      have := itoa_len2 (rd l[m].f1 (i : Int))
      have := (hr m hm).2
      omega)
    have hh : (rowW l i).length = l.length := by unfold rowW; rw [List.length_map]
    rw [hh] at hb
    have h2 : l.length * 201 ≤ 4 * 201 := Nat.mul_le_mul hl (by omega)
    apply Ev.step
    · intro q; simp only [impl_FormatTable.l2]; rfl
    rw [wP i (by omega)]
    refine ev_ifn (by omega) (Ev.bind hjd (ev_ifp (by rw [bs_size]; omega) ?_))
    rw [lnl, bs_size, bs_size, bs_app]
    exact ev_ifp (by rw [List.length_append, List.length_singleton]; omega) h
  | succ d ih =>
    intro j hd hj
    have hlt : j < l.length := by omega
    have ih' := ih (j + 1) (by omega) (by omega)
    have hq := (hr j hlt).1
    rw [take_snoc (fun c => rd c.f1 (i : Int)) l j hlt] at ih'
    refine Ev.step (fun q => ?_) ih'
    simp only [impl_FormatTable.l2]
    rw [if_pos (by omega), if_pos (by omega), if_pos (by omega), rdColumn hlt, if_pos (by omega), if_pos hq, if_pos (by rw [List.length_map, List.length_take]; omega), wP j (by omega)]
def fmtL (l : List S58) : List UInt8 := if isT l = true then tx l (rd_T58 l 0).f1.length else []
theorem table_text (l : List S58) (hl : l.length ≤ 1048577) (hz : ∀ z ∈ l, z.f0.size ≤ 1048576 ∧ z.f1.length ≤ 1048576) :
    Ev (fun q => spec_FormatTable.f q l) (bs (fmtL l)) ∧ Ev (fun q => impl_FormatTable.f q l) (bs (fmtL l)) := by
  have s1 := specIsTable_ev l hl hz
  have s2 := implIsTable_ev l hl hz
  unfold spec_FormatTable.f impl_FormatTable.f fmtL
  cases hc : isT l with
  | false =>
    rw [hc] at s1 s2
    rw [if_neg (by simp)]
    exact ⟨Ev.bind s1 (ev_ifn (by simp) (ev_some _)), Ev.bind s2 (ev_ifn (by simp) (ev_some _))⟩
  | true =>
    rw [hc] at s1 s2
    obtain ⟨b1, b2, b3, b4⟩ := tab_bounds hc
    have hrc : Ev (fun q => spec_RowCount.f q l) ((rd_T58 l 0).f1.length : Int) := by
      unfold spec_RowCount.f
      exact Ev.bind s1 (ev_ifp rfl (ev_ifp (by omega) (ev_some _)))
    rw [if_pos rfl]
    generalize hN : (rd_T58 l 0).f1.length = N at b3 b4 hrc ⊢
    have hf0 : ∀ j : Nat, (hj : j < l.length) → l[j].f0.size ≤ 1048576 := fun j hj => (hz _ (List.getElem_mem hj)).1
    have hlen : ∀ j : Nat, (hj : j < l.length) → l[j].f1.length = N := fun j hj => by have := (b4 j hj).1; rw [rdColumn hj] at this; exact this
    have hval : ∀ i : Nat, i < N → ∀ j : Nat, (hj : j < l.length) → (rd l[j].f1 (i : Int)).natAbs ≤ 999 := fun i hi j hj => by have := (b4 j hj).2 i hi; rw [rdColumn hj] at this; exact this
    have htx : ∀ i : Nat, i ≤ N → (tx l i).length ≤ 4194309 + 900 * i := by
      intro i
      induction i with
      | zero =>
        intro _
        have hb := join_len 1048577 (hdr l) (fun w hw' => by
          obtain ⟨c, hc, rfl⟩ := List.mem_map.1 hw'
          obtain ⟨m, hm, rfl⟩ := List.mem_iff_getElem.1 hc
          have := hf0 m hm
          rw [size_list2] at this
          omega)
        have hh : (hdr l).length = l.length := by unfold hdr; rw [List.length_map]
        rw [hh] at hb
        have h2 : l.length * 1048577 ≤ 4 * 1048577 := Nat.mul_le_mul b2 (by omega)
        unfold tx
        rw [List.length_append, List.length_singleton]; omega
      | succ i ih =>
        intro hi
        have := ih (by omega)
        have hb := join_len 201 (rowW l i) (fun w hw' => by
          obtain ⟨c, hc, rfl⟩ := List.mem_map.1 hw'
          obtain ⟨m, hm, rfl⟩ := List.mem_iff_getElem.1 hc
          have := itoa_len2 (rd l[m].f1 (i : Int))
          have := hval i (by omega) m hm
          omega)
        have hh : (rowW l i).length = l.length := by unfold rowW; rw [List.length_map]
        rw [hh] at hb
        have h2 : l.length * 201 ≤ 4 * 201 := Nat.mul_le_mul b2 (by omega)
        unfold tx
        rw [List.length_append, List.length_append, List.length_singleton]; omega
    have hrows : ∀ d i : Nat, N - i = d → i ≤ N → Ev (fun q => spec_FormatTable.l0 q (bs (tx l i)) (i : Int) l) (bs (tx l N)) ∧ Ev (fun q => impl_FormatTable.l1 q (bs (tx l i)) (N : Int) (i : Int) l) (bs (tx l N)) := by
      intro d
      induction d with
      | zero =>
        intro i hd hi
        have e : i = N := by omega
        subst e
        constructor
        · apply Ev.step
          · intro q; simp only [spec_FormatTable.l0]; rfl
          exact Ev.bind hrc (ev_ifn (by omega) (ev_some _))
        · refine ev_const (fun q => ?_)
          simp only [impl_FormatTable.l1]
          rw [if_neg (by omega)]
      | succ d ih =>
        intro i hd hi
        have hlt : i < N := by omega
        obtain ⟨i1, i2⟩ := ih (i + 1) (by omega) (by omega)
        have ht := htx i hi
        constructor
        · have hin := st_inner l (i : Int) (fun c => Lib.itoa (rd c.f1 (i : Int))) (tx l i) (bs (tx l N)) b2 (by omega)
            (fun j hj => by have := itoa_len2 (rd l[j].f1 (i : Int)); have := hval i hlt j hj; omega) (fun hx => by omega)
            (fun _ j hj => ⟨by have := hlen j hj; omega, rfl, hval i hlt j hj⟩) (by rw [wP i (by omega)]; exact i1) l.length 0 (by omega) (by omega)
          rw [List.take_zero, List.map_nil, Lib.join_nil, List.append_nil] at hin
          apply Ev.step
          · intro q; simp only [spec_FormatTable.l0]; rfl
          exact Ev.bind hrc (ev_ifp (by omega) hin)
        · have hin := it_row l i (tx l i) (N : Int) (bs (tx l N)) b2 (by omega) (by omega) (fun j hj => ⟨by have := hlen j hj; omega, hval i hlt j hj⟩) i2 l.length 0 (by omega) (by omega)
          refine Ev.step (fun q => ?_) hin
          simp only [impl_FormatTable.l1]
          rw [if_pos (by omega)]
          rfl
    obtain ⟨g1, g2⟩ := hrows N 0 (by omega) (by omega)
    refine ⟨Ev.bind s1 (ev_ifp rfl ?_), Ev.bind s2 (ev_ifp rfl ?_)⟩
    · have hin := st_inner l (-1) (fun c => c.f0.data.toList) [] (bs (tx l N)) b2 (by simp)
        (fun j hj => by have := hf0 j hj; rw [size_list2] at this; exact this) (fun _ j hj => (ba_bs _).symm) (fun hx => by omega) (by rw [show wrap64 (-1 + 1) = ((0 : Nat) : Int) from w64 (by omega) (by omega)]; exact g1) l.length 0 (by omega) (by omega)
      rw [List.take_zero, List.map_nil, Lib.join_nil, List.append_nil] at hin
      apply Ev.step
      · intro q; simp only [spec_FormatTable.l0]; rfl
      exact Ev.bind hrc (ev_ifp (by omega) hin)
    · refine it_names l (bs (tx l N)) b2 b1 hf0 ?_ l.length 0 (by omega) (by omega)
      rw [hN]
      exact g2

def runS : List (List UInt8) → List S58 → List S58
  | [], T => T
  | ln :: r, T => runS r (pushR num2 (cuts 32 ln) T)
def runI : List (List UInt8) → List S58 → Option (List S58)
  | [], T => some T
  | ln :: r, T => if (cuts 32 ln).length = T.length then runI r (pushR pi1 (cuts 32 ln) T) else none
def finS (s : List UInt8) (T : List S58) : List S58 × Bool := if isT T = true ∧ fmtL T = s then (T, true) else ([], false)
def finI (s : List UInt8) (T : List S58) : List S58 × Bool := if s = [] then ([], false) else if fmtL T = s then (T, true) else ([], false)
def resI (s : List UInt8) : Option (List S58) → List S58 × Bool
  | none => ([], false)
  | some T => finI s T
theorem str_eq (l : List UInt8) (s : ByteArray) : ((bs l).toList = s.toList) ↔ (l = s.data.toList) := by rw [Lib.toList_data, Lib.toList_data, bs_list]
theorem rdB_i (W : List (List UInt8)) (i : Nat) (h : i < W.length) : rdOf ByteArray.empty (W.map bs) (i : Int) = bs W[i] := by
  unfold rdOf
  rw [Int.toNat_natCast, List.getD_eq_getElem?_getD, List.getElem?_map, List.getElem?_eq_getElem h]
  rfl
theorem dropLast_cons2 {α : Type} (l : List α) (i : Nat) (h : i + 1 < l.length) : (l.drop i).dropLast = l[i] :: (l.drop (i + 1)).dropLast := by
  rw [List.drop_eq_getElem_cons (show i < l.length by omega), List.dropLast_cons_of_ne_nil (by intro e; have := congrArg List.length e; simp at this; omega)]
theorem im_l1 (s : ByteArray) (M : List (List UInt8)) (C : Nat) (hL : M.length ≤ 1048576) (hw : ∀ w ∈ M, w.length ≤ 1048576) (hn : C ≤ 1048577) : ∀ (d i : Nat) (T : List S58), M.length - i = d → T.length = C → boundT i T → i ≤ M.length →
    Ev (fun k => impl_ParseTable.l1 k s (M.map bs) (M.length : Int) (i : Int) T) (resI s.data.toList (runI (M.drop i) T)) := by
  intro d
  induction d with
  | zero =>
    intro i T hd hT hB hle
    rw [List.drop_eq_nil_of_le (by omega), runI]
    have hz : ∀ z ∈ T, z.f0.size ≤ 1048576 ∧ z.f1.length ≤ 1048576 := fun z hz => by have := hB z hz; omega
    have e2 := (table_text T (by omega) hz).2
    apply Ev.step
    · intro k; simp only [impl_ParseTable.l1]; rfl
    refine ev_ifn (by omega) ?_
    show Ev _ (finI s.data.toList T)
    unfold finI
    by_cases c0 : s.data.toList = []
    · rw [if_pos c0]
      exact ev_ifp (by rw [Lib.toList_data]; exact c0) (ev_some _)
    · rw [if_neg c0]
      refine ev_ifn (by rw [Lib.toList_data]; exact c0) (Ev.bind e2 ?_)
      by_cases c2 : fmtL T = s.data.toList
      · rw [if_pos c2]
        exact ev_ifp ((str_eq _ _).2 c2) (ev_some _)
      · rw [if_neg c2]
        exact ev_ifn (fun h => c2 ((str_eq _ _).1 h)) (ev_some _)
  | succ d ih =>
    intro i T hd hT hB hle
    have hi : i < M.length := by omega
    have hlen := hw _ (List.getElem_mem hi)
    rw [List.drop_eq_getElem_cons hi, runI]
    have hwi : wrap64 ((i : Int) + 1) = ((i + 1 : Nat) : Int) := by rw [w64 (by omega) (by omega)]; omega
    apply Ev.step
    · intro k; simp only [impl_ParseTable.l1]; rfl
    refine ev_ifp (by omega) (ev_ifp (by omega) (ev_ifp (by rw [List.length_map]; omega) ?_))
    rw [rdB_i _ _ hi]
    have hcut := split_ev (bs M[i]) 32 (by rw [bs_size]; omega)
    rw [bs_list] at hcut
    refine ev_pure hcut ?_
    by_cases c : (cuts 32 M[i]).length = T.length
    · rw [if_pos c]
      have h := ih (i + 1) (pushR pi1 (cuts 32 M[i]) T) (by omega) (by rw [pushR_len]; exact hT) (pushR_bound _ _ _ _ hB) (by omega)
      refine ev_ifp (by rw [List.length_map]; omega) ?_
      refine im_l2 s (M.map bs) (M.length : Int) (i : Int) _ (cuts 32 M[i]) [] [] T _ (by simp) rfl c (fun w hw' => ?_) (fun z hz => by have := hB z hz; omega) (by simp; omega) ?_
      · have := cutA_part 32 _ _ _ hw'; simp at this; omega
      · rw [hwi]; exact h
    · rw [if_neg c]
      exact ev_ifn (by rw [List.length_map]; omega) (ev_some _)

def mk0 (w : List UInt8) : S58 := ⟨bs w, []⟩
def parS (l : List UInt8) : List S58 × Bool := finS l (runS ((cuts 10 l).drop 1).dropLast ((cuts 32 ((cuts 10 l).headD [])).map mk0))
def parI (l : List UInt8) : List S58 × Bool := if 66 < (cuts 10 l).length then ([], false) else resI l (runI ((cuts 10 l).drop 1).dropLast ((cuts 32 ((cuts 10 l).headD [])).map mk0))
theorem take_map0 (W : List (List UInt8)) (i : Nat) (h : i < W.length) : (W.take i).map mk0 ++ [(⟨bs W[i], []⟩ : S58)] = (W.take (i + 1)).map mk0 := by
  rw [List.take_succ_eq_append_getElem h, List.map_append]
  rfl
theorem boundT0 (W : List (List UInt8)) (h : ∀ w ∈ W, w.length ≤ 1048576) : boundT 0 (W.map mk0) := fun z hz => by
  obtain ⟨w, hw, rfl⟩ := List.mem_map.1 hz
  exact ⟨by show (bs w).size ≤ _; rw [bs_size]; exact h w hw, by show ([] : List Int).length ≤ 0; simp⟩
theorem lines_cons (l : List UInt8) : ∃ a t, cuts 10 l = a :: t := by
  cases h : cuts 10 l with
  | nil => exact absurd h (cutA_ne 10 l [])
  | cons a t => exact ⟨a, t, rfl⟩
theorem mid_eq (a : List UInt8) (t : List (List UInt8)) (ht : t.length ≤ 1048577) : (((a :: t).map bs).take (mx 1 (wrap64 ((((a :: t).map bs).length : Int) - 1))).toNat).drop 1 = ((a :: t).drop 1).dropLast.map bs ∧ 1 ≤ mx 1 (wrap64 ((((a :: t).map bs).length : Int) - 1)) ∧ mx 1 (wrap64 ((((a :: t).map bs).length : Int) - 1)) ≤ (((a :: t).map bs).length : Int) := by
  rw [w64 (by rw [List.length_map, List.length_cons]; omega) (by rw [List.length_map, List.length_cons]; omega)]
  unfold mx
  cases t with
  | nil => exact ⟨rfl, by simp, by simp⟩
  | cons b t =>
    simp only [List.length_map, List.length_cons, List.drop_one, List.tail_cons, List.map_cons] at *
    split
    · refine ⟨?_, by omega, by omega⟩
      rw [show ((((t.length + 1 + 1 : Nat) : Int) - 1)).toNat = t.length + 1 by omega, List.take_succ_cons, List.tail_cons, List.dropLast_eq_take, List.map_take]
      simp
    · refine ⟨?_, by omega, by omega⟩
      have : t = [] := List.length_eq_zero_iff.1 (by omega)
      subst this
      rfl
theorem parI_ev (s : ByteArray) (hs : s.size ≤ 1048576) : Ev (fun k => impl_ParseTable.f k s) (parI s.data.toList) := by
  have hsl := size_list s
  unfold impl_ParseTable.f parI
  have hcl := cutA_len 10 s.data.toList []
  have hcp := cutA_part 10 s.data.toList []
  obtain ⟨a, t, he⟩ := lines_cons s.data.toList
  have he' : cutA 10 [] s.data.toList = a :: t := he
  rw [he'] at hcl hcp
  refine ev_pure (split_ev s 10 hs) ?_
  rw [he]
  by_cases c : 66 < (a :: t).length
  · exact ev_eq (ev_ifp (by rw [List.length_map]; omega) (ev_some _)) (if_pos c).symm
  refine ev_eq (b := _) (ev_ifn (by rw [List.length_map]; omega) ?_) (if_neg c).symm
  refine ev_ifp (by rw [List.length_map, List.length_cons]; omega) ?_
  have ha := hcp a (by simp)
  simp only [List.length_nil] at ha
  rw [show rdOf ByteArray.empty ((a :: t).map bs) 0 = bs a from rfl]
  have hcut := split_ev (bs a) 32 (by rw [bs_size]; omega)
  rw [bs_list] at hcut
  refine ev_pure hcut ?_
  show Ev _ (resI s.data.toList (runI ((a :: t).drop 1).dropLast ((cuts 32 a).map mk0)))
  have hW := cutA_len 32 a []
  have hWp := cutA_part 32 a []
  generalize hWe : cuts 32 a = W
  have hWe' : cutA 32 [] a = W := hWe
  rw [hWe'] at hW hWp
  obtain ⟨m1, m2, m3⟩ := mid_eq a t (by simp at hcl; omega)
  have hM : ((a :: t).drop 1).dropLast.length ≤ 1048576 := by rw [List.length_dropLast, List.length_drop]; omega
  have hlast : Ev (fun k => impl_ParseTable.l1 k s (((a :: t).drop 1).dropLast.map bs) ((((a :: t).drop 1).dropLast.length : Nat) : Int) ((0 : Nat) : Int) (W.map mk0)) (resI s.data.toList (runI ((((a :: t).drop 1).dropLast).drop 0) (W.map mk0))) :=
    im_l1 s ((a :: t).drop 1).dropLast W.length hM (fun w hw => by
      have := hcp w (List.mem_of_mem_drop ((List.dropLast_sublist _).subset hw)); simp at this; omega) (by omega) _ 0 (W.map mk0) rfl (by rw [List.length_map]) (boundT0 W (fun w hw => by have := hWp w hw; simp at this; omega)) (by omega)
  rw [List.drop_zero] at hlast
  have h := down_ev W.length (fun k i => impl_ParseTable.l0 k s ((a :: t).map bs) (W.map bs) ((W.map bs).length : Int) (i : Int) ((W.take i).map mk0)) (resI s.data.toList (runI ((a :: t).drop 1).dropLast (W.map mk0))) ?_ ?_
  · simpa using h
  · intro i hi ih
    refine Ev.step (fun k => ?_) ih
    simp only [impl_ParseTable.l0]
    rw [if_pos (by rw [List.length_map]; omega), if_pos (by omega), if_pos (by rw [List.length_map]; omega), if_pos (by rw [List.length_map, List.length_take]; omega), rdB_i _ _ hi, take_map0 W i hi, wS hi (by omega)]
  · rw [List.take_length]
    apply Ev.step
    · intro k; simp only [impl_ParseTable.l0]; rfl
    refine ev_ifn (by rw [List.length_map]; omega) (ev_ifp m2 (ev_ifp m3 (ev_pure rfl ?_)))
    rw [m1, List.length_map]
    exact hlast

theorem cuts_join (c : UInt8) : ∀ (ws : List (List UInt8)) (p : List UInt8), ws ≠ [] → (∀ w ∈ ws, ∀ x ∈ w, x ≠ c) → cuts c (Lib.join ws [c]) = ws
  | [], _, h, _ => absurd rfl h
  | [w], _, _, h => by
    rw [Lib.join_one]
    unfold cuts
    rw [cutA_end c w [] (h w (by simp))]
    rfl
  | w :: v :: r, p, _, h => by
    have ih := cuts_join c (v :: r) p (by simp) (fun x hx => h x (by simp [hx]))
    rw [Lib.join_cons] at ih
    rw [Lib.join_cons]
    have e : w ++ Lib.joinTail [c] (v :: r) = w ++ c :: (v ++ Lib.joinTail [c] r) := by simp [Lib.joinTail]
    rw [e]
    unfold cuts at ih ⊢
    rw [cutA_app c w _ [] (h w (by simp)), ih]
    rfl
theorem cuts_tx (l : List S58) (hn : ∀ x ∈ Lib.join (hdr l) [32], x ≠ 10) (N : Nat) (hv : ∀ i, i < N → ∀ x ∈ Lib.join (rowW l i) [32], x ≠ 10) : ∀ i, i ≤ N → ∀ r, cuts 10 (tx l i ++ r) = (Lib.join (hdr l) [32] :: (List.range i).map (fun j => Lib.join (rowW l j) [32])) ++ cuts 10 r := by
  intro i
  induction i with
  | zero =>
    intro _ r
    unfold tx
    rw [List.append_assoc]
    unfold cuts
    rw [show Lib.join (hdr l) [32] ++ ([10] ++ r) = Lib.join (hdr l) [32] ++ 10 :: r from rfl, cutA_app 10 _ _ [] hn]
    rfl
  | succ i ih =>
    intro hi r
    have h := ih (by omega) (Lib.join (rowW l i) [32] ++ 10 :: r)
    unfold tx
    rw [show tx l i ++ (Lib.join (rowW l i) [32] ++ [10]) ++ r = tx l i ++ (Lib.join (rowW l i) [32] ++ 10 :: r) by simp, h]
    have e : cuts 10 (Lib.join (rowW l i) [32] ++ 10 :: r) = Lib.join (rowW l i) [32] :: cuts 10 r := by
      unfold cuts
      rw [cutA_app 10 _ _ [] (hv i (by omega))]
      rfl
    rw [e, List.range_succ, List.map_append]
    simp
theorem join_no (c d : UInt8) (hcd : d ≠ c) : ∀ ws : List (List UInt8), (∀ w ∈ ws, ∀ x ∈ w, x ≠ c) → ∀ x ∈ Lib.join ws [d], x ≠ c
  | [], _, x, hx => by rw [Lib.join_nil] at hx; cases hx
  | w :: r, h, x, hx => by
    rw [Lib.join_cons] at hx
    rcases List.mem_append.1 hx with hx | hx
    · exact h w (by simp) x hx
    · unfold Lib.joinTail at hx
      obtain ⟨y, hy, hxy⟩ := List.mem_flatten.1 hx
      obtain ⟨z, hz, rfl⟩ := List.mem_map.1 hy
      rcases List.mem_append.1 hxy with q | q
      · rw [List.mem_singleton] at q; subst q; exact hcd
      · exact h z (by simp [hz]) x q
theorem itoa_no (c : UInt8) (hc : c.toNat < 45) (n : Int) : ∀ x ∈ Lib.itoa n, x ≠ c := by
  intro x hx e
  subst e
  by_cases h0 : n = 0
  · subst h0
    rw [show Lib.itoa 0 = [48] by decide +kernel, List.mem_singleton] at hx
    subst hx
    exact absurd hc (by decide)
  · by_cases hn : n < 0
    · rw [itoa_neg hn] at hx
      rcases List.mem_cons.1 hx with e | e
      · subst e; exact absurd hc (by decide)
      · have := digs_all _ _ e; omega
    · rw [itoa_pos (by omega)] at hx
      have := digs_all _ _ hx; omega
theorem name_no (c : UInt8) (hc : c.toNat < 97) (s : ByteArray) (h : isN s = true) : ∀ x ∈ s.data.toList, x ≠ c := by
  intro x hx e
  subst e
  obtain ⟨i, hi, he⟩ := List.mem_iff_getElem.1 hx
  unfold isN at h
  simp only [Bool.and_eq_true, List.all_eq_true] at h
  have h1 := h.1 i (List.mem_range.2 (by rw [size_list]; exact hi))
  unfold nmI at h1
  simp only [Bool.and_eq_true, decide_eq_true_eq] at h1
  rw [bt_list s i hi, he] at h1
  omega
theorem tab_names {l : List S58} (h : isT l = true) : ∀ j : Nat, (hj : j < l.length) → isN l[j].f0 = true := by
  intro j hj
  unfold isT at h
  simp only [Bool.and_eq_true, List.all_eq_true] at h
  have := h.2 j (List.mem_range.2 hj)
  unfold colOk colH at this
  simp only [Bool.and_eq_true] at this
  have h2 := this.1.1
  rw [rdColumn hj] at h2
  exact h2
theorem push_row (f : List UInt8 → Int) (i : Nat) : ∀ T : List S58, (∀ z ∈ T, i < z.f1.length ∧ f (Lib.itoa (rd z.f1 (i : Int))) = rd z.f1 (i : Int)) → pushR f (rowW T i) (T.map fun z => ⟨z.f0, z.f1.take i⟩) = T.map fun z => ⟨z.f0, z.f1.take (i + 1)⟩
  | [], _ => rfl
  | c :: cs, h => by
    obtain ⟨hc1, hc2⟩ := h c (by simp)
    have ih := push_row f i cs (fun z hz => h z (by simp [hz]))
    show (⟨c.f0, c.f1.take i ++ [f (Lib.itoa (rd c.f1 (i : Int)))]⟩ : S58) :: pushR f (rowW cs i) (cs.map fun z => ⟨z.f0, z.f1.take i⟩) = _
    rw [ih, hc2, List.map_cons, List.take_succ_eq_append_getElem hc1]
    have : rd c.f1 (i : Int) = c.f1[i] := by
      unfold rd
      rw [Int.toNat_natCast, List.getD_eq_getElem?_getD, List.getElem?_eq_getElem hc1]
      rfl
    rw [this]
theorem runs_rows (T : List S58) (N : Nat) (hne : T ≠ []) (hl : ∀ z ∈ T, z.f1.length = N) (hv : ∀ i, i < N → ∀ z ∈ T, (rd z.f1 (i : Int)).natAbs ≤ 999) : ∀ d i, i + d = N →
    runS ((List.range' i d).map fun j => Lib.join (rowW T j) [32]) (T.map fun z => ⟨z.f0, z.f1.take i⟩) = T ∧ runI ((List.range' i d).map fun j => Lib.join (rowW T j) [32]) (T.map fun z => ⟨z.f0, z.f1.take i⟩) = some T := by
  intro d
  induction d with
  | zero =>
    intro i hi
    have e : (T.map fun z => (⟨z.f0, z.f1.take i⟩ : S58)) = T := by
      conv => rhs; rw [← List.map_id T]
      refine List.map_congr_left fun z hz => ?_
      rw [List.take_of_length_le (by rw [hl z hz]; omega)]
      rfl
    rw [e]
    exact ⟨rfl, rfl⟩
  | succ d ih =>
    intro i hi
    obtain ⟨i1, i2⟩ := ih (i + 1) (by omega)
    have hc : cuts 32 (Lib.join (rowW T i) [32]) = rowW T i := cuts_join 32 _ [] (by intro e; exact hne (List.map_eq_nil_iff.1 e)) (fun w hw => by
      obtain ⟨z, hz, rfl⟩ := List.mem_map.1 hw
      exact itoa_no 32 (by decide) _)
    have hz : ∀ z ∈ T, i < z.f1.length ∧ specPI (Lib.itoa (rd z.f1 (i : Int))) = (rd z.f1 (i : Int), true) := fun z hz => ⟨by rw [hl z hz]; omega, specPI_itoa (by have := hv i (by omega) z hz; omega) (by have := hv i (by omega) z hz; omega)⟩
    rw [List.range'_succ, List.map_cons, runS, runI, hc, push_row num2 i T (fun z h => ⟨(hz z h).1, by unfold num2; rw [(hz z h).2]; rfl⟩), push_row pi1 i T (fun z h => ⟨(hz z h).1, by unfold pi1; rw [(hz z h).2]⟩), if_pos (by unfold rowW; rw [List.length_map, List.length_map])]
    exact ⟨i1, i2⟩
theorem trip (T : List S58) (l : List UInt8) (hT : isT T = true) (hl : fmtL T = l) :
    runS ((cuts 10 l).drop 1).dropLast ((cuts 32 ((cuts 10 l).headD [])).map mk0) = T ∧ runI ((cuts 10 l).drop 1).dropLast ((cuts 32 ((cuts 10 l).headD [])).map mk0) = some T ∧ (cuts 10 l).length ≤ 66 ∧ l ≠ [] := by
  obtain ⟨b1, b2, b3, b4⟩ := tab_bounds hT
  have hN := tab_names hT
  unfold fmtL at hl
  rw [if_pos hT] at hl
  generalize hNe : (rd_T58 T 0).f1.length = N at *
  have hne : T ≠ [] := by intro e; subst e; simp at b1
  have hlen : ∀ z ∈ T, z.f1.length = N := fun z hz => by
    obtain ⟨j, hj, rfl⟩ := List.mem_iff_getElem.1 hz
    have := (b4 j hj).1
    rw [rdColumn hj] at this
    exact this
  have hv : ∀ i, i < N → ∀ z ∈ T, (rd z.f1 (i : Int)).natAbs ≤ 999 := fun i hi z hz => by
    obtain ⟨j, hj, rfl⟩ := List.mem_iff_getElem.1 hz
    have := (b4 j hj).2 i hi
    rw [rdColumn hj] at this
    exact this
  have hnm : ∀ c : UInt8, c.toNat < 97 → ∀ w ∈ hdr T, ∀ x ∈ w, x ≠ c := fun c hc w hw => by
    obtain ⟨z, hz, rfl⟩ := List.mem_map.1 hw
    obtain ⟨j, hj, rfl⟩ := List.mem_iff_getElem.1 hz
    exact name_no c hc _ (hN j hj)
  have hcut := cuts_tx T (join_no 10 32 (by decide) (hdr T) (hnm 10 (by decide))) N (fun i _ => join_no 10 32 (by decide) (rowW T i) (fun w hw => by
    obtain ⟨z, hz, rfl⟩ := List.mem_map.1 hw
    exact itoa_no 10 (by decide) _)) N (Nat.le_refl _) []
  rw [List.append_nil, hl, show cuts 10 [] = [[]] from rfl] at hcut
  have hh : cuts 32 (Lib.join (hdr T) [32]) = hdr T := cuts_join 32 _ [] (by intro e; exact hne (List.map_eq_nil_iff.1 e)) (hnm 32 (by decide))
  have h0 : (hdr T).map mk0 = T.map fun z => (⟨z.f0, z.f1.take 0⟩ : S58) := by
    unfold hdr
    rw [List.map_map]
    refine List.map_congr_left fun z hz => ?_
    show (⟨bs z.f0.data.toList, []⟩ : S58) = _
    rw [ba_bs]
    rfl
  obtain ⟨r1, r2⟩ := runs_rows T N hne hlen hv N 0 (by omega)
  have hmid : ((cuts 10 l).drop 1).dropLast = (List.range' 0 N).map fun j => Lib.join (rowW T j) [32] := by
    rw [hcut, List.cons_append, List.drop_one, List.tail_cons, List.dropLast_concat, List.range_eq_range']
  have hhd : (cuts 10 l).headD [] = Lib.join (hdr T) [32] := by rw [hcut]; rfl
  rw [hmid, hhd, hh, h0]
  refine ⟨r1, r2, ?_, ?_⟩
  · rw [hcut]
    simp
    omega
  · intro e
    subst e
    have := congrArg List.length hcut
    simp [cuts, cutA] at this
theorem par_same (l : List UInt8) : parI l = parS l := by
  unfold parI parS
  generalize hS : runS ((cuts 10 l).drop 1).dropLast ((cuts 32 ((cuts 10 l).headD [])).map mk0) = Ts
  generalize hI : runI ((cuts 10 l).drop 1).dropLast ((cuts 32 ((cuts 10 l).headD [])).map mk0) = Ti
  unfold finS
  by_cases c : isT Ts = true ∧ fmtL Ts = l
  · obtain ⟨t1, t2, t3, t4⟩ := trip Ts l c.1 c.2
    rw [hI] at t2
    subst t2
    rw [if_neg (by omega), if_pos c]
    show finI l Ts = _
    unfold finI
    rw [if_neg t4, if_pos c.2]
  · rw [if_neg c]
    split
    · rfl
    · cases Ti with
      | none => rfl
      | some T =>
        show finI l T = _
        unfold finI
        split
        · rfl
        · rename_i hne
          by_cases e : fmtL T = l
          · exfalso
            by_cases hT : isT T = true
            · obtain ⟨t1, _⟩ := trip T l hT e
              rw [hS] at t1
              subst t1
              exact c ⟨hT, e⟩
            · unfold fmtL at e
              rw [if_neg hT] at e
              exact hne e.symm
          · rw [if_neg e]
/-- What both give is a table within bounds. -/
theorem par_ok (l : List UInt8) : (parS l).1.length ≤ 4 ∧ ∀ z ∈ (parS l).1, z.f1.length ≤ 64 := by
  unfold parS finS
  split
  · rename_i h
    obtain ⟨b1, b2, b3, b4⟩ := tab_bounds h.1
    refine ⟨b2, fun z hz => ?_⟩
    obtain ⟨j, hj, rfl⟩ := List.mem_iff_getElem.1 hz
    have := (b4 j hj).1
    rw [rdColumn hj] at this
    omega
  · exact ⟨by simp, by simp⟩

theorem fmtL_len (T : List S58) : (fmtL T).length ≤ 100000 := by
  unfold fmtL
  by_cases hT : isT T = true
  · rw [if_pos hT]
    obtain ⟨b1, b2, b3, b4⟩ := tab_bounds hT
    have hN := tab_names hT
    generalize hNe : (rd_T58 T 0).f1.length = N at *
    have hh := join_len 9 (hdr T) (fun w hw => by
      obtain ⟨z, hz, rfl⟩ := List.mem_map.1 hw
      obtain ⟨j, hj, rfl⟩ := List.mem_iff_getElem.1 hz
      have := hN j hj
      unfold isN at this
      simp only [Bool.and_eq_true, decide_eq_true_eq] at this
      rw [← size_list2]
      omega)
    have hhl : (hdr T).length = T.length := List.length_map ..
    have key : ∀ i, i ≤ N → (tx T i).length ≤ 100 + i * 1000 := by
      intro i
      induction i with
      | zero =>
        intro _
        unfold tx
        rw [List.length_append, List.length_singleton]
        omega
      | succ i ih =>
        intro hi
        have h1 := ih (by omega)
        have hr := join_len 200 (rowW T i) (fun w hw => by
          obtain ⟨z, hz, rfl⟩ := List.mem_map.1 hw
          obtain ⟨j, hj, rfl⟩ := List.mem_iff_getElem.1 hz
          have := (b4 j hj).2 i (by omega)
          rw [rdColumn hj] at this
          have := itoa_len2 (rd T[j].f1 (i : Int))
          omega)
        have hrl : (rowW T i).length = T.length := List.length_map ..
        unfold tx
        rw [List.length_append, List.length_append, List.length_singleton]
        omega
    have := key N (Nat.le_refl _)
    omega
  · rw [if_neg hT]
    simp
theorem parI_fmt (T : List S58) : parI (fmtL T) = if isT T = true then (T, true) else ([], false) := by
  by_cases hT : isT T = true
  · obtain ⟨_, t2, t3, t4⟩ := trip T (fmtL T) hT rfl
    rw [if_pos hT]
    unfold parI
    rw [if_neg (by omega), t2]
    show finI (fmtL T) T = _
    unfold finI
    rw [if_neg t4, if_pos rfl]
  · rw [if_neg hT]
    have : fmtL T = [] := by unfold fmtL; rw [if_neg hT]
    rw [this]
    rfl

theorem itoa_len (n : Int) : (Lib.itoa n).length ≤ 3 + n.natAbs / 10 := by
  by_cases hz : n = 0
  · subst hz; decide +kernel
  · have hd : digs n.natAbs = Lib.decDigits n.natAbs := if_neg (by omega)
    have := digs_len n.natAbs
    unfold Lib.itoa
    by_cases hn : n < 0
    · rw [if_pos hn, List.length_cons, ← hd]; omega
    · rw [if_neg hn, show n.toNat = n.natAbs by omega, ← hd]; omega
theorem range_spec (a b : Int) : spec_IsRange.f a b = some (decide (-1000 ≤ a ∧ a ≤ b ∧ b ≤ 1000)) := by
  unfold spec_IsRange.f spec_l1In.f
  by_cases h0 : -1000 ≤ a
  · by_cases h1 : a ≤ 1000
    · by_cases h2 : a ≤ b
      · rw [if_pos h0, Option.bind_some, decide_eq_true h1, if_pos rfl, if_pos h2, Option.bind_some]; congr 1; exact decide_eq_decide.2 ⟨fun _ => by omega, fun _ => by omega⟩
      · rw [if_pos h0, Option.bind_some, decide_eq_true h1, if_pos rfl, if_neg (by omega), Option.bind_some]; congr 1; simp; omega
    · rw [if_pos h0, Option.bind_some, decide_eq_false h1, if_neg (by simp)]; congr 1; simp; omega
  · rw [if_neg (by omega), Option.bind_some, if_neg (by simp)]; congr 1; simp; omega
theorem range_impl (a b : Int) : impl_IsRange.f a b = some (decide (-1000 ≤ a ∧ a ≤ b ∧ b ≤ 1000)) := by
  unfold impl_IsRange.f
  by_cases h0 : -1000 ≤ a
  · by_cases h2 : a ≤ b
    · rw [if_pos h0, if_pos h2]; congr 1; exact decide_eq_decide.2 ⟨fun _ => by omega, fun _ => by omega⟩
    · rw [if_pos h0, if_neg h2]; congr 1; simp; omega
  · rw [if_neg h0]; congr 1; simp; omega
/-- A range's text. -/
def rangeText (a b : Int) : List UInt8 := if -1000 ≤ a ∧ a ≤ b ∧ b ≤ 1000 then Lib.itoa a ++ (46 :: 46 :: Lib.itoa b) else []
theorem fmtRange_impl (a b : Int) : impl_FormatRange.f a b = some (bs (rangeText a b)) := by
  unfold impl_FormatRange.f
  rw [range_impl a b, Option.bind_some]
  by_cases h : -1000 ≤ a ∧ a ≤ b ∧ b ≤ 1000
  · have la := itoa_len a
    have lb := itoa_len b
    have e : (⟨(Lib.itoa a).toArray⟩ : ByteArray) ++ (⟨#[46, 46]⟩ : ByteArray) = bs (Lib.itoa a ++ [46, 46]) := bs_app (Lib.itoa a) [46, 46]
    rw [if_pos (by simpa using h), fmt_impl a (by omega) (by omega), Option.bind_some, if_pos (by show (bs (Lib.itoa a)).size + 2 ≤ _; rw [bs_size]; omega), fmt_impl b (by omega) (by omega), Option.bind_some,
      if_pos (by rw [e]; show _ + (bs (Lib.itoa b)).size ≤ _; rw [bs_size, bs_size]; simp; omega), e]
    show some (bs (Lib.itoa a ++ [46, 46]) ++ bs (Lib.itoa b)) = _
    rw [bs_app, rangeText, if_pos h]
    simp
  · rw [if_neg (by simpa using h), rangeText, if_neg h]
    rfl

theorem itoa_nodot (n : Int) : ∀ x ∈ Lib.itoa n, x ≠ 46 := by
  by_cases hz : n = 0
  · subst hz; decide +kernel
  intro x hx e
  subst e
  by_cases hn : n < 0
  · rw [itoa_neg hn, List.mem_cons] at hx
    rcases hx with hx | hx
    · revert hx; decide
    · have := digs_all _ _ hx; revert this; decide
  · rw [itoa_pos (by omega)] at hx
    have := digs_all _ _ hx; revert this; decide
theorem idx_dots : ∀ (p r : List UInt8), (∀ x ∈ p, x ≠ 46) → Lib.index (p ++ 46 :: 46 :: r) [46, 46] = p.length
  | [], r, _ => by simp [Lib.index]
  | b :: p, r, h => by
    have hb : b ≠ 46 := h b (by simp)
    have ih := idx_dots p r (fun x hx => h x (by simp [hx]))
    have hpre : ([46, 46] : List UInt8).isPrefixOf (b :: (p ++ 46 :: 46 :: r)) = false := by
      have : ((46 : UInt8) == b) = false := by rw [beq_eq_false_iff_ne]; exact fun e => hb e.symm
      simp [List.isPrefixOf, this]
    rw [List.cons_append]
    unfold Lib.index
    rw [hpre, ih]
    have : ((p.length : Int) == -1) = false := by rw [beq_eq_false_iff_ne]; omega
    rw [this]
    simp
/-- What both give. -/
def rangeOf (l : List UInt8) : Int × Int × Bool :=
  if 0 ≤ Lib.index l [46, 46] then
    if rangeText (num2 (l.take (Lib.index l [46, 46]).toNat)) (num2 (l.drop ((Lib.index l [46, 46]).toNat + 2))) = l then
      (num2 (l.take (Lib.index l [46, 46]).toNat), num2 (l.drop ((Lib.index l [46, 46]).toNat + 2)), true)
    else (0, 0, false)
  else (0, 0, false)
def rangeOf' (l : List UInt8) : Int × Int × Bool :=
  if l = [] then (0, 0, false) else
    if rangeText (specPI (Lib.cut l [46, 46]).1).1 (specPI (Lib.cut l [46, 46]).2.1).1 = l then ((specPI (Lib.cut l [46, 46]).1).1, (specPI (Lib.cut l [46, 46]).2.1).1, true) else (0, 0, false)
theorem range_same (l : List UInt8) : rangeOf' l = rangeOf l := by
  by_cases hP : ∃ a b, rangeText a b = l ∧ l ≠ []
  · obtain ⟨a, b, hab, hne⟩ := hP
    have hv : -1000 ≤ a ∧ a ≤ b ∧ b ≤ 1000 := by
      by_cases h : -1000 ≤ a ∧ a ≤ b ∧ b ≤ 1000
      · exact h
      · rw [rangeText, if_neg h] at hab; exact absurd hab.symm hne
    have hl : l = Lib.itoa a ++ 46 :: 46 :: Lib.itoa b := by rw [← hab, rangeText, if_pos hv]
    have hidx : Lib.index l [46, 46] = (Lib.itoa a).length := by rw [hl]; exact idx_dots _ _ (itoa_nodot a)
    have ht : l.take (Lib.index l [46, 46]).toNat = Lib.itoa a := by rw [hidx, Int.toNat_natCast, hl, List.take_left]
    have hd : l.drop ((Lib.index l [46, 46]).toNat + 2) = Lib.itoa b := by
      rw [hidx, Int.toNat_natCast, hl, ← List.drop_drop, List.drop_left]; rfl
    have pa := specPI_itoa (v := a) (by omega) (by omega)
    have pb := specPI_itoa (v := b) (by omega) (by omega)
    have h0 : 0 ≤ Lib.index l [46, 46] := by rw [hidx]; omega
    have hc : Lib.cut l [46, 46] = (Lib.itoa a, Lib.itoa b, true) := by
      unfold Lib.cut
      rw [if_pos h0, ht]
      show (Lib.itoa a, l.drop ((Lib.index l [46, 46]).toNat + 2), true) = _
      rw [hd]
    have na : num2 (Lib.itoa a) = a := by unfold num2; rw [pa]; rfl
    have nb : num2 (Lib.itoa b) = b := by unfold num2; rw [pb]; rfl
    unfold rangeOf rangeOf'
    rw [if_neg hne, hc, if_pos h0, ht, hd, na, nb, pa, pb]
  · have h1 : rangeOf l = (0, 0, false) := by
      unfold rangeOf
      by_cases h0 : 0 ≤ Lib.index l [46, 46]
      · rw [if_pos h0, if_neg]
        intro e
        refine hP ⟨_, _, e, fun hn => ?_⟩
        subst hn
        revert h0; decide
      · rw [if_neg h0]
    rw [h1]
    unfold rangeOf'
    by_cases hn : l = []
    · rw [if_pos hn]
    · rw [if_neg hn, if_neg (fun e => hP ⟨_, _, e, hn⟩)]
theorem pre2 (m : List UInt8) : ([46, 46] : List UInt8).isPrefixOf m = true ↔ m.take 2 = [46, 46] := by
  match m with
  | [] => simp [List.isPrefixOf]
  | [a] => simp [List.isPrefixOf]
  | a :: b :: r => simp [List.isPrefixOf]; constructor <;> (rintro ⟨rfl, rfl⟩; exact ⟨rfl, rfl⟩)
theorem cut_len (l : List UInt8) : (Lib.cut l [46, 46]).1.length ≤ l.length ∧ (Lib.cut l [46, 46]).2.1.length ≤ l.length := by
  unfold Lib.cut
  by_cases h : 0 ≤ Lib.index l [46, 46]
  · rw [if_pos h]; simp only [List.length_take, List.length_drop]; omega
  · rw [if_neg h]; simp
theorem range_pimpl (s : ByteArray) (hs : s.size ≤ 1048576) : impl_ParseRange.f s = some (rangeOf s.data.toList) := by
  have hsz := size_list s
  have hl := cut_len s.data.toList
  unfold impl_ParseRange.f strings_Cut.f
  rw [if_pos (by omega), Option.bind_some]
  dsimp only
  have c0 : (⟨#[46, 46]⟩ : ByteArray).data.toList = [46, 46] := rfl
  try rw [c0]
  have p1 := pi_impl (bs (Lib.cut s.data.toList [46, 46]).1) (by rw [bs_size]; omega)
  have p2 := pi_impl (bs (Lib.cut s.data.toList [46, 46]).2.1) (by rw [bs_size]; omega)
  rw [bs_list] at p1 p2
  rw [show (⟨(Lib.cut s.data.toList [46, 46]).1.toArray⟩ : ByteArray) = bs (Lib.cut s.data.toList [46, 46]).1 from rfl, show (⟨(Lib.cut s.data.toList [46, 46]).2.1.toArray⟩ : ByteArray) = bs (Lib.cut s.data.toList [46, 46]).2.1 from rfl, p1, Option.bind_some, p2, Option.bind_some, ← range_same]
  unfold rangeOf'
  have he0 : (s.toList = ([] : List UInt8)) ↔ s.data.toList = [] := by rw [Lib.toList_data]
  by_cases hn : s.data.toList = []
  · rw [if_pos hn, if_pos (he0.2 hn)]
  · rw [if_neg hn, if_neg (fun e => hn (he0.1 e)), fmtRange_impl, Option.bind_some]
    have he : ∀ x : List UInt8, ((bs x).toList = s.toList) ↔ x = s.data.toList := fun x => by rw [Lib.toList_data, Lib.toList_data, bs_list]
    by_cases h : rangeText (specPI (Lib.cut s.data.toList [46, 46]).1).1 (specPI (Lib.cut s.data.toList [46, 46]).2.1).1 = s.data.toList
    · rw [if_pos h, if_pos ((he _).2 h)]
    · rw [if_neg h, if_neg (fun e => h ((he _).1 e))]

theorem rangeOf_text (a b : Int) : rangeOf (rangeText a b) = if (-1000 ≤ a ∧ a ≤ b ∧ b ≤ 1000) then (a, b, true) else (0, 0, false) := by
  by_cases hv : -1000 ≤ a ∧ a ≤ b ∧ b ≤ 1000
  · rw [if_pos hv]
    have hl : rangeText a b = Lib.itoa a ++ 46 :: 46 :: Lib.itoa b := by rw [rangeText, if_pos hv]
    have hidx : Lib.index (rangeText a b) [46, 46] = (Lib.itoa a).length := by rw [hl]; exact idx_dots _ _ (itoa_nodot a)
    have ht : (rangeText a b).take (Lib.index (rangeText a b) [46, 46]).toNat = Lib.itoa a := by rw [hidx, Int.toNat_natCast, hl, List.take_left]
    have hd : (rangeText a b).drop ((Lib.index (rangeText a b) [46, 46]).toNat + 2) = Lib.itoa b := by
      rw [hidx, Int.toNat_natCast, hl, ← List.drop_drop, List.drop_left]; rfl
    have pa := specPI_itoa (v := a) (by omega) (by omega)
    have pb := specPI_itoa (v := b) (by omega) (by omega)
    have h0 : 0 ≤ Lib.index (rangeText a b) [46, 46] := by rw [hidx]; omega
    have na : num2 (Lib.itoa a) = a := by unfold num2; rw [pa]; rfl
    have nb : num2 (Lib.itoa b) = b := by unfold num2; rw [pb]; rfl
    unfold rangeOf
    rw [if_pos h0, ht, hd, na, nb, if_pos rfl]
  · rw [if_neg hv]
    have : rangeText a b = [] := by rw [rangeText, if_neg hv]
    rw [this]
    decide
theorem rangeText_len (a b : Int) : (rangeText a b).length ≤ 1000 := by
  unfold rangeText
  by_cases hv : -1000 ≤ a ∧ a ≤ b ∧ b ≤ 1000
  · rw [if_pos hv]
    have := itoa_len a
    have := itoa_len b
    simp only [List.length_append, List.length_cons]
    omega
  · rw [if_neg hv]; simp

theorem i64_and255 (n : Int) : Go.bits .and .i64 n 255 = n % 256 := by
  have h255 : (BitVec.ofInt 64 255).toNat = 2 ^ 8 - 1 := by decide
  have key : (BitVec.ofInt 64 n &&& BitVec.ofInt 64 255).toNat = (n % ((2 ^ 64 : Nat) : Int)).toNat % 2 ^ 8 := by
    rw [BitVec.toNat_and, BitVec.toNat_ofInt, h255, Nat.and_two_pow_sub_one_eq_mod]
  show IntKind.i64.wrap ((BitVec.ofInt 64 n &&& BitVec.ofInt 64 255).toNat : Nat) = n % 256
  rw [key, IntKind.wrap_i64]
  omega
theorem byte_ok (b : List Int) (i h : Int) (hi : 0 ≤ i ∧ i ≤ (b.length : Int)) (hb : b.length ≤ 1048576) : ∃ x i' h', spec_l1Byte.f b i h = some (x, i', h') ∧ (0 ≤ x ∧ x < 256) ∧ (0 ≤ i' ∧ i' ≤ (b.length : Int)) := by
  unfold spec_l1Byte.f
  by_cases c : i < (b.length : Int)
  · rw [if_pos c, if_pos hi.1, i64_and255]
    refine ⟨_, _, _, rfl, ⟨Int.emod_nonneg _ (by decide), Int.emod_lt_of_pos _ (by decide)⟩, ?_⟩
    rw [w64 (by omega) (by omega)]; omega
  · rw [if_neg c, i64_and255]
    exact ⟨_, _, _, rfl, ⟨Int.emod_nonneg _ (by decide), Int.emod_lt_of_pos _ (by decide)⟩, hi⟩
theorem below_ok (b : List Int) (i h n : Int) (hi : 0 ≤ i ∧ i ≤ (b.length : Int)) (hb : b.length ≤ 1048576) : ∃ x i' h', spec_l1Below.f b i h n = some (x, i', h') ∧ (0 ≤ x ∧ (0 < n → x < n) ∧ (n ≤ 0 → x = 0)) ∧ (0 ≤ i' ∧ i' ≤ (b.length : Int)) := by
  unfold spec_l1Below.f
  by_cases c0 : n ≤ 0
  · rw [if_pos c0]
    exact ⟨_, _, _, rfl, ⟨by omega, fun h => h, fun _ => rfl⟩, hi⟩
  rw [if_neg c0]
  by_cases c1 : n ≤ 256
  · rw [if_pos c1]
    obtain ⟨x, i', h', e, hx, hi'⟩ := byte_ok b i h hi hb
    rw [e, Option.bind_some, if_neg (by omega)]
    have hm0 := Int.emod_nonneg x (show n ≠ 0 by omega)
    have hm1 := Int.emod_lt_of_pos x (show 0 < n by omega)
    refine ⟨_, _, _, rfl, ?_, hi'⟩
    rw [tmod_nn hx.1]
    exact ⟨hm0, fun _ => hm1, fun h => absurd h c0⟩
  · rw [if_neg c1]
    obtain ⟨x1, i1, h1, e1, g1, k1⟩ := byte_ok b i h hi hb
    obtain ⟨x2, i2, h2, e2, g2, k2⟩ := byte_ok b i1 h1 k1 hb
    obtain ⟨x3, i3, h3, e3, g3, k3⟩ := byte_ok b i2 h2 k2 hb
    obtain ⟨x4, i4, h4, e4, g4, k4⟩ := byte_ok b i3 h3 k3 hb
    rw [e1, Option.bind_some]
    dsimp only
    rw [e2, Option.bind_some]
    dsimp only
    rw [e3, Option.bind_some]
    dsimp only
    rw [e4, Option.bind_some, if_neg (by omega)]
    refine ⟨_, _, _, rfl, ?_, k4⟩
    dsimp only
    rw [w64 (n := x1 * 16777216) (by omega) (by omega), w64 (n := x2 * 65536) (by omega) (by omega), w64 (n := x1 * 16777216 + x2 * 65536) (by omega) (by omega), w64 (n := x3 * 256) (by omega) (by omega),
      w64 (n := x1 * 16777216 + x2 * 65536 + x3 * 256) (by omega) (by omega), w64 (n := x1 * 16777216 + x2 * 65536 + x3 * 256 + x4) (by omega) (by omega), tmod_nn (by omega)]
    have hm0 := Int.emod_nonneg (x1 * 16777216 + x2 * 65536 + x3 * 256 + x4) (show n ≠ 0 by omega)
    have hm1 := Int.emod_lt_of_pos (x1 * 16777216 + x2 * 65536 + x3 * 256 + x4) (show 0 < n by omega)
    exact ⟨hm0, fun _ => hm1, fun h => absurd h c0⟩
theorem new_ok (b : List Int) (hb : b.length ≤ 1048576) : ∃ h, Ev (fun k => spec_l1New.f k b) (b, 0, h) := by
  unfold spec_l1New.f
  have key : ∀ d i : Nat, min b.length 4000 - i = d → i ≤ min b.length 4000 → ∀ x : Int, ∃ h, Ev (fun k => spec_l1New.l0 k b x (i : Int)) (b, 0, h) := by
    intro d
    induction d with
    | zero =>
      intro i hd hi x
      refine ⟨x, ev_const (fun k => ?_)⟩
      simp only [spec_l1New.l0]
      by_cases c : i < b.length
      · rw [if_pos (by omega), if_neg (by omega)]
      · rw [if_neg (by omega)]
    | succ d ih =>
      intro i hd hi x
      obtain ⟨h, hh⟩ := ih (i + 1) (by omega) (by omega) (Go.bits .and .i64 (wrap64 ((wrap64 ((wrap64 (x * 131)) + (wrap64 (rd b (i : Int))))) + 7)) 1073741823)
      refine ⟨h, Ev.step (fun k => ?_) hh⟩
      simp only [spec_l1New.l0]
      rw [if_pos (by omega), if_pos (by omega), if_pos (by omega), show wrap64 ((i : Int) + 1) = ((i + 1 : Nat) : Int) by rw [w64 (by omega) (by omega)]; omega]
  exact key (min b.length 4000) 0 (by omega) (by omega) _

theorem pickI_ok (b : List Int) (i h : Int) (l : List Int) (hi : 0 ≤ i ∧ i ≤ (b.length : Int)) (hb : b.length ≤ 1048576) (hl : 0 < l.length) (hl2 : l.length ≤ 256) : ∃ n i' h', spec_l1PickInt.f b i h l = some (rd l (n : Int), i', h') ∧ (0 ≤ n ∧ n < (l.length : Int)) ∧ (0 ≤ i' ∧ i' ≤ (b.length : Int)) := by
  unfold spec_l1PickInt.f
  obtain ⟨x, i1, h1, e1, g1, k1⟩ := below_ok b i h (l.length : Int) hi hb
  have hx := g1.2.1 (by omega)
  rw [e1, Option.bind_some]
  dsimp only
  rw [if_pos g1.1, if_pos hx]
  exact ⟨x, i1, h1, rfl, ⟨g1.1, hx⟩, k1⟩
theorem values_loop (b : List Int) (hb : b.length ≤ 1048576) (wd : Int) : ∀ (n : Nat) (x : List Int) (i h : Int), (0 ≤ i ∧ i ≤ (b.length : Int)) → x.length + n ≤ 100000 →
    ∃ l i' h', Ev (fun k => spec_l2Values.l0 k x wd (n : Int) b i h) (l, i', h') ∧ l.length = x.length + n ∧ (0 ≤ i' ∧ i' ≤ (b.length : Int)) := by
  intro n
  induction n with
  | zero =>
    intro x i h hi hn
    refine ⟨x, i, h, ev_const (fun k => ?_), by omega, hi⟩
    simp only [spec_l2Values.l0]
    rw [if_neg (by omega)]
  | succ n ih =>
    intro x i h hi hn
    obtain ⟨y, i1, h1, e1, g1, k1⟩ := below_ok b i h wd hi hb
    obtain ⟨l, i2, h2, e2, hl, k2⟩ := ih (x ++ [wrap64 (y - (wrap64 (Int.tdiv wd 3)))]) i1 h1 k1 (by simp; omega)
    refine ⟨l, i2, h2, Ev.step (fun k => ?_) e2, by simp at hl; omega, k2⟩
    simp only [spec_l2Values.l0]
    rw [if_pos (by omega), e1, Option.bind_some]
    dsimp only
    rw [if_pos (by omega), w64 (n := ((n + 1 : Nat) : Int) - 1) (by omega) (by omega), show ((n + 1 : Nat) : Int) - 1 = (n : Int) by omega]
theorem values_ok (b : List Int) (hb : b.length ≤ 1048576) (i h m : Int) (hi : 0 ≤ i ∧ i ≤ (b.length : Int)) (hm : 0 ≤ m ∧ m ≤ 1000) : ∃ l i' h', Ev (fun k => spec_l2Values.f k b i h m) (l, i', h') ∧ (l.length : Int) ≤ m ∧ (0 ≤ i' ∧ i' ≤ (b.length : Int)) := by
  unfold spec_l2Values.f
  obtain ⟨n, i1, h1, e1, g1, k1⟩ := pickI_ok b i h [3, 10, 30, 1000] hi hb (by decide) (by decide)
  obtain ⟨y, i2, h2, e2, g2, k2⟩ := below_ok b i1 h1 (m + 1) k1 hb
  have hy := g2.2.1 (by omega)
  obtain ⟨l, i3, h3, e3, hl, k3⟩ := values_loop b hb (rd [3, 10, 30, 1000] n) y.toNat [] i2 h2 k2 (by simp; omega)
  refine ⟨l, i3, h3, ev_pure e1 ?_, by simp at hl; omega, k3⟩
  dsimp only
  rw [w64 (n := m + 1) (by omega) (by omega)]
  refine ev_pure e2 ?_
  dsimp only
  rw [show ((y.toNat : Nat) : Int) = y by omega] at e3
  exact e3

def smallT (l : List S58) : Prop := ∀ z ∈ l, z.f0.size ≤ 100 ∧ z.f1.length ≤ 1000
theorem pick_ok (b : List Int) (i h : Int) (l : List ByteArray) (hi : 0 ≤ i ∧ i ≤ (b.length : Int)) (hb : b.length ≤ 1048576) (hl : 0 < l.length) (hl2 : l.length ≤ 256) : ∃ n i' h', spec_l1Pick.f b i h l = some (rdOf ByteArray.empty l (n : Int), i', h') ∧ (0 ≤ n ∧ n < (l.length : Int)) ∧ (0 ≤ i' ∧ i' ≤ (b.length : Int)) := by
  unfold spec_l1Pick.f
  obtain ⟨x, i1, h1, e1, g1, k1⟩ := below_ok b i h (l.length : Int) hi hb
  have hx := g1.2.1 (by omega)
  rw [e1, Option.bind_some]
  dsimp only
  rw [if_pos g1.1, if_pos hx]
  exact ⟨x, i1, h1, rfl, ⟨g1.1, hx⟩, k1⟩

theorem tab_l1 (b : List Int) (hb : b.length ≤ 1048576) (n : Int) (hn : 0 ≤ n ∧ n ≤ 11) (j : Int) (T : List S58) (hT : T.length ≤ 3) (R : List S58 → Prop)
    (hc : ∀ i h (c : S58), (0 ≤ i ∧ i ≤ (b.length : Int)) → c.f0.size ≤ 100 → c.f1.length ≤ 1000 → ∃ T' i' h', Ev (fun k => spec_l2Table.l0 k n (wrap64 (j + 1)) b i h (T ++ [c])) (T', i', h') ∧ R T' ∧ (0 ≤ i' ∧ i' ≤ (b.length : Int))) :
    ∀ (d : Nat) (l : List Int) (i h : Int), n - l.length ≤ (d : Int) → l.length ≤ 100 → (0 ≤ i ∧ i ≤ (b.length : Int)) → ∃ T' i' h', Ev (fun k => spec_l2Table.l1 k n j l b i h T) (T', i', h') ∧ R T' ∧ (0 ≤ i' ∧ i' ≤ (b.length : Int)) := by
  intro d
  induction d with
  | zero =>
    intro l i h hd hl hi
    obtain ⟨m, i1, h1, e1, g1, k1⟩ := pick_ok b i h [(⟨#[97]⟩ : ByteArray), (⟨#[98]⟩ : ByteArray), (⟨#[99]⟩ : ByteArray), (⟨#[112, 114, 105, 99, 101]⟩ : ByteArray)] hi hb (by decide) (by decide)
    have hsz : (rdOf ByteArray.empty [(⟨#[97]⟩ : ByteArray), (⟨#[98]⟩ : ByteArray), (⟨#[99]⟩ : ByteArray), (⟨#[112, 114, 105, 99, 101]⟩ : ByteArray)] m).size ≤ 100 := by
      have hm : m = 0 ∨ m = 1 ∨ m = 2 ∨ m = 3 := by have := g1.2; simp at this; omega
      rcases hm with e | e | e | e <;> subst e <;> decide
    obtain ⟨T', i2, h2, e2, hR, k2⟩ := hc i1 h1 ⟨_, l.take n.toNat⟩ k1 hsz (by show (l.take n.toNat).length ≤ 1000; rw [List.length_take]; omega)
    refine ⟨T', i2, h2, Ev.step (fun k => ?_) e2, hR, k2⟩
    simp only [spec_l2Table.l1]
    rw [if_neg (by omega), e1, Option.bind_some, if_pos hn.1, if_pos (by omega), if_pos (by omega)]
    rfl
  | succ d ih =>
    intro l i h hd hl hi
    by_cases c : (l.length : Int) < n
    · obtain ⟨y, i1, h1, e1, g1, k1⟩ := below_ok b i h 9 hi hb
      obtain ⟨T', i2, h2, e2, hR, k2⟩ := ih (l ++ [y]) i1 h1 (by simp; omega) (by simp; omega) k1
      refine ⟨T', i2, h2, Ev.step (fun k => ?_) e2, hR, k2⟩
      simp only [spec_l2Table.l1]
      rw [if_pos c, e1, Option.bind_some, if_pos (by omega)]
    · exact ih l i h (by omega) hl hi

def goodT (j : Nat) (T : List S58) : Prop := smallT T ∧ T.length ≤ 3 ∧ (j = 0 → 1 ≤ T.length) ∧ j ≤ T.length
theorem tab_l0 (b : List Int) (hb : b.length ≤ 1048576) (n : Int) (hn : 0 ≤ n ∧ n ≤ 11) : ∀ (d j : Nat), j + d = 3 → ∀ (i h : Int) (T : List S58), (0 ≤ i ∧ i ≤ (b.length : Int)) → T.length = j → smallT T →
    ∃ T' i' h', Ev (fun k => spec_l2Table.l0 k n (j : Int) b i h T) (T', i', h') ∧ goodT j T' ∧ (0 ≤ i' ∧ i' ≤ (b.length : Int)) := by
  intro d
  induction d with
  | zero =>
    intro j hj i h T hi hT hs
    obtain ⟨y, i1, h1, e1, g1, k1⟩ := below_ok b i h 3 hi hb
    have hy := g1.2.1 (by omega)
    refine ⟨T, i1, h1, ev_const (fun k => ?_), ⟨hs, by omega, fun e => by omega, by omega⟩, k1⟩
    simp only [spec_l2Table.l0]
    rw [e1, Option.bind_some]
    dsimp only
    rw [if_neg (by omega)]
  | succ d ih =>
    intro j hj i h T hi hT hs
    obtain ⟨y, i1, h1, e1, g1, k1⟩ := below_ok b i h 3 hi hb
    by_cases c : (j : Int) ≤ y
    · obtain ⟨l, i2, h2, e2, hl, k2⟩ := values_ok b hb i1 h1 12 k1 (by omega)
      have hc : ∀ i h (c : S58), (0 ≤ i ∧ i ≤ (b.length : Int)) → c.f0.size ≤ 100 → c.f1.length ≤ 1000 → ∃ T' i' h', Ev (fun k => spec_l2Table.l0 k n (wrap64 ((j : Int) + 1)) b i h (T ++ [c])) (T', i', h') ∧ goodT j T' ∧ (0 ≤ i' ∧ i' ≤ (b.length : Int)) := by
        intro i h c hi h0 h1
        have hT1 : (T ++ [c]).length = j + 1 := by rw [List.length_append, List.length_singleton, hT]
        have hs1 : smallT (T ++ [c]) := fun z hz => by
          rcases List.mem_append.1 hz with q | q
          · exact hs z q
          · rw [List.mem_singleton] at q; subst q; exact ⟨h0, h1⟩
        obtain ⟨T', i', h', e, hr, k⟩ := ih (j + 1) (by omega) i h (T ++ [c]) hi hT1 hs1
        have hw : wrap64 ((j : Int) + 1) = ((j + 1 : Nat) : Int) := by rw [w64 (by omega) (by omega)]; omega
        rw [hw]
        clear hw
        refine ⟨T', i', h', e, ?_, k⟩
        obtain ⟨r1, r2, r3, r4⟩ := hr
        exact ⟨r1, r2, fun _ => by omega, by omega⟩
      obtain ⟨T', i3, h3, e3, hR, k3⟩ := tab_l1 b hb n hn (j : Int) T (by omega) (goodT j) hc 11 l i2 h2 (by omega) (by omega) k2
      refine ⟨T', i3, h3, ?_, hR, k3⟩
      apply Ev.step
      · intro k; simp only [spec_l2Table.l0]; rfl
      exact ev_pure e1 (ev_ifp c (Ev.bind e2 e3))
    · have h0 : j ≠ 0 := by intro e; subst e; exact c (by have := g1.1; omega)
      refine ⟨T, i1, h1, ?_, ⟨hs, by omega, fun e => absurd e h0, by omega⟩, k1⟩
      apply Ev.step
      · intro k; simp only [spec_l2Table.l0]; rfl
      exact ev_pure e1 (ev_ifn c (ev_some _))
theorem table_ok (b : List Int) (hb : b.length ≤ 1048576) (i h : Int) (hi : 0 ≤ i ∧ i ≤ (b.length : Int)) : ∃ T i' h', Ev (fun k => spec_l2Table.f k b i h) (T, i', h') ∧ (smallT T ∧ T.length ≤ 3 ∧ 1 ≤ T.length) ∧ (0 ≤ i' ∧ i' ≤ (b.length : Int)) := by
  unfold spec_l2Table.f
  obtain ⟨y, i1, h1, e1, g1, k1⟩ := below_ok b i h 12 hi hb
  have hy := g1.2.1 (by omega)
  obtain ⟨T, i2, h2, e2, hR, k2⟩ := tab_l0 b hb y ⟨g1.1, by omega⟩ 3 0 rfl i1 h1 [] k1 rfl (fun z hz => by cases hz)
  exact ⟨T, i2, h2, ev_pure e1 e2, ⟨hR.1, hR.2.1, hR.2.2.1 rfl⟩, k2⟩
theorem any_ok (b : List Int) (hb : b.length ≤ 1048576) (i h : Int) (hi : 0 ≤ i ∧ i ≤ (b.length : Int)) : ∃ T i' h', Ev (fun k => spec_l2AnyTable.f k b i h) (T, i', h') ∧ ((∀ z ∈ T, z.f0.size ≤ 1000 ∧ z.f1.length ≤ 10000) ∧ T.length ≤ 3) ∧ (0 ≤ i' ∧ i' ≤ (b.length : Int)) := by
  unfold spec_l2AnyTable.f
  obtain ⟨T, i1, h1, e1, ⟨hs, h3, h4⟩, k1⟩ := table_ok b hb i h hi
  obtain ⟨y, i2, h2, e2, g2, k2⟩ := below_ok b i1 h1 8 k1 hb
  have h0 : 0 < T.length := by omega
  have hz0 := hs _ (List.getElem_mem h0)
  have hr0 : rd_T58 T 0 = T[0] := rdColumn h0
  have hset : ∀ c : S58, c.f0.size ≤ 1000 → c.f1.length ≤ 10000 → (∀ z ∈ T.set (0 : Int).toNat c, z.f0.size ≤ 1000 ∧ z.f1.length ≤ 10000) ∧ (T.set (0 : Int).toNat c).length ≤ 3 := by
    intro c h1 h2
    refine ⟨fun z hz => ?_, by rw [List.length_set]; exact h3⟩
    rcases List.mem_or_eq_of_mem_set hz with q | q
    · have := hs z q; omega
    · subst q; exact ⟨h1, h2⟩
  have hall : (∀ z ∈ T, z.f0.size ≤ 1000 ∧ z.f1.length ≤ 10000) ∧ T.length ≤ 3 := ⟨fun z hz => by have := hs z hz; omega, h3⟩
  by_cases c0 : y = 0
  · obtain ⟨m, i3, h5, e3, g3, k3⟩ := pick_ok b i2 h2 [(⟨#[]⟩ : ByteArray), (⟨#[97, 49]⟩ : ByteArray), (⟨#[97, 98, 99, 100, 101, 102, 103, 104, 105]⟩ : ByteArray), (⟨#[97, 32, 98]⟩ : ByteArray)] k2 hb (by decide) (by decide)
    have hsz : (rdOf ByteArray.empty [(⟨#[]⟩ : ByteArray), (⟨#[97, 49]⟩ : ByteArray), (⟨#[97, 98, 99, 100, 101, 102, 103, 104, 105]⟩ : ByteArray), (⟨#[97, 32, 98]⟩ : ByteArray)] m).size ≤ 1000 := by
      have hm : m = 0 ∨ m = 1 ∨ m = 2 ∨ m = 3 := by have := g3.2; simp at this; omega
      rcases hm with e | e | e | e <;> subst e <;> decide
    exact ⟨_, i3, h5, Ev.bind e1 (ev_pure e2 (ev_ifp c0 (ev_pure e3 (ev_ifp (by show 0 < (T.length : Int); omega) (ev_some _))))), hset _ hsz (by rw [hr0]; show T[0].f1.length ≤ 10000; omega), k3⟩
  · by_cases c1 : y = 1
    · obtain ⟨m, i3, h5, e3, g3, k3⟩ := pickI_ok b i2 h2 [5, 999, 1000, -1000] k2 hb (by decide) (by decide)
      exact ⟨_, i3, h5, Ev.bind e1 (ev_pure e2 (ev_ifn c0 (ev_ifp c1 (ev_ifp (by show 0 < (T.length : Int); omega) (ev_pure e3 (ev_ifp (by show (rd_T58 T 0).f1.length < _; rw [hr0]; omega) (ev_some _))))))), hset _ (by rw [hr0]; show T[0].f0.size ≤ 1000; omega) (by show ((rd_T58 T 0).f1 ++ [_]).length ≤ 10000; rw [hr0, List.length_append, List.length_singleton]; omega), k3⟩
    · by_cases c2 : y = 2
      · exact ⟨_, i2, h2, Ev.bind e1 (ev_pure e2 (ev_ifn c0 (ev_ifn c1 (ev_ifp c2 (ev_ifp (by show 1 ≤ (T.length : Int); omega) (ev_some _)))))), ⟨fun z hz => hall.1 z (List.mem_of_mem_drop hz), by show (T.drop 1).length ≤ 3; rw [List.length_drop]; omega⟩, k2⟩
      · exact ⟨_, i2, h2, Ev.bind e1 (ev_pure e2 (ev_ifn c0 (ev_ifn c1 (ev_ifn c2 (ev_some _))))), hall, k2⟩

theorem pick4 (l : List Int) (p : Int → Prop) (hl : l.length = 4) (h : ∀ x ∈ l, p x) (n : Int) (hn : 0 ≤ n ∧ n < (l.length : Int)) : p (rd l n) := by
  unfold rd
  rw [List.getD_eq_getElem?_getD, List.getElem?_eq_getElem (show n.toNat < l.length by omega)]
  exact h _ (List.getElem_mem _)
theorem l3Range_ok (b : List Int) (hb : b.length ≤ 1048576) (i h : Int) (hi : 0 ≤ i ∧ i ≤ (b.length : Int)) : ∃ x y i' h', spec_l3Range.f b i h = some (x, y, i', h') ∧ (-1001 ≤ x ∧ x ≤ 1001) ∧ (0 ≤ i' ∧ i' ≤ (b.length : Int)) := by
  unfold spec_l3Range.f
  obtain ⟨n, i1, h1, e1, g1, k1⟩ := pickI_ok b i h [3, 10, 30, 1000] hi hb (by decide) (by decide)
  have hw : 3 ≤ rd [3, 10, 30, 1000] n ∧ rd [3, 10, 30, 1000] n ≤ 1000 := pick4 _ (fun x => 3 ≤ x ∧ x ≤ 1000) rfl (by decide) n g1
  generalize rd [3, 10, 30, 1000] n = w at e1 hw
  obtain ⟨y, i2, h2, e2, g2, k2⟩ := below_ok b i1 h1 w k1 hb
  have hy := g2.2.1 (by omega)
  obtain ⟨z, i3, h3, e3, g3, k3⟩ := below_ok b i2 h2 w k2 hb
  have hd : 0 ≤ Int.tdiv w 3 ∧ Int.tdiv w 3 ≤ 1000 := by
    rw [Int.tdiv_eq_ediv_of_nonneg (by omega)]; omega
  rw [e1, Option.bind_some]
  dsimp only
  rw [e2, Option.bind_some]
  dsimp only
  rw [e3, Option.bind_some]
  refine ⟨_, _, _, _, rfl, ?_, k3⟩
  rw [w64 (n := Int.tdiv w 3) (by omega) (by omega), w64 (n := y - Int.tdiv w 3) (by omega) (by omega)]
  omega
theorem l3Any_ok (b : List Int) (hb : b.length ≤ 1048576) (i h : Int) (hi : 0 ≤ i ∧ i ≤ (b.length : Int)) : ∃ x y i' h', spec_l3Any.f b i h = some (x, y, i', h') ∧ (-1001 ≤ x ∧ x ≤ 1001) ∧ (0 ≤ i' ∧ i' ≤ (b.length : Int)) := by
  unfold spec_l3Any.f
  obtain ⟨x, y, i1, h1, e1, g1, k1⟩ := l3Range_ok b hb i h hi
  obtain ⟨z, i2, h2, e2, g2, k2⟩ := below_ok b i1 h1 10 k1 hb
  obtain ⟨n, i3, h3, e3, g3, k3⟩ := pickI_ok b i2 h2 [-1001, -1000, 1000, 1001] k2 hb (by decide) (by decide)
  have hw : -1001 ≤ rd [-1001, -1000, 1000, 1001] n ∧ rd [-1001, -1000, 1000, 1001] n ≤ 1001 := pick4 _ (fun x => -1001 ≤ x ∧ x ≤ 1001) rfl (by decide) n g3
  rw [e1, Option.bind_some]
  dsimp only
  rw [e2, Option.bind_some]
  dsimp only
  by_cases c0 : z = 0
  · rw [if_pos c0, e3, Option.bind_some]
    exact ⟨_, _, _, _, rfl, hw, k3⟩
  · rw [if_neg c0]
    by_cases c1 : z = 1
    · rw [if_pos c1, e3, Option.bind_some]
      exact ⟨_, _, _, _, rfl, g1, k3⟩
    · rw [if_neg c1]
      exact ⟨_, _, _, _, rfl, g1, k2⟩

theorem specFindColumn_ev (l : List S58) (nm : ByteArray) (hl : l.length ≤ 4611686018427387904) : Ev (fun k => spec_FindColumn.f k l nm) (colAt l nm) := by
  unfold spec_FindColumn.f
  refine loop_ev l.length (fun i => ∀ j (h : j < l.length), j < i → colP nm l[j] = false) (fun k i => spec_FindColumn.l0 k nm (i : Int) l) _ (fun j _ h => absurd h (Nat.not_lt_zero _)) ?_ ?_
  · intro i hi hc ih
    cases e : colP nm l[i] with
    | true =>
      refine ev_const (fun k => ?_)
      simp only [spec_FindColumn.l0]
      have e2 : l[i].f0.toList = nm.toList := by unfold colP at e; simpa using e
      rw [if_pos (by omega), if_pos (by omega), rdColumn hi, if_pos e2]
      have := Giv.fidx_hit (p := colP nm) (List.getElem?_eq_getElem hi) e (fun j x hj hx => by
        obtain ⟨h1, rfl⟩ := List.getElem?_eq_some_iff.1 hx
        exact hc j h1 hj)
      unfold colAt
      rw [this]
    | false =>
      refine Ev.step (fun k => ?_) (ih (fun j h hj => ?_))
      · simp only [spec_FindColumn.l0]
        have e2 : ¬ l[i].f0.toList = nm.toList := by unfold colP at e; simpa using e
        rw [if_pos (by omega), if_pos (by omega), rdColumn hi, if_neg e2, wS hi (by omega)]
      · by_cases hji : j = i
        · subst hji; exact e
        · exact hc j h (by omega)
  · intro hc
    refine ev_const (fun k => ?_)
    simp only [spec_FindColumn.l0]
    rw [if_neg (by omega)]
    unfold colAt
    rw [Giv.fidx_miss (fun j x hj hx => by
      obtain ⟨h1, rfl⟩ := List.getElem?_eq_some_iff.1 hx
      exact hc j h1 h1)]

theorem colAt_lt (l : List S58) (nm : ByteArray) : colAt l nm < (l.length : Int) := by
  unfold colAt Giv.fidx
  cases h : l.findIdx? (colP nm) with
  | none => show (-1 : Int) < _; omega
  | some i =>
    obtain ⟨h1, _⟩ := List.findIdx?_eq_some_iff_getElem.1 h
    show (i : Int) < _
    omega
theorem columnOf_same (l : List S58) (nm : ByteArray) (hl : l.length ≤ 1048576) (hz : ∀ z ∈ l, z.f0.size ≤ 1048576 ∧ z.f1.length ≤ 1048576) : ∃ a b, Ev (fun k => spec_ColumnOf.f k l nm) (a, b) ∧ Ev (fun k => impl_ColumnOf.f k l nm) (a, b) ∧ a.length ≤ 1048576 := by
  unfold spec_ColumnOf.f impl_ColumnOf.f
  have hs := specIsTable_ev l (by omega) hz
  have hi := implIsTable_ev l (by omega) hz
  have hf := specFindColumn_ev l nm (by omega)
  have hlt := colAt_lt l nm
  cases hc : isT l with
  | false =>
    rw [hc] at hs hi
    exact ⟨[], false, Ev.bind hf (Ev.bind hs (ev_ifn (by simp) (ev_some _))), ev_pure (implFindColumn l nm) (Ev.bind hi (ev_ifn (by simp) (ev_some _))), by simp⟩
  | true =>
    rw [hc] at hs hi
    by_cases h0 : colAt l nm < 0
    · exact ⟨[], false, Ev.bind hf (Ev.bind hs (ev_ifp rfl (ev_ifp h0 (ev_some _)))), ev_pure (implFindColumn l nm) (Ev.bind hi (ev_ifp rfl (ev_ifp h0 (ev_some _)))), by simp⟩
    · obtain ⟨i, hi0⟩ : ∃ i : Nat, colAt l nm = (i : Int) := ⟨(colAt l nm).toNat, by omega⟩
      have hil : i < l.length := by omega
      have hb := (hz l[i] (List.getElem_mem hil)).2
      have hr : rd_T58 l (colAt l nm) = l[i] := by rw [hi0]; exact rdColumn hil
      refine ⟨(l[i]).f1, true, Ev.bind hf (Ev.bind hs (ev_ifp rfl (ev_ifn h0 (ev_pure rfl (ev_ifp (by omega) (ev_ifp (by omega) (ev_ifp (by rw [hr]; simp; omega) ?_))))))), ev_pure (implFindColumn l nm) (Ev.bind hi (ev_ifp rfl (ev_ifn h0 (ev_ifp (by omega) (ev_ifp (by omega) ?_))))), hb⟩
      · rw [hr]
        exact ev_some _
      · rw [hr]
        refine ev_pure (a := (l[i]).f1) (by unfold slices_Clone_int_int.f; rw [if_pos (by omega)]) (ev_some _)

def isR (a b : Int) : Bool := decide (-1000 ≤ a ∧ a ≤ b ∧ b ≤ 1000)
theorem specIsRange (a b : Int) : spec_IsRange.f a b = some (isR a b) := by
  unfold spec_IsRange.f spec_l1In.f isR
  by_cases h1 : a ≥ -1000 <;> by_cases h2 : a ≤ 1000 <;> by_cases h3 : b ≥ a <;> by_cases h4 : b ≤ 1000 <;> simp [h1, h2, h3, h4] <;> omega
theorem implIsRange (a b : Int) : impl_IsRange.f a b = some (isR a b) := by
  unfold impl_IsRange.f isR
  by_cases h1 : -1000 ≤ a <;> by_cases h3 : a ≤ b <;> by_cases h4 : b ≤ 1000 <;> simp [h1, h3, h4]

def inR (a b v : Int) : Bool := isR a b && decide (a ≤ v ∧ v < b)
theorem specInRange (a b v : Int) : spec_InRange.f a b v = some (inR a b v) := by
  unfold spec_InRange.f inR
  rw [specIsRange, Option.bind_some]
  cases h : isR a b with
  | false => rfl
  | true =>
    have hb : -1000 ≤ a ∧ a ≤ b ∧ b ≤ 1000 := by unfold isR at h; simpa using h
    rw [if_pos rfl, w64 (n := b - 1) (by omega) (by omega)]
    unfold spec_l1In.f
    by_cases h1 : v ≥ a
    · rw [if_pos h1, Option.bind_some, Bool.true_and]
      congr 1
      have : a ≤ v := h1
      by_cases h2 : v < b
      · simp [this, h2]; omega
      · simp [h2]; omega
    · rw [if_neg h1, Option.bind_some, Bool.true_and]
      have : ¬ (a ≤ v ∧ v < b) := fun h => h1 h.1
      simp [this]
theorem implInRange (a b v : Int) : impl_InRange.f a b v = some (inR a b v) := by
  unfold impl_InRange.f inR
  rw [implIsRange, Option.bind_some]
  cases h : isR a b with
  | false => rfl
  | true =>
    rw [if_pos rfl, Bool.true_and]
    by_cases h1 : a ≤ v
    · rw [if_pos h1]; simp [h1]
    · rw [if_neg h1]; simp [h1]

theorem sameInts_ev (l m : List Int) (hl : l.length ≤ 4611686018427387904) : Ev (fun k => laws_sameInts.f k l m) (decide (l = m)) := by
  unfold laws_sameInts.f
  by_cases hlm : l.length = m.length
  · refine ev_ifp (by omega) ?_
    refine loop_ev l.length (fun i => ∀ j (h : j < l.length), j < i → l[j] = m[j]'(by omega)) (fun k i => laws_sameInts.l0 k l m (i : Int)) (decide (l = m)) (fun j _ h => absurd h (Nat.not_lt_zero _)) ?_ ?_
    · intro i hi hc ih
      have hi2 : i < m.length := by omega
      by_cases e : l[i] = m[i]
      · refine Ev.step (fun k => ?_) (ih (fun j h hj => ?_))
        · simp only [laws_sameInts.l0]
          simp only [if_pos (show (i : Int) < (l.length : Int) by omega), if_pos (show (0 : Int) ≤ (i : Int) by omega), if_pos (show (i : Int) < (m.length : Int) by omega), rd_nat hi, rd_nat hi2, if_pos e, wS hi (by omega)]
        · by_cases hji : j = i
          · subst hji; exact e
          · exact hc j h (by omega)
      · refine ev_const (fun k => ?_)
        simp only [laws_sameInts.l0]
        simp only [if_pos (show (i : Int) < (l.length : Int) by omega), if_pos (show (0 : Int) ≤ (i : Int) by omega), if_pos (show (i : Int) < (m.length : Int) by omega), rd_nat hi, rd_nat hi2, if_neg e]
        have : l ≠ m := fun hh => e (by subst hh; rfl)
        simp [this]
    · intro hc
      refine ev_const (fun k => ?_)
      simp only [laws_sameInts.l0]
      rw [if_neg (by omega)]
      have : l = m := List.ext_getElem hlm (fun j h1 h2 => hc j h1 h1)
      simp [this]
  · refine ev_ifn (by omega) ?_
    have : l ≠ m := fun hh => hlm (by rw [hh])
    exact ev_eq (ev_some _) (by simp [this])

def met (a b c d : Int) : Int × Int := if isR a b = true then (if isR c d = true then (mx a c, mx (mx a c) (mn b d)) else (0, 0)) else (0, 0)
theorem specMet (a b c d : Int) : spec_MeetRanges.f a b c d = some (met a b c d) := by
  unfold spec_MeetRanges.f met
  rw [specIsRange, specIsRange]
  cases isR a b <;> cases isR c d <;> simp
theorem implMet (a b c d : Int) : impl_MeetRanges.f a b c d = some (met a b c d) := by
  unfold impl_MeetRanges.f met
  rw [implIsRange, implIsRange]
  cases isR a b <;> cases isR c d <;> simp
theorem inR_met (a b c d v : Int) (h1 : isR a b = true) (h2 : isR c d = true) : inR (met a b c d).1 (met a b c d).2 v = (inR a b v && inR c d v) := by
  unfold met
  rw [if_pos h1, if_pos h2]
  unfold inR
  rw [h1, h2]
  unfold isR at h1 h2
  rw [decide_eq_true_eq] at h1 h2
  have e1 : mx a c = a ∧ c ≤ a ∨ mx a c = c ∧ a < c := by unfold mx; split <;> omega
  have e2 : mn b d = b ∧ b ≤ d ∨ mn b d = d ∧ d < b := by unfold mn; split <;> omega
  have e3 : mx (mx a c) (mn b d) = mx a c ∧ mn b d ≤ mx a c ∨ mx (mx a c) (mn b d) = mn b d ∧ mx a c < mn b d := by
    generalize mx a c = p; generalize mn b d = q; unfold mx; split <;> omega
  generalize mx (mx a c) (mn b d) = y at *
  generalize mx a c = x at *
  generalize mn b d = z at *
  have hr : isR x y = true := by unfold isR; rw [decide_eq_true_eq]; omega
  rw [hr, Bool.true_and, Bool.true_and, Bool.true_and, ← Bool.decide_and]
  exact decide_eq_decide.2 ⟨fun _ => by omega, fun _ => by omega⟩
def rowC (l : List S58) : Int := if isT l = true then ((rd_T58 l 0).f1.length : Int) else 0
theorem rowC_ev (l : List S58) (hl : l.length ≤ 1048576) (hz : ∀ z ∈ l, z.f0.size ≤ 1048576 ∧ z.f1.length ≤ 1048576) : Ev (fun k => spec_RowCount.f k l) (rowC l) ∧ Ev (fun k => impl_RowCount.f k l) (rowC l) := by
  have hs := specIsTable_ev l (by omega) hz
  have hi := implIsTable_ev l (by omega) hz
  unfold spec_RowCount.f impl_RowCount.f rowC
  by_cases c : isT l = true
  · obtain ⟨b1, _⟩ := tab_bounds c
    rw [if_pos c]
    exact ⟨Ev.bind hs (ev_ifp c (ev_ifp (by omega) (ev_some _))), Ev.bind hi (ev_ifp c (ev_ifp (by omega) (ev_some _)))⟩
  · rw [if_neg c]
    exact ⟨Ev.bind hs (ev_ifn c (ev_some _)), Ev.bind hi (ev_ifn c (ev_some _))⟩
theorem dTable_ok (b : List Int) (hb : b.length ≤ 1048576) : ∃ T, Ev (fun k => spec_DrawFormatTable.f k b) T ∧ (∀ z ∈ T, z.f0.size ≤ 1000 ∧ z.f1.length ≤ 10000) ∧ T.length ≤ 3 := by
  obtain ⟨h, e⟩ := new_ok b hb
  obtain ⟨T, i1, h1, e1, g1, k1⟩ := any_ok b hb 0 h (by omega)
  unfold spec_DrawFormatTable.f
  exact ⟨T, Ev.bind e (Ev.bind e1 (ev_some _)), g1⟩
theorem dColumn_ok (b : List Int) (hb : b.length ≤ 1048576) : ∃ T s, Ev (fun k => spec_DrawColumnOf.f k b) (T, s) ∧ (∀ z ∈ T, z.f0.size ≤ 1000 ∧ z.f1.length ≤ 10000) ∧ T.length ≤ 3 := by
  obtain ⟨h, e⟩ := new_ok b hb
  obtain ⟨T, i1, h1, e1, g1, k1⟩ := any_ok b hb 0 h (by omega)
  obtain ⟨n, i2, h2, e2, g2, k2⟩ := pick_ok b i1 h1 [(⟨#[97]⟩ : ByteArray), (⟨#[98]⟩ : ByteArray), (⟨#[99]⟩ : ByteArray), (⟨#[112, 114, 105, 99, 101]⟩ : ByteArray), (⟨#[]⟩ : ByteArray)] k1 hb (by decide) (by decide)
  unfold spec_DrawColumnOf.f
  exact ⟨T, _, Ev.bind e (Ev.bind e1 (ev_pure e2 (ev_some _))), g1⟩
theorem dRange_ok (b : List Int) (hb : b.length ≤ 1048576) : ∃ x y, Ev (fun k => spec_DrawFormatRange.f k b) (x, y) := by
  obtain ⟨h, e⟩ := new_ok b hb
  obtain ⟨x, y, i1, h1, e1, g1, k1⟩ := l3Any_ok b hb 0 h (by omega)
  unfold spec_DrawFormatRange.f
  exact ⟨x, y, Ev.bind e (ev_pure e1 (ev_some _))⟩
theorem dMeet_ok (b : List Int) (hb : b.length ≤ 1048576) : ∃ x y z w, Ev (fun k => spec_DrawMeetRanges.f k b) (x, y, z, w) := by
  obtain ⟨h, e⟩ := new_ok b hb
  obtain ⟨x, y, i1, h1, e1, g1, k1⟩ := l3Any_ok b hb 0 h (by omega)
  obtain ⟨z, w, i2, h2, e2, g2, k2⟩ := l3Any_ok b hb i1 h1 k1
  unfold spec_DrawMeetRanges.f
  exact ⟨x, y, z, w, Ev.bind e (ev_pure e1 (ev_pure e2 (ev_some _)))⟩
theorem dIn_ok (b : List Int) (hb : b.length ≤ 1048576) : ∃ x y n, Ev (fun k => spec_DrawInRange.f k b) (x, y, n) ∧ -2000 ≤ n ∧ n ≤ 2000 := by
  obtain ⟨h, e⟩ := new_ok b hb
  obtain ⟨x, y, i1, h1, e1, g1, k1⟩ := l3Any_ok b hb 0 h (by omega)
  obtain ⟨z, i2, h2, e2, g2, k2⟩ := below_ok b i1 h1 20 k1 hb
  have hz := g2.2.1 (by omega)
  unfold spec_DrawInRange.f
  refine ⟨x, y, _, Ev.bind e (ev_pure e1 (ev_pure e2 (ev_some _))), ?_⟩
  dsimp only
  rw [w64 (n := x + z) (by omega) (by omega), w64 (n := x + z - 5) (by omega) (by omega)]
  omega
theorem end_ok (a0 : List Int) (hb : a0.length ≤ 1048576) (n v p q r s x y : Int) (hv : ¬ v ≤ wrap64 (n + 3)) : Ev (fun k => laws_FnTexts.l0 k a0 n v p q r s (met p q r s).1 (met p q r s).2 x y) true := by
  obtain ⟨W, nm, dC, hz, h3⟩ := dColumn_ok a0 hb
  have hz' : ∀ z ∈ W, z.f0.size ≤ 1048576 ∧ z.f1.length ≤ 1048576 := fun z h => by have := hz z h; omega
  obtain ⟨A, B, c1, c2, hA⟩ := columnOf_same W nm (by omega) hz'
  obtain ⟨r1, r2⟩ := rowC_ev W (by omega) hz'
  have hf := specFindColumn_ev W nm (by omega)
  apply Ev.step
  · intro k; simp only [laws_FnTexts.l0]; rfl
  refine ev_ifn hv (Ev.bind dC (Ev.bind c2 (Ev.bind c1 (ev_pure (specMet p q r s) (ev_ifp (by simp) (ev_pure (implInRange x y n) (ev_pure (specInRange x y n) (ev_ifp (by simp) (ev_ifp (by simp) ?_)))))))))
  refine Ev.bind (sameInts_ev A A (by omega)) (ev_ifp (by simp) (Ev.bind r2 (Ev.bind r1 (ev_ifp rfl (ev_pure (implFindColumn W nm) (Ev.bind hf ?_))))))
  exact ev_eq (ev_some _) (by simp)
theorem l0_ok (a0 : List Int) (hb : a0.length ≤ 1048576) (n p q r s x y : Int) (hn : -2000 ≤ n ∧ n ≤ 2000) : ∀ (d : Nat) (v : Int), n + 4 - v ≤ (d : Int) → -3000 ≤ v → v ≤ 3000 → Ev (fun k => laws_FnTexts.l0 k a0 n v p q r s (met p q r s).1 (met p q r s).2 x y) true := by
  intro d
  induction d with
  | zero =>
    intro v hd h0 h1
    exact end_ok a0 hb n v p q r s x y (by rw [w64 (by omega) (by omega)]; omega)
  | succ d ih =>
    intro v hd h0 h1
    by_cases hv : v ≤ wrap64 (n + 3)
    · rw [w64 (by omega) (by omega)] at hv
      have hw : wrap64 (v + 1) = v + 1 := w64 (by omega) (by omega)
      have h := ih (v + 1) (by omega) (by omega) (by omega)
      apply Ev.step
      · intro k; simp only [laws_FnTexts.l0]; rfl
      refine ev_ifp (by rw [w64 (by omega) (by omega)]; omega) (ev_pure (specIsRange p q) ?_)
      rw [hw]
      by_cases c1 : isR p q = true
      · refine ev_ifp c1 (ev_pure (specIsRange r s) ?_)
        by_cases c2 : isR r s = true
        · refine ev_ifp c2 (ev_pure (implInRange _ _ v) (ev_pure (specInRange p q v) ?_))
          rw [inR_met p q r s v c1 c2]
          by_cases c3 : inR p q v = true
          · refine ev_ifp c3 (ev_pure (specInRange r s v) (ev_ifn ?_ h))
            rw [c3]; simp
          · refine ev_ifn c3 (ev_ifn ?_ h)
            rw [Bool.not_eq_true] at c3
            rw [c3]; simp
        · exact ev_ifn c2 h
      · exact ev_ifn c1 h
    · exact end_ok a0 hb n v p q r s x y hv
theorem j0_ok (a0 : List Int) (hb : a0.length ≤ 1048576) (f : Bool) (hf : f = false) : Ev (fun k => laws_FnTexts.j0 k a0 f) true := by
  subst hf
  obtain ⟨p, q, r, s, dM⟩ := dMeet_ok a0 hb
  obtain ⟨x, y, n, dI, hn⟩ := dIn_ok a0 hb
  have h := l0_ok a0 hb n p q r s x y hn 7 (n - 3) (by omega) (by omega) (by omega)
  apply Ev.step
  · intro k; simp only [laws_FnTexts.j0]; rfl
  refine ev_ifn (by simp) (Ev.bind dM (ev_pure (implMet p q r s) (Ev.bind dI ?_)))
  dsimp only
  rw [w64 (n := n - 3) (by omega) (by omega)]
  exact h


end Go.Proofs.YtfjanffppobheaaGreatDoor.Pure.FnTexts
namespace Go.Proofs.YtfjanffppobheaaGreatDoor.Pure
open Go.RowKit Go.Proofs.YtfjanffppobheaaGreatDoor.PFnTexts Go.Proofs.YtfjanffppobheaaGreatDoorW.PrintWords Go.Proofs.YtfjanffppobheaaGreatDoorW.PrintLast Go.Proofs.YtfjanffppobheaaGreatDoorW.PrintMore Go.Proofs.YtfjanffppobheaaGreatDoor.B Go.Proofs.YtfjanffppobheaaGreatDoor.Pure.FnTexts
theorem FnTexts : laws_FnTexts.Pure := by
  intro a0 _ _ _
  refine Ev.rounds (g := fun k => laws_FnTexts.f k a0) ?_
  unfold laws_FnTexts.f laws_big.f
  by_cases c : (a0.length : Int) > 1048576
  · exact ev_pure rfl (ev_ifp (by simpa using c) (ev_some _))
  refine ev_pure rfl (ev_ifn (by simpa using c) ?_)
  have hb : a0.length ≤ 1048576 := by omega
  obtain ⟨T, dT, hz, hT3⟩ := dTable_ok a0 hb
  have hz' : ∀ z ∈ T, z.f0.size ≤ 1048576 ∧ z.f1.length ≤ 1048576 := fun z h => by have := hz z h; omega
  obtain ⟨s1, s2⟩ := table_text T (by omega) hz'
  have st := specIsTable_ev T (by omega) hz'
  have hlen := fmtL_len T
  have p := parI_ev (bs (fmtL T)) (by rw [bs_size]; omega)
  rw [bs_list, parI_fmt] at p
  obtain ⟨x, y, dR⟩ := dRange_ok a0 hb
  have hrl := rangeText_len x y
  have pr := range_pimpl (bs (rangeText x y)) (by rw [bs_size]; omega)
  rw [bs_list, rangeOf_text] at pr
  have J := fun f hf => j0_ok a0 hb f hf
  have tail : Ev (fun k => (spec_IsRange.f x y).bind fun t487 => (if ((if (-1000 ≤ x ∧ x ≤ y ∧ y ≤ 1000) then (x, y, true) else (0, 0, false) : Int × Int × Bool).2.2 != t487) = true then (none) else (
      if (if (-1000 ≤ x ∧ x ≤ y ∧ y ≤ 1000) then (x, y, true) else (0, 0, false) : Int × Int × Bool).2.2 = true then (laws_FnTexts.j0 k a0 (!((if (-1000 ≤ x ∧ x ≤ y ∧ y ≤ 1000) then (x, y, true) else (0, 0, false) : Int × Int × Bool).1 == x) || (!((if (-1000 ≤ x ∧ x ≤ y ∧ y ≤ 1000) then (x, y, true) else (0, 0, false) : Int × Int × Bool).2.1 == y)))) else (laws_FnTexts.j0 k a0 false)))) true := by
    refine ev_pure (range_spec x y) ?_
    by_cases hv : -1000 ≤ x ∧ x ≤ y ∧ y ≤ 1000
    · rw [if_pos hv]
      exact ev_ifn (by simp [hv]) (ev_ifp rfl (J _ (by simp)))
    · rw [if_neg hv]
      exact ev_ifn (by simp [hv]) (ev_ifn (by simp) (J _ rfl))
  refine Ev.bind dT (Ev.bind s2 (Ev.bind p (Ev.bind dR (ev_pure (fmtRange_impl x y) (ev_pure pr (Ev.bind s1 (ev_ifp rfl (Ev.bind st ?_))))))))
  by_cases hT : isT T = true
  · rw [if_pos hT]
    exact ev_ifn (by simp [hT]) (ev_ifp rfl (Ev.bind s2 (ev_ifp rfl tail)))
  · rw [if_neg hT]
    exact ev_ifn (by simp [hT]) (ev_ifn (by simp) tail)

end Go.Proofs.YtfjanffppobheaaGreatDoor.Pure
