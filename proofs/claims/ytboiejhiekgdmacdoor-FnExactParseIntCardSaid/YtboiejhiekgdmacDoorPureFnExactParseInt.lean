/- ParseInt of the program returns what the reference returns, for every text. No condition of ours. -/
import Derived.Test.YtboiejhiekgdmacDoorPFnExactParseIntx0
import Derived.Test.YtboiejhiekgdmacDoorPFnExactParseIntx1
import Derived.Test.YtboiejhiekgdmacDoorB
set_option linter.unusedVariables false
set_option linter.unusedSimpArgs false
namespace Go.Proofs.YtboiejhiekgdmacDoor.Pure.FnExactParseInt
open Go.RowKit Go.Proofs.YtboiejhiekgdmacDoor.PFnExactParseInt Go.Proofs.YtboiejhiekgdmacDoorW.PrintWords Go.Proofs.YtboiejhiekgdmacDoorW.PrintLast Go.Proofs.YtboiejhiekgdmacDoorW.PrintMore Go.Proofs.YtboiejhiekgdmacDoor.B

/-- The decimal digits of a number that is not 0; none for 0. -/
def digs (u : Nat) : List UInt8 := if u = 0 then [] else Lib.decDigits u
theorem digs_step {u : Nat} (h : 0 < u) : digs u = digs (u / 10) ++ [UInt8.ofNat (48 + u % 10)] := by
  unfold digs
  rw [if_neg (by omega), Lib.decDigits]
  by_cases h10 : u < 10
  · rw [dif_pos h10, if_pos (by omega), show u % 10 = u by omega]; rfl
  · rw [dif_neg h10, if_neg (by omega)]
theorem digs_len (u : Nat) : (digs u).length ≤ 1 + u / 10 := by
  induction u using Nat.strongRecOn with
  | _ u ih =>
    by_cases h : u = 0
    · subst h; simp [digs]
    · rw [digs_step (by omega), List.length_append, List.length_singleton]
      by_cases h10 : u < 10
      · have : u / 10 = 0 := by omega
        rw [this]; simp [digs]
      · have := ih (u / 10) (by omega); omega
def sgnB (b : Bool) : List UInt8 := if b then [45] else []
theorem ofInt_byte (m : Nat) (h : m < 10) : (wrap64 (48 + (m : Int))) % 256 = ((48 + m : Nat) : Int) := by
  rw [w64 (by omega) (by omega)]; omega
theorem str_one (m : Nat) (h : m < 10) (s : List UInt8) : strOfNums [((48 + m : Nat) : Int)] ++ (⟨s.toArray⟩ : ByteArray) = ⟨(UInt8.ofNat (48 + m) :: s).toArray⟩ := by
  apply ByteArray.ext
  rw [ByteArray.data_append]
  show (strOfNums [((48 + m : Nat) : Int)]).data ++ s.toArray = (UInt8.ofNat (48 + m) :: s).toArray
  rw [show (strOfNums [((48 + m : Nat) : Int)]).data = #[UInt8.ofNat (48 + m)] from rfl]
  simp
theorem fmt_loop (u : Nat) : ∀ (x : Int) (s : List UInt8) (neg : Bool), x.natAbs = u → -9223372036854775808 ≤ x → x ≤ 9223372036854775807 → s.length + (digs u).length ≤ 922337203685477600 →
    Ev (fun k => spec_FormatInt.l0 k x ⟨s.toArray⟩ neg) ⟨(sgnB neg ++ (digs u ++ s)).toArray⟩ := by
  induction u using Nat.strongRecOn with
  | _ u ih =>
    intro x s neg hu hl hh hs
    have hsz : (⟨s.toArray⟩ : ByteArray).size = s.length := by simp [ByteArray.size]
    by_cases h0 : x = 0
    · subst h0
      have : u = 0 := by omega
      subst this
      refine ev_const (fun k => ?_)
      simp only [spec_FormatInt.l0]
      rw [if_pos trivial, hsz]
      cases neg with
      | true =>
        rw [if_pos rfl, if_pos (by simp [digs] at hs; omega)]
        congr 1
      | false => rw [if_neg (by simp)]; simp [sgnB, digs]
    · have hu0 : 0 < u := by omega
      have hm : (Int.tmod x 10 < 0 → -(Int.tmod x 10) = ((u % 10 : Nat) : Int)) ∧ (¬ Int.tmod x 10 < 0 → Int.tmod x 10 = ((u % 10 : Nat) : Int)) := by
        have := tmod_cases x 10
        by_cases hx : 0 ≤ x
        · have := this.1 hx; omega
        · have := this.2 (by omega); omega
      have hd : (Int.tdiv x 10).natAbs = u / 10 ∧ -9223372036854775808 ≤ Int.tdiv x 10 ∧ Int.tdiv x 10 ≤ 9223372036854775807 := by
        have := tdiv_cases x 10
        by_cases hx : 0 ≤ x
        · have := this.1 hx; omega
        · have := this.2 (by omega); omega
      have hst := digs_step hu0
      have hlen : (digs u).length = (digs (u / 10)).length + 1 := by rw [hst]; simp
      have h := ih (u / 10) (by omega) (Int.tdiv x 10) (UInt8.ofNat (48 + u % 10) :: s) neg hd.1 hd.2.1 hd.2.2 (by simp; omega)
      refine ev_eq (Ev.step (fun k => ?_) h) (by rw [hst, List.append_assoc]; rfl)
      simp only [spec_FormatInt.l0]
      rw [if_neg h0, w64 (n := Int.tdiv x 10) hd.2.1 (by omega)]
      by_cases ht : Int.tmod x 10 < 0
      · rw [if_pos ht, hm.1 ht, Option.bind_some, w64 (n := ((u % 10 : Nat) : Int)) (by omega) (by omega), ofInt_byte _ (by omega), if_pos (by rw [strOfNums_size, hsz]; simp; omega), str_one _ (by omega)]
      · rw [if_neg ht, hm.2 ht, Option.bind_some, ofInt_byte _ (by omega), if_pos (by rw [strOfNums_size, hsz]; simp; omega), str_one _ (by omega)]
theorem fmt_spec (n : Int) (h0 : -9223372036854775808 ≤ n) (h1 : n ≤ 9223372036854775807) : Ev (fun k => spec_FormatInt.f k n) ⟨(Lib.itoa n).toArray⟩ := by
  unfold spec_FormatInt.f
  by_cases hz : n = 0
  · subst hz
    exact ev_ifp rfl (ev_eq (ev_some _) (by decide +kernel))
  · refine ev_ifn hz ?_
    have h := fmt_loop n.natAbs n [] (decide (n < 0)) rfl h0 h1 (by have := digs_len n.natAbs; simp; omega)
    have hne : n.natAbs ≠ 0 := by omega
    have hd : digs n.natAbs = Lib.decDigits n.natAbs := if_neg hne
    have e : (sgnB (decide (n < 0)) ++ (digs n.natAbs ++ [])) = Lib.itoa n := by
      rw [List.append_nil, hd]
      unfold Lib.itoa
      by_cases hn : n < 0
      · rw [decide_eq_true hn, if_pos hn]; rfl
      · rw [decide_eq_false hn, if_neg hn, show n.natAbs = n.toNat by omega]; rfl
    rw [e] at h
    exact h
theorem fmt_impl (n : Int) (h0 : -9223372036854775808 ≤ n) (h1 : n ≤ 9223372036854775807) : impl_FormatInt.f n = some ⟨(Lib.itoa n).toArray⟩ := by
  unfold impl_FormatInt.f strconv_Itoa.f
  rw [if_pos ⟨h0, h1⟩]
  rfl

def bs (l : List UInt8) : ByteArray := ⟨l.toArray⟩
theorem bs_app (a b : List UInt8) : bs a ++ bs b = bs (a ++ b) := by
  apply ByteArray.ext
  rw [ByteArray.data_append]
  simp [bs]
theorem bs_size (a : List UInt8) : (bs a).size = a.length := by simp [bs, ByteArray.size]

/-- One byte of a numeral: the number and the count of digits so far. -/
def dstep (p : Nat × Nat) (b : UInt8) : Nat × Nat := if 48 ≤ b.toNat ∧ b.toNat ≤ 57 then (p.1 * 10 + (b.toNat - 48), p.2 + 1) else p
theorem dfold_bound : ∀ (l : List UInt8) (p : Nat × Nat), p.1 < 10 ^ p.2 → (l.foldl dstep p).1 < 10 ^ (l.foldl dstep p).2
  | [], p, h => h
  | b :: r, p, h => by
    rw [List.foldl_cons]
    refine dfold_bound r _ ?_
    unfold dstep
    by_cases hb : 48 ≤ b.toNat ∧ b.toNat ≤ 57
    · rw [if_pos hb]
      show p.1 * 10 + (b.toNat - 48) < 10 ^ (p.2 + 1)
      rw [Nat.pow_succ]; omega
    · rw [if_neg hb]; exact h
theorem dfold_count : ∀ (l : List UInt8) (p : Nat × Nat), (l.foldl dstep p).2 ≤ p.2 + l.length
  | [], p => by simp
  | b :: r, p => by
    rw [List.foldl_cons]
    have := dfold_count r (dstep p b)
    have h2 : (dstep p b).2 ≤ p.2 + 1 := by unfold dstep; split <;> simp
    rw [List.length_cons]; omega
theorem digit_nat (d : Nat) (h : d < 10) : (UInt8.ofNat (48 + d)).toNat = 48 + d := by
  simp [UInt8.toNat_ofNat']; omega
theorem digs_fold (u : Nat) : ∀ p : Nat × Nat, (digs u).foldl dstep p = (p.1 * 10 ^ (digs u).length + u, p.2 + (digs u).length) := by
  induction u using Nat.strongRecOn with
  | _ u ih =>
    intro p
    by_cases h : u = 0
    · subst h; simp [digs]
    · rw [digs_step (by omega), List.foldl_append, ih (u / 10) (by omega) p, List.length_append, List.length_singleton, List.foldl_cons, List.foldl_nil]
      unfold dstep
      rw [digit_nat _ (by omega), if_pos (by omega), Nat.pow_succ]
      refine Prod.ext ?_ ?_
      · show (p.1 * 10 ^ (digs (u / 10)).length + u / 10) * 10 + (48 + u % 10 - 48) = p.1 * (10 ^ (digs (u / 10)).length * 10) + u
        rw [Nat.add_mul, Nat.mul_assoc]; omega
      · show p.2 + (digs (u / 10)).length + 1 = p.2 + ((digs (u / 10)).length + 1)
        omega
theorem digs_small (k : Nat) : ∀ u, u < 10 ^ k → (digs u).length ≤ k := by
  induction k with
  | zero => intro u h; have : u = 0 := by simpa using h
            subst this; simp [digs]
  | succ k ih =>
    intro u h
    by_cases h0 : u = 0
    · subst h0; simp [digs]
    · rw [digs_step (by omega), List.length_append, List.length_singleton]
      have := ih (u / 10) (by rw [Nat.pow_succ] at h; omega)
      omega
theorem digs_dec (u : Nat) : ∀ acc, Lib.decFrom acc (digs u) = some (acc * 10 ^ (digs u).length + u) := by
  induction u using Nat.strongRecOn with
  | _ u ih =>
    intro acc
    by_cases h : u = 0
    · subst h; simp [digs, Lib.decFrom]
    · have happ : ∀ (l : List UInt8) (acc : Nat) (r : Nat) (d : Nat), d < 10 → Lib.decFrom acc l = some r → Lib.decFrom acc (l ++ [UInt8.ofNat (48 + d)]) = some (r * 10 + d) := by
        intro l
        induction l with
        | nil =>
          intro acc r d hd hr
          obtain rfl := Option.some.inj hr
          simp only [List.nil_append, Lib.decFrom, Lib.digitVal]
          rw [digit_nat d hd, if_pos (by omega)]
          simp
        | cons b t ih2 =>
          intro acc r d hd hr
          simp only [List.cons_append, Lib.decFrom] at hr ⊢
          cases hq : Lib.digitVal b with
          | none => rw [hq] at hr; cases hr
          | some q => rw [hq] at hr; exact ih2 _ _ _ hd hr
      rw [digs_step (by omega), happ _ _ _ _ (by omega) (ih (u / 10) (by omega) acc), List.length_append, List.length_singleton, Nat.pow_succ]
      congr 1
      rw [Nat.add_mul, Nat.mul_assoc]; omega
theorem digs_head (u : Nat) : ∀ b r, digs u = b :: r → 48 ≤ b.toNat ∧ b.toNat ≤ 57 := by
  induction u using Nat.strongRecOn with
  | _ u ih =>
    intro b r h
    by_cases h0 : u = 0
    · subst h0; simp [digs] at h
    · rw [digs_step (by omega)] at h
      cases hq : digs (u / 10) with
      | nil =>
        rw [hq] at h
        obtain ⟨rfl, _⟩ := List.cons.inj h
        rw [digit_nat _ (by omega)]; omega
      | cons c t =>
        rw [hq] at h
        obtain ⟨rfl, _⟩ := List.cons.inj h
        by_cases h1 : u / 10 < u
        · exact ih (u / 10) h1 _ _ hq
        · omega
theorem itoa_pos {n : Int} (h : 0 < n) : Lib.itoa n = digs n.natAbs := by
  unfold Lib.itoa digs
  rw [if_neg (by omega), if_neg (by omega), show n.toNat = n.natAbs by omega]
theorem itoa_neg {n : Int} (h : n < 0) : Lib.itoa n = 45 :: digs n.natAbs := by
  unfold Lib.itoa digs
  rw [if_pos h, if_neg (by omega)]
/-- A small number's numeral is read back. -/
theorem atoi_itoa {n : Int} (h0 : -999999999 ≤ n) (h1 : n ≤ 999999999) : Lib.atoiAll (Lib.itoa n) = .ok n ∧ (Lib.itoa n).length ≤ 10 ∧
    ((Lib.itoa n).foldl dstep (0, 0)).2 ≤ 9 ∧ (if (Lib.itoa n).head? = some 45 then -((((Lib.itoa n).foldl dstep (0, 0)).1 : Nat) : Int) else ((((Lib.itoa n).foldl dstep (0, 0)).1 : Nat) : Int)) = n := by
  by_cases hz : n = 0
  · subst hz; decide +kernel
  have hl := digs_small 9 n.natAbs (by omega)
  have hne : digs n.natAbs ≠ [] := by rw [digs_step (by omega)]; simp
  have hdn : Lib.decNat (digs n.natAbs) = some n.natAbs := by
    unfold Lib.decNat
    rw [if_neg (by simpa using hne), digs_dec]; simp
  by_cases hn : n < 0
  · rw [itoa_neg hn]
    have hlen : (45 :: digs n.natAbs).length ≤ 10 := by rw [List.length_cons]; omega
    refine ⟨?_, hlen, ?_, ?_⟩
    · rw [Lib.atoiAll_short _ (by omega)]
      unfold Lib.atoi
      simp only [hdn]
      show Lib.NumEnd.ok (-(n.natAbs : Int)) = _
      congr 1; omega
    · rw [List.foldl_cons, show dstep (0, 0) 45 = (0, 0) from by decide, digs_fold]; show 0 + _ ≤ 9; omega
    · rw [List.foldl_cons, show dstep (0, 0) 45 = (0, 0) from by decide, digs_fold, if_pos (show (45 :: digs n.natAbs).head? = some 45 from rfl)]; show -(((0 * _ + n.natAbs : Nat)) : Int) = n; rw [Nat.zero_mul]; omega
  · rw [itoa_pos (by omega)]
    obtain ⟨b, r, hb⟩ : ∃ b r, digs n.natAbs = b :: r := by cases hq : digs n.natAbs with | nil => exact absurd hq hne | cons b r => exact ⟨b, r, rfl⟩
    have hbb := digs_head _ _ _ hb
    have n45 : b ≠ 45 := by intro e; subst e; revert hbb; decide
    have n43 : b ≠ 43 := by intro e; subst e; revert hbb; decide
    refine ⟨?_, by omega, ?_, ?_⟩
    · rw [Lib.atoiAll_short _ (by omega)]
      rw [hb] at hdn ⊢
      unfold Lib.atoi
      simp only [hdn, beq_iff_eq, n45, n43, if_false]
      show Lib.NumEnd.ok (n.natAbs : Int) = _
      congr 1; omega
    · rw [digs_fold]; show 0 + _ ≤ 9; omega
    · rw [if_neg (by rw [hb]; simpa using n45), digs_fold]; show (((0 * _ + n.natAbs : Nat)) : Int) = n; rw [Nat.zero_mul]; omega
/-- What the reference answers. -/
def numOf (l : List UInt8) : Int := if l.head? = some 45 then -((((l.take 11).foldl dstep (0, 0)).1 : Nat) : Int) else ((((l.take 11).foldl dstep (0, 0)).1 : Nat) : Int)
def specPI (l : List UInt8) : Int × Bool := if ((l.take 11).foldl dstep (0, 0)).2 > 9 then (0, false) else if l.length > 10 then (0, false) else if Lib.itoa (numOf l) = l then (numOf l, true) else (0, false)
theorem numOf_small {l : List UInt8} (h : ((l.take 11).foldl dstep (0, 0)).2 ≤ 9) : -999999999 ≤ numOf l ∧ numOf l ≤ 999999999 := by
  have hb := dfold_bound (l.take 11) (0, 0) (by decide)
  have hp : 10 ^ ((l.take 11).foldl dstep (0, 0)).2 ≤ 10 ^ 9 := Nat.pow_le_pow_right (by decide) h
  unfold numOf
  split <;> omega
theorem pi_same (l : List UInt8) : impl_ParseInt.parse l = specPI l := by
  by_cases hE : ∃ v, Lib.itoa v = l ∧ -999999999 ≤ v ∧ v ≤ 999999999
  · obtain ⟨v, rfl, h0, h1⟩ := hE
    obtain ⟨a1, a2, a3, a4⟩ := atoi_itoa h0 h1
    have ht : (Lib.itoa v).take 11 = Lib.itoa v := List.take_of_length_le (by omega)
    have hn : numOf (Lib.itoa v) = v := by unfold numOf; rw [ht]; exact a4
    unfold impl_ParseInt.parse specPI
    rw [a1, ht, hn, if_neg (by omega), if_neg (by omega), if_pos rfl]
    show (if Lib.itoa v = Lib.itoa v ∧ v ≤ 999999999 ∧ -999999999 ≤ v then (v, true) else (0, false)) = _
    rw [if_pos ⟨rfl, h1, h0⟩]
  · have hs : specPI l = (0, false) := by
      unfold specPI
      by_cases c1 : ((l.take 11).foldl dstep (0, 0)).2 > 9
      · rw [if_pos c1]
      · rw [if_neg c1]
        by_cases c2 : l.length > 10
        · rw [if_pos c2]
        · rw [if_neg c2, if_neg (fun e => hE ⟨_, e, (numOf_small (by omega)).1, (numOf_small (by omega)).2⟩)]
    rw [hs]
    unfold impl_ParseInt.parse
    rcases Lib.atoiAll l with v | _ | _
    · show (if Lib.itoa v = l ∧ v ≤ 999999999 ∧ -999999999 ≤ v then (v, true) else (0, false)) = _
      rw [if_neg (fun e => hE ⟨v, e.1, e.2.2, e.2.1⟩)]
    · rfl
    · rfl
theorem size_list (s : ByteArray) : s.size = s.data.toList.length := (Array.length_toList (xs := s.data)).symm
theorem bt_list (s : ByteArray) (i : Nat) (h : i < s.data.toList.length) : bt s (i : Int) = ((s.data.toList[i]'h).toNat : Int) := by
  have h' : i < s.size := by rw [size_list]; exact h
  unfold bt
  rw [dif_pos (show (i : Int).toNat < s.size from by rw [Int.toNat_natCast]; exact h')]
  rfl
theorem pi_step (s : ByteArray) (r : Int × Bool) (m c i x : Nat) (hs : s.size ≤ 1048576) (hi : i < s.size) (hi11 : i < 11) (hm : m < 10000000000) (hc : c ≤ 10) (hx : x < 256) (hbt : bt s (i : Int) = (x : Int))
    (h : Ev (fun k => spec_ParseInt.l0 k s (((if 48 ≤ x ∧ x ≤ 57 then (m * 10 + (x - 48), c + 1) else (m, c)) : Nat × Nat).1 : Int) (((if 48 ≤ x ∧ x ≤ 57 then (m * 10 + (x - 48), c + 1) else (m, c)) : Nat × Nat).2 : Int) ((i + 1 : Nat) : Int)) r) :
    Ev (fun k => spec_ParseInt.l0 k s (m : Int) (c : Int) (i : Int)) r := by
  have hw : wrap64 ((i : Int) + 1) = ((i + 1 : Nat) : Int) := by rw [w64 (by omega) (by omega)]; omega
  have h1 : Ev (fun k => spec_ParseInt.j1 k s (m : Int) (c : Int) (i : Int) true) r := by
    by_cases c1 : 48 ≤ x ∧ x ≤ 57
    · rw [if_pos c1] at h
      have e1 : ((m * 10 + (x - 48) : Nat) : Int) = wrap64 (wrap64 ((m : Int) * 10) + ((x : Int) - 48) % 256) := by rw [w64 (n := (m : Int) * 10) (by omega) (by omega), w64 (by omega) (by omega)]; omega
      have e2 : ((c + 1 : Nat) : Int) = wrap64 ((c : Int) + 1) := by rw [w64 (by omega) (by omega)]; omega
      dsimp only at h
      rw [e1, e2, ← hw] at h
      refine Ev.step (fun k => ?_) h
      simp only [spec_ParseInt.j1]
      rw [if_pos trivial, if_pos (by omega), if_pos (by omega), hbt, if_pos (by omega), if_pos (by omega)]
    · rw [if_neg c1] at h
      dsimp only at h
      rw [← hw] at h
      refine Ev.step (fun k => ?_) h
      simp only [spec_ParseInt.j1]
      rw [if_pos trivial, if_pos (by omega), if_pos (by omega), hbt]
      by_cases c2 : 48 ≤ x
      · rw [if_pos (by omega), if_neg (by omega)]
      · rw [if_neg (by omega)]
  refine Ev.step (fun k => ?_) h1
  simp only [spec_ParseInt.l0]
  rw [if_pos (by omega), decide_eq_true (by omega)]
theorem pi_loop (s : ByteArray) (hs : s.size ≤ 1048576) (r : Int × Bool)
    (hend : ∀ m c : Nat, (s.data.toList.take 11).foldl dstep (0, 0) = (m, c) → Ev (fun k => spec_ParseInt.j1 k s m c ((min s.size 11 : Nat) : Int) false) r) : Ev (fun k => spec_ParseInt.f k s) r := by
  have hsz := size_list s
  unfold spec_ParseInt.f
  have key : ∀ d i, min s.size 11 - i = d → i ≤ min s.size 11 → ∀ m c : Nat, (s.data.toList.take i).foldl dstep (0, 0) = (m, c) → Ev (fun k => spec_ParseInt.l0 k s m c (i : Int)) r := by
    intro d
    induction d with
    | zero =>
      intro i hd hi m c hm
      have hii : i = min s.size 11 := by omega
      have ht : s.data.toList.take i = s.data.toList.take 11 := by
        by_cases hh : s.size ≤ 11
        · rw [List.take_of_length_le (by omega), List.take_of_length_le (by omega)]
        · rw [show i = 11 by omega]
      rw [ht] at hm
      have h := hend m c hm
      rw [← hii] at h
      refine Ev.step (fun k => ?_) h
      simp only [spec_ParseInt.l0]
      by_cases hc : s.size ≤ 11
      · rw [if_neg (by omega)]
      · rw [if_pos (by omega), decide_eq_false (by omega)]
    | succ d ih =>
      intro i hd hi m c hm
      have hlt : i < s.data.toList.length := by omega
      have hb : m < 10 ^ c := by
        have := dfold_bound (s.data.toList.take i) (0, 0) (by decide)
        rw [hm] at this; exact this
      have hcn : c ≤ i := by
        have := dfold_count (s.data.toList.take i) (0, 0)
        rw [hm, List.length_take] at this
        have h2 : c ≤ 0 + min i s.data.toList.length := this
        omega
      have hpw : 10 ^ c ≤ 10 ^ 10 := Nat.pow_le_pow_right (by decide) (by omega)
      have hm2 : m < 10000000000 := Nat.lt_of_lt_of_le hb (Nat.le_trans hpw (by decide))
      have ht : s.data.toList.take (i + 1) = s.data.toList.take i ++ [s.data.toList[i]'hlt] := by rw [List.take_add_one, List.getElem?_eq_getElem hlt]; rfl
      have hstep : (s.data.toList.take (i + 1)).foldl dstep (0, 0) = dstep (m, c) (s.data.toList[i]'hlt) := by rw [ht, List.foldl_append, hm]; rfl
      have hx := (s.data.toList[i]'hlt).toNat_lt
      have hbt := bt_list s i hlt
      refine pi_step s r m c i (s.data.toList[i]'hlt).toNat hs (by omega) (by omega) hm2 (by omega) (by omega) hbt ?_
      exact ih (i + 1) (by omega) (by omega) _ _ hstep
  have := key (min s.size 11) 0 (by omega) (by omega) 0 0 (by simp)
  simpa using this
theorem pi_spec (s : ByteArray) (hs : s.size ≤ 1048576) : Ev (fun k => spec_ParseInt.f k s) (specPI s.data.toList) := by
  refine pi_loop s hs _ ?_
  intro m c hm
  have hsz := size_list s
  have hb0 : ∀ h : 0 < s.data.toList.length, bt s 0 = ((s.data.toList[0]'h).toNat : Int) := bt_list s 0
  generalize hl : s.data.toList = l at *
  have hb := dfold_bound (l.take 11) (0, 0) (by decide)
  have hcn := dfold_count (l.take 11) (0, 0)
  rw [hm] at hb hcn
  have hc11 : c ≤ 11 := by have h2 : c ≤ 0 + (l.take 11).length := hcn; rw [List.length_take] at h2; omega
  have hpw : 10 ^ c ≤ 10 ^ 11 := Nat.pow_le_pow_right (by decide) hc11
  have hm2 : m < 100000000000 := Nat.lt_of_lt_of_le (show m < 10 ^ c from hb) (Nat.le_trans hpw (by decide))
  have hnum : numOf l = if l.head? = some 45 then -(m : Int) else (m : Int) := by unfold numOf; rw [hm]
  have hfin : ∀ (neg : Bool), (neg = true ↔ l.head? = some 45) → Ev (fun k => spec_ParseInt.j2 k s m c neg) (specPI l) := by
    intro neg hneg
    have hall : ∀ x : Int, x = numOf l → Ev (fun k => if (c : Int) > 9 then some ((0 : Int), false) else if (s.size : Int) > 10 then some (0, false) else (spec_FormatInt.f k x).bind fun t => if t.toList = s.toList then some (x, true) else some (0, false)) (specPI l) := by
      intro x hx
      unfold specPI
      rw [hm, ← hx]
      by_cases c1 : c > 9
      · rw [if_pos (show (m, c).2 > 9 from c1)]
        exact ev_ifp (by omega) (ev_some _)
      · rw [if_neg (show ¬ (m, c).2 > 9 from c1)]
        refine ev_ifn (by omega) ?_
        by_cases c2 : l.length > 10
        · rw [if_pos c2]; exact ev_ifp (by omega) (ev_some _)
        · rw [if_neg c2]
          refine ev_ifn (by omega) ?_
          have hxs : -100000000000 < x ∧ x < 100000000000 := by rw [hx, hnum]; split <;> omega
          refine Ev.bind (fmt_spec x (by omega) (by omega)) ?_
          have he : ((⟨(Lib.itoa x).toArray⟩ : ByteArray).toList = s.toList) ↔ (Lib.itoa x = l) := by rw [Lib.toList_data, Lib.toList_data, hl]
          by_cases c3 : Lib.itoa x = l
          · rw [if_pos c3]; exact ev_ifp (he.2 c3) (ev_some _)
          · rw [if_neg c3]; exact ev_ifn (fun e => c3 (he.1 e)) (ev_some _)
    cases neg with
    | true =>
      have hh := hneg.1 rfl
      refine Ev.step (fun k => ?_) (hall (-(m : Int)) (by rw [hnum, if_pos hh]))
      simp only [spec_ParseInt.j2]
      rw [if_pos trivial, w64 (by omega) (by omega)]
    | false =>
      have hh : ¬ l.head? = some 45 := fun e => by have := hneg.2 e; cases this
      refine Ev.step (fun k => ?_) (hall (m : Int) (by rw [hnum, if_neg hh]))
      simp only [spec_ParseInt.j2]
      rw [if_neg (by simp)]
  by_cases h0 : l.length = 0
  · have : l = [] := List.eq_nil_of_length_eq_zero h0
    refine Ev.step (fun k => ?_) (hfin false (by rw [this]; simp))
    simp only [spec_ParseInt.j1]
    rw [if_neg (by simp), if_neg (by omega)]
  · have hbt : bt s 0 = ((l[0]'(by omega)).toNat : Int) := hb0 (by omega)
    have hhead : l.head? = some (l[0]'(by omega)) := by rw [List.head?_eq_getElem?, List.getElem?_eq_getElem]
    refine Ev.step (fun k => ?_) (hfin (bt s 0 == 45) (by
      rw [hbt, hhead, beq_iff_eq, Option.some.injEq]
      constructor
      · intro e; exact UInt8.toNat_inj.1 (by simpa using (by omega : (l[0]'(by omega)).toNat = 45))
      · intro e; rw [e]; rfl))
    simp only [spec_ParseInt.j1]
    rw [if_neg (by simp), if_pos (by omega), if_pos (by omega)]
theorem pi_impl (s : ByteArray) (hs : s.size ≤ 1048576) : impl_ParseInt.f s = some (specPI s.data.toList) := by
  unfold impl_ParseInt.f
  rw [if_pos (by omega), pi_same]


end Go.Proofs.YtboiejhiekgdmacDoor.Pure.FnExactParseInt
namespace Go.Proofs.YtboiejhiekgdmacDoor.Pure
open Go.RowKit Go.Proofs.YtboiejhiekgdmacDoor.PFnExactParseInt Go.Proofs.YtboiejhiekgdmacDoorW.PrintWords Go.Proofs.YtboiejhiekgdmacDoorW.PrintLast Go.Proofs.YtboiejhiekgdmacDoorW.PrintMore Go.Proofs.YtboiejhiekgdmacDoor.B Go.Proofs.YtboiejhiekgdmacDoor.Pure.FnExactParseInt
theorem FnExactParseInt : laws_FnExactParseInt.Pure := by
  intro s hs
  refine Ev.rounds (g := fun k => laws_FnExactParseInt.f k s) ?_
  unfold laws_FnExactParseInt.f
  by_cases h : (s.size : Int) > 1048576
  · exact ev_ifp h (ev_some _)
  refine ev_ifn h ?_
  refine Ev.bind (pi_spec s (by omega)) ?_
  refine ev_pure (pi_impl s (by omega)) ?_
  exact ev_ifp rfl (ev_ifn (by simp) (ev_some _))

end Go.Proofs.YtboiejhiekgdmacDoor.Pure
