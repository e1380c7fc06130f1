/- DecodeVarint of the program returns what the reference returns, for every string. No condition. -/
import Derived.Test.YtmekpkajpjnkgaaPFnExactDecodeVarintx0
import Derived.Test.YtmekpkajpjnkgaaPFnExactDecodeVarintx1
import Derived.Test.YtmekpkajpjnkgaaPFnExactDecodeVarintx2
import Derived.Test.YtmekpkajpjnkgaaB
import Derived.Laws.BitsAllLaws
import Derived.Lib.Strings
set_option linter.unusedVariables false
set_option linter.unusedSimpArgs false
namespace Go.Proofs.Ytmekpkajpjnkgaa.Pure.FnExactDecodeVarint
open Go.RowKit Go.Proofs.Ytmekpkajpjnkgaa.PFnExactDecodeVarint Go.Proofs.YtmekpkajpjnkgaaW.PrintWords Go.Proofs.YtmekpkajpjnkgaaW.PrintLast Go.Proofs.YtmekpkajpjnkgaaW.PrintMore Go.Proofs.Ytmekpkajpjnkgaa.B

set_option maxRecDepth 100000 in
theorem or128 (y : Int) (h0 : 0 ≤ y) (h1 : y < 256) : Go.bits .or .u8 y 128 = 128 + y % 128 := by
  have h := u8_or y 128 h0 h1 (by decide) (by decide)
  rw [h]
  have key : ∀ a : Fin 256, (a.val ||| 128) = 128 + a.val % 128 := by decide
  have := key ⟨y.toNat, by omega⟩
  simp only at this
  have e : (128 : Int).toNat = 128 := rfl
  rw [e, this]
  omega
/-- The bytes of a varint. -/
def vb : Nat → Int → List Int
  | 0, n => [n % 256]
  | d + 1, n => if n ≥ 128 then (128 + n % 128) :: vb d (n / 128) else [n % 256]
def encV (n : Int) : ByteArray := if 0 ≤ n ∧ n ≤ 562949953421311 then strOfNums (vb 8 n) else ⟨#[]⟩
theorem specV_l0 : ∀ (d : Nat) (n : Int) (out : List Int), 0 ≤ n → n < (128 ^ (d + 1) : Nat) → n ≤ 562949953421311 → out.length + d ≤ 1000 → Ev (fun k => spec_EncodeVarint.l0 k n out) (strOfNums (out ++ vb d n)) := by
  intro d
  induction d with
  | zero =>
    intro n out h0 h1 hm ho
    refine ev_const (fun k => ?_)
    simp only [spec_EncodeVarint.l0, vb]
    rw [if_neg (by omega), if_pos (by omega)]
  | succ d ih =>
    intro n out h0 h1 hm ho
    simp only [vb]
    by_cases c : n ≥ 128
    · rw [if_pos c]
      have hp : (128 ^ (d + 1 + 1) : Nat) = 128 ^ (d + 1) * 128 := Nat.pow_succ ..
      have h := ih (n / 128) (out ++ [128 + n % 128]) (by omega) (by omega) (by omega) (by simp; omega)
      rw [List.append_assoc, List.singleton_append] at h
      refine Ev.step (fun k => ?_) h
      simp only [spec_EncodeVarint.l0]
      rw [if_pos c, if_pos (by omega), tdiv_nn h0, tmod_nn h0, w64 (n := n / 128) (by omega) (by omega), w64 (n := 128 + n % 128) (by omega) (by omega), show (128 + n % 128) % 256 = 128 + n % 128 by omega]
    · rw [if_neg c]
      refine ev_const (fun k => ?_)
      simp only [spec_EncodeVarint.l0]
      rw [if_neg c, if_pos (by omega)]
theorem encV_in {n : Int} (h : 0 ≤ n ∧ n ≤ 562949953421311) : encV n = strOfNums (vb 8 n) := by unfold encV; rw [if_pos h]
theorem encV_out {n : Int} (h : ¬ (0 ≤ n ∧ n ≤ 562949953421311)) : encV n = ⟨#[]⟩ := by unfold encV; rw [if_neg h]
theorem specV_ev (n : Int) : Ev (fun k => spec_EncodeVarint.f k n) (encV n) := by
  unfold spec_EncodeVarint.f spec_l1In.f
  by_cases h0 : 0 ≤ n
  · by_cases h1 : n ≤ 562949953421311
    · rw [encV_in ⟨h0, h1⟩]
      refine ev_pure (a := true) (by rw [if_pos h0, decide_eq_true h1]) (ev_ifp rfl ?_)
      exact specV_l0 8 n [] h0 (by omega) h1 (by simp)
    · rw [encV_out (by omega)]
      exact ev_pure (a := false) (by rw [if_pos h0, decide_eq_false h1]) (ev_ifn (by simp) (ev_some _))
  · rw [encV_out (by omega)]
    exact ev_pure (a := false) (by rw [if_neg (by omega)]) (ev_ifn (by simp) (ev_some _))
theorem implV_l0 : ∀ (d : Nat) (n : Int) (out : List Int), 0 ≤ n → n < (128 ^ (d + 1) : Nat) → n ≤ 562949953421311 → out.length + d ≤ 1000 → Ev (fun k => impl_EncodeVarint.l0 k n out) (strOfNums (out ++ vb d n)) := by
  intro d
  induction d with
  | zero =>
    intro n out h0 h1 hm ho
    refine ev_const (fun k => ?_)
    simp only [impl_EncodeVarint.l0, vb]
    rw [if_neg (by omega), if_pos (by omega)]
  | succ d ih =>
    intro n out h0 h1 hm ho
    simp only [vb]
    by_cases c : n ≥ 128
    · rw [if_pos c]
      have hp : (128 ^ (d + 1 + 1) : Nat) = 128 ^ (d + 1) * 128 := Nat.pow_succ ..
      have h := ih (n / 128) (out ++ [128 + n % 128]) (by omega) (by omega) (by omega) (by simp; omega)
      rw [List.append_assoc, List.singleton_append] at h
      refine Ev.step (fun k => ?_) h
      simp only [impl_EncodeVarint.l0]
      rw [if_pos c, if_pos (by omega), or128 _ (by omega) (by omega), show n % 256 % 128 = n % 128 by omega]
    · rw [if_neg c]
      refine ev_const (fun k => ?_)
      simp only [impl_EncodeVarint.l0]
      rw [if_neg c, if_pos (by omega)]
theorem implV_ev (n : Int) : Ev (fun k => impl_EncodeVarint.f k n) (encV n) := by
  unfold impl_EncodeVarint.f
  have hf : Ev (fun k => impl_EncodeVarint.j0 k n true) ⟨#[]⟩ := ev_const (fun k => by simp [impl_EncodeVarint.j0])
  by_cases h0 : n < 0
  · rw [encV_out (by omega)]
    exact ev_ifp h0 hf
  · refine ev_ifn h0 ?_
    by_cases h1 : n > 562949953421311
    · rw [encV_out (by omega), decide_eq_true h1]; exact hf
    · rw [encV_in (by omega), decide_eq_false h1]
      refine Ev.step (fun k => ?_) (implV_l0 8 n [] (by omega) (by omega) (by omega) (by simp))
      simp only [impl_EncodeVarint.j0]
      rw [if_neg (by simp)]

theorem vb_ok : ∀ (d : Nat) (n : Int), 0 ≤ n → n < (128 ^ (d + 1) : Nat) → (∀ x ∈ vb d n, 0 ≤ x ∧ x < 256) ∧ 0 < (vb d n).length ∧ (∀ i (h : i < (vb d n).length), i + 1 = (vb d n).length → (vb d n)[i] < 128) ∧ (∀ i (h : i < (vb d n).length), i + 1 < (vb d n).length → 128 ≤ (vb d n)[i]) := by
  intro d
  induction d with
  | zero =>
    intro n h0 h1
    have h2 : n < 128 := by have : (128 ^ (0 + 1) : Nat) = 128 := rfl; omega
    refine ⟨fun x hx => ?_, by simp [vb], fun i h hi => ?_, fun i h hi => ?_⟩
    · simp [vb] at hx; omega
    · have : i = 0 := by simp [vb] at h; omega
      subst this
      simp [vb]; omega
    · simp [vb] at hi
  | succ d ih =>
    intro n h0 h1
    have hp : (128 ^ (d + 1 + 1) : Nat) = 128 ^ (d + 1) * 128 := Nat.pow_succ ..
    by_cases c : n ≥ 128
    · have e : vb (d + 1) n = (128 + n % 128) :: vb d (n / 128) := by simp only [vb]; rw [if_pos c]
      obtain ⟨i1, i2, i3, i4⟩ := ih (n / 128) (by omega) (by omega)
      rw [e]
      refine ⟨fun x hx => ?_, by simp, fun i h hi => ?_, fun i h hi => ?_⟩
      · rcases List.mem_cons.1 hx with rfl | hx
        · omega
        · exact i1 x hx
      · cases i with
        | zero => rw [List.length_cons] at hi; omega
        | succ i => simp only [List.getElem_cons_succ]; exact i3 i (by simpa using h) (by simpa using hi)
      · cases i with
        | zero => simp only [List.getElem_cons_zero]; omega
        | succ i => simp only [List.getElem_cons_succ]; exact i4 i (by simpa using h) (by simpa using hi)
    · have e : vb (d + 1) n = [n % 256] := by simp only [vb]; rw [if_neg c]
      rw [e]
      refine ⟨fun x hx => ?_, by simp, fun i h hi => ?_, fun i h hi => ?_⟩
      · simp at hx; omega
      · have : i = 0 := by simp at h; omega
        subst this
        simp; omega
      · simp at hi
theorem pref_at {xs : List Int} {s : ByteArray} {k : Nat} (hk : k ≤ s.size) (hx : ∀ x ∈ xs, 0 ≤ x ∧ x < 256) (h : (strOfNums xs).toList = (s.extract 0 k).toList) : xs.length = k ∧ ∀ i (hi : i < xs.length), xs[i] = bt s (i : Int) := by
  rw [Lib.toList_data, Lib.toList_data, strOfNums_data, Lib.extract_data, List.drop_zero, Nat.sub_zero] at h
  have hsz : s.data.toList.length = s.size := by rw [Array.length_toList]; rfl
  have hl := congrArg List.length h
  rw [List.length_map, List.length_take, hsz, Nat.min_eq_left hk] at hl
  refine ⟨hl, fun i hi => ?_⟩
  have h2 := congrArg (fun l => l[i]?) h
  simp only [List.getElem?_map, List.getElem?_take, if_pos (show i < k by omega), List.getElem?_eq_getElem hi, Option.map_some] at h2
  rw [List.getElem?_eq_getElem (by omega)] at h2
  have h3 := Option.some.inj h2
  have hr := hx _ (List.getElem_mem hi)
  unfold bt
  rw [dif_pos (show (i : Int).toNat < s.size by omega)]
  have e : s[(i : Int).toNat]'(by omega) = s.data.toList[i]'(by omega) := by simp only [Int.toNat_natCast]; rfl
  rw [e, ← h3]
  have : (UInt8.ofNat (xs[i]).toNat).toNat = (xs[i]).toNat := by rw [UInt8.toNat_ofNat']; omega
  rw [this]
  omega
/-- What d groups from j on tell, the least first. -/
def gU (s : ByteArray) : Nat → Nat → Int
  | 0, _ => 0
  | d + 1, j => bt s (j : Int) % 128 + 128 * gU s d (j + 1)
theorem gU_bound (s : ByteArray) : ∀ (d j : Nat), 0 ≤ gU s d j ∧ gU s d j < (128 ^ d : Nat)
  | 0, j => by simp [gU]
  | d + 1, j => by
    have h := gU_bound s d (j + 1)
    have hp : (128 ^ (d + 1) : Nat) = 128 ^ d * 128 := Nat.pow_succ ..
    simp only [gU]
    omega
theorem gU_snoc (s : ByteArray) : ∀ (d j : Nat), gU s (d + 1) j = gU s d j + bt s ((j + d : Nat) : Int) % 128 * (128 ^ d : Nat)
  | 0, j => by simp [gU]
  | d + 1, j => by
    have h := gU_snoc s d (j + 1)
    have e : gU s (d + 1 + 1) j = bt s (j : Int) % 128 + 128 * gU s (d + 1) (j + 1) := rfl
    have e2 : gU s (d + 1) j = bt s (j : Int) % 128 + 128 * gU s d (j + 1) := rfl
    have e3 : j + 1 + d = j + (d + 1) := by omega
    have hp : ((128 ^ (d + 1) : Nat) : Int) = (128 ^ d : Nat) * 128 := by rw [Nat.pow_succ]; push_cast; rfl
    rw [e, h, e2, e3, hp]
    generalize ((128 ^ d : Nat) : Int) = p
    generalize bt s ((j + (d + 1) : Nat) : Int) % 128 = q
    generalize gU s d (j + 1) = g
    have : q * (p * 128) = 128 * (q * p) := by rw [← Int.mul_assoc, Int.mul_comm]
    rw [this]
    omega
theorem pow7 {k : Nat} (h : k ≤ 7) : (128 ^ k : Nat) ≤ 562949953421312 := by
  have : (128 ^ k : Nat) ≤ 128 ^ 7 := Nat.pow_le_pow_right (by omega) h
  have e : (128 ^ 7 : Nat) = 562949953421312 := by decide
  omega
/-- Do the first k bytes spell what they tell? -/
def okV (s : ByteArray) (k : Nat) : Prop := (encV (gU s k 0)).toList = (s.extract 0 k).toList
theorem okV_facts {s : ByteArray} {k : Nat} (hk : k ≤ s.size) (h7 : k ≤ 7) (h : okV s k) : (∀ i, i + 1 = k → bt s (i : Int) < 128) ∧ (∀ i, i + 1 < k → 128 ≤ bt s (i : Int)) := by
  have hb := gU_bound s k 0
  have hp := pow7 h7
  unfold okV at h
  rw [encV_in (by omega)] at h
  obtain ⟨i1, i2, i3, i4⟩ := vb_ok 8 (gU s k 0) hb.1 (by have : (128 ^ (8 + 1) : Nat) = 9223372036854775808 := by decide
                                                         omega)
  obtain ⟨hl, he⟩ := pref_at hk i1 h
  refine ⟨fun i hi => ?_, fun i hi => ?_⟩
  · rw [← he i (by omega)]; exact i3 i (by omega) (by omega)
  · rw [← he i (by omega)]; exact i4 i (by omega) (by omega)
theorem specD_l1 (s : ByteArray) (r : Int × Int) (kk : Nat) (hk : kk ≤ s.size) (h7 : kk ≤ 7) (h : Ev (fun k => spec_DecodeVarint.l1 k s (kk : Int) (gU s kk 0) (-1)) r) :
    ∀ j, j ≤ kk → Ev (fun k => spec_DecodeVarint.l1 k s (kk : Int) (gU s (kk - j) j) ((j : Int) - 1)) r := by
  intro j
  induction j with
  | zero => intro _; simpa using h
  | succ j ih =>
    intro hj
    refine Ev.step (fun k => ?_) (ih (by omega))
    have hb := gU_bound s (kk - (j + 1)) (j + 1)
    have hp := pow7 (k := kk - (j + 1)) (by omega)
    have hr := bt_range s (j : Int)
    have hb2 := gU_bound s (kk - j) j
    have hp2 := pow7 (k := kk - j) (by omega)
    have e : gU s (kk - j) j = bt s (j : Int) % 128 + 128 * gU s (kk - (j + 1)) (j + 1) := by
      rw [show kk - j = (kk - (j + 1)) + 1 by omega]; rfl
    simp only [spec_DecodeVarint.l1]
    rw [show (((j + 1 : Nat) : Int) - 1) = (j : Int) by omega, if_pos (by omega), if_pos (by omega), if_pos (by omega), w64 (n := gU s (kk - (j + 1)) (j + 1) * 128) (by omega) (by omega), w64 (n := bt s (j : Int)) (by omega) (by omega), tmod_nn hr.1,
      w64 (n := gU s (kk - (j + 1)) (j + 1) * 128 + bt s (j : Int) % 128) (by omega) (by omega), w64 (n := (j : Int) - 1) (by omega) (by omega), show gU s (kk - (j + 1)) (j + 1) * 128 + bt s (j : Int) % 128 = gU s (kk - j) j by omega]
theorem specD_round (s : ByteArray) (r : Int × Int) (kk : Nat) (h1 : 1 ≤ kk) (hk : kk ≤ s.size) (h7 : kk ≤ 7) (h : (okV s kk → r = (gU s kk 0, (kk : Int))) ∧ (¬ okV s kk → Ev (fun k => spec_DecodeVarint.l0 k s ((kk + 1 : Nat) : Int)) r)) :
    Ev (fun k => spec_DecodeVarint.l0 k s (kk : Int)) r := by
  have hend : Ev (fun k => spec_DecodeVarint.l1 k s (kk : Int) (gU s kk 0) (-1)) r := by
    apply Ev.step
    · intro k; simp only [spec_DecodeVarint.l1]; rfl
    refine ev_ifn (by omega) ?_
    refine Ev.bind (specV_ev (gU s kk 0)) ?_
    refine ev_ifp (by omega) (ev_ifp (by omega) ?_)
    rw [Int.toNat_natCast, w64 (n := (kk : Int) + 1) (by omega) (by omega)]
    by_cases c : okV s kk
    · exact ev_ifp c (ev_eq (ev_some _) (h.1 c).symm)
    · exact ev_ifn c (h.2 c)
  have h2 := specD_l1 s r kk hk h7 hend kk (Nat.le_refl _)
  rw [Nat.sub_self] at h2
  have e0 : gU s 0 kk = 0 := rfl
  rw [e0] at h2
  refine Ev.step (f := fun k => spec_DecodeVarint.j1 k s (kk : Int) true) (fun k => ?_) (Ev.step (fun k => ?_) h2)
  · simp only [spec_DecodeVarint.l0]
    rw [if_pos (by omega), decide_eq_true (by omega)]
  · simp only [spec_DecodeVarint.j1]
    rw [if_pos trivial, w64 (n := (kk : Int) - 1) (by omega) (by omega)]
theorem specD_end (s : ByteArray) (kk : Nat) (h : 7 < kk ∨ s.size < kk) : Ev (fun k => spec_DecodeVarint.l0 k s (kk : Int)) (0, 0) := by
  refine Ev.step (f := fun k => spec_DecodeVarint.j1 k s (kk : Int) false) (fun k => ?_) (ev_const (fun k => ?_))
  · simp only [spec_DecodeVarint.l0]
    by_cases c : (kk : Int) ≤ 7
    · rw [if_pos c, decide_eq_false (by omega)]
    · rw [if_neg c]
  · simp only [spec_DecodeVarint.j1]
    rw [if_neg (by simp)]
/-- None of the lengths from kk on spells: (0, 0). -/
theorem specD_none (s : ByteArray) : ∀ (d kk : Nat), 1 ≤ kk → kk + d = 8 → (∀ q, kk ≤ q → q ≤ 7 → q ≤ s.size → ¬ okV s q) → Ev (fun k => spec_DecodeVarint.l0 k s (kk : Int)) (0, 0) := by
  intro d
  induction d with
  | zero => intro kk h1 hd hno; exact specD_end s kk (.inl (by omega))
  | succ d ih =>
    intro kk h1 hd hno
    by_cases c : kk ≤ s.size
    · exact specD_round s (0, 0) kk h1 c (by omega) ⟨fun h => absurd h (hno kk (Nat.le_refl _) (by omega) c), fun _ => ih (kk + 1) (by omega) (by omega) (fun q h2 => hno q (by omega))⟩
    · exact specD_end s kk (.inr (by omega))
theorem or_up (x c : Int) (i : Nat) (hi : i ≤ 6) (h0 : 0 ≤ x) (h1 : x < (128 ^ i : Nat)) (hc0 : 0 ≤ c) (hc : c < 128) : Go.bits .or .i64 x (shl .i64 c (7 * (i : Int))) = x + c * (128 ^ i : Nat) := by
  have hpw : (128 ^ i : Nat) = 2 ^ (7 * i) := by rw [Nat.pow_mul]
  have hp := pow7 (k := i) (by omega)
  have hp2 := pow7 (k := i + 1) (by omega)
  rw [Nat.pow_succ] at hp2
  have hcp : 0 ≤ c * (128 ^ i : Nat) ∧ c * (128 ^ i : Nat) ≤ 127 * (128 ^ i : Nat) := ⟨Int.mul_nonneg hc0 (by omega), Int.mul_le_mul_of_nonneg_right (by omega) (by omega)⟩
  have hs : shl .i64 c (7 * (i : Int)) = c * (128 ^ i : Nat) := by
    unfold shl
    have : min (7 * (i : Int)).toNat IntKind.i64.bits = 7 * i := by
      have e : IntKind.i64.bits = 64 := rfl
      rw [e]; omega
    rw [this, IntKind.wrap_i64]
    have e2 : (2 : Int) ^ (7 * i) = ((128 ^ i : Nat) : Int) := by rw [hpw]; push_cast; rfl
    rw [e2]
    omega
  rw [hs]
  obtain ⟨a, rfl⟩ := Int.eq_ofNat_of_zero_le h0
  obtain ⟨b, hb⟩ := Int.eq_ofNat_of_zero_le hcp.1
  rw [hb] at hcp ⊢
  have hw : ∀ n : Int, 0 ≤ n → n < 2 ^ 62 → IntKind.i64.wrap n = n := fun n p q => by rw [IntKind.wrap_i64]; omega
  have e1 := (bits_nat .i64 62 (by decide) hw a b (by omega) (by omega)).2
  have e2 := (bits_nat .i64 62 (by decide) hw b a (by omega) (by omega)).2
  have hd : (b : Int) % 2 ^ (7 * i) = 0 := by
    have e3 : (2 : Int) ^ (7 * i) = ((128 ^ i : Nat) : Int) := by rw [hpw]; push_cast; rfl
    rw [e3, ← hb]
    exact Int.mul_emod_left _ _
  have e4 := bits_join .i64 62 (by decide) hw (7 * i) (b : Int) (a : Int) (by omega) hd (by omega) (by omega) (by
    have e3 : (2 : Int) ^ (7 * i) = ((128 ^ i : Nat) : Int) := by rw [hpw]; push_cast; rfl
    rw [e3]; exact h1) (by omega)
  rw [e1, Nat.or_comm, ← e2, e4]
  omega
theorem implD_step (s : ByteArray) (i : Nat) (hi : i ≤ 6) (his : i < s.size) : Go.bits .or .i64 (gU s i 0) (shl .i64 (wrap64 (Go.bits .and .u8 (bt s (i : Int)) 127)) (wrap64 (7 * (i : Int)))) = gU s (i + 1) 0 := by
  have hr := bt_range s (i : Int)
  have hb := gU_bound s i 0
  have hm : Go.bits .and .u8 (bt s (i : Int)) 127 = bt s (i : Int) % 128 := bits_mask .u8 8 (by decide) wraps_u8 7 (by decide) _ hr.1 (by omega)
  rw [hm, w64 (n := bt s (i : Int) % 128) (by omega) (by omega), w64 (n := 7 * (i : Int)) (by omega) (by omega), or_up _ _ i hi hb.1 hb.2 (by omega) (by omega), gU_snoc, Nat.zero_add]
theorem decV_same (s : ByteArray) (hs : s.size ≤ 1048576) : ∃ r, Ev (fun k => spec_DecodeVarint.f k s) r ∧ Ev (fun k => impl_DecodeVarint.f k s) r := by
  unfold spec_DecodeVarint.f impl_DecodeVarint.f
  have hmn : mn 7 (s.size : Int) = ((min 7 s.size : Nat) : Int) := by unfold mn; split <;> omega
  have hgo : ∀ (r : Int × Int) (i : Nat), i < min 7 s.size → 128 ≤ bt s (i : Int) → Ev (fun k => impl_DecodeVarint.l0 k s (gU s (i + 1) 0) ((i + 1 : Nat) : Int)) r → Ev (fun k => impl_DecodeVarint.l0 k s (gU s i 0) (i : Int)) r := by
    intro r i hi hb h
    refine Ev.step (fun k => ?_) h
    simp only [impl_DecodeVarint.l0]
    rw [hmn, if_pos (by omega), if_pos (by omega), if_pos (by omega), if_pos (by rw [w64 (by omega) (by omega)]; omega), if_neg (by omega), implD_step s i (by omega) (by omega), wS (n := 8) (i := i) (by omega) (by omega)]
  by_cases hA : ∃ i, i < min 7 s.size ∧ bt s (i : Int) < 128
  · obtain ⟨i0, hi0, hb0, hfirst⟩ : ∃ i, i < min 7 s.size ∧ bt s (i : Int) < 128 ∧ ∀ j, j < i → 128 ≤ bt s (j : Int) := by
      have hex : ∃ i, i < min 7 s.size ∧ bt s (i : Int) < 128 := hA
      have key : ∀ n i : Nat, i < n → i < min 7 s.size → bt s (i : Int) < 128 → ∃ i, i < min 7 s.size ∧ bt s (i : Int) < 128 ∧ ∀ j, j < i → 128 ≤ bt s (j : Int) := by
        intro n
        induction n with
        | zero => intro i h; omega
        | succ n ih =>
          intro i h h1 h2
          by_cases c : ∃ j, j < i ∧ bt s (j : Int) < 128
          · obtain ⟨j, j1, j2⟩ := c
            exact ih j (by omega) (by omega) j2
          · refine ⟨i, h1, h2, fun j hj => ?_⟩
            rcases Int.lt_or_le (bt s (j : Int)) 128 with h | h
            · exact absurd ⟨j, hj, h⟩ c
            · exact h
      obtain ⟨i, h1, h2⟩ := hex
      exact key (i + 1) i (by omega) h1 h2
    have hno : ∀ q, i0 + 2 ≤ q → q ≤ 7 → q ≤ s.size → ¬ okV s q := fun q h1 h2 h3 hq => by
      have := (okV_facts h3 h2 hq).2 i0 (by omega)
      omega
    have hspec : ∀ r, ((okV s (i0 + 1) → r = (gU s (i0 + 1) 0, ((i0 + 1 : Nat) : Int))) ∧ (¬ okV s (i0 + 1) → r = (0, 0))) → Ev (fun k => spec_DecodeVarint.l0 k s 1) r := by
      intro r hr
      have hlast : Ev (fun k => spec_DecodeVarint.l0 k s ((i0 + 1 : Nat) : Int)) r :=
        specD_round s r (i0 + 1) (by omega) (by omega) (by omega) ⟨hr.1, fun hn => ev_eq (specD_none s (8 - (i0 + 2)) (i0 + 2) (by omega) (by omega) hno) (hr.2 hn).symm⟩
      have := down_ev i0 (fun k i => spec_DecodeVarint.l0 k s ((i + 1 : Nat) : Int)) r (fun i hi ih => specD_round s r (i + 1) (by omega) (by omega) (by omega) ⟨fun hok => by
        have := (okV_facts (k := i + 1) (by omega) (by omega) hok).1 i rfl
        have := hfirst i hi
        omega, fun _ => ih⟩) hlast
      simpa using this
    have himpl : ∀ r, ((okV s (i0 + 1) → r = (gU s (i0 + 1) 0, ((i0 + 1 : Nat) : Int))) ∧ (¬ okV s (i0 + 1) → r = (0, 0))) → Ev (fun k => impl_DecodeVarint.l0 k s 0 0) r := by
      intro r hr
      have hlast : Ev (fun k => impl_DecodeVarint.l0 k s (gU s i0 0) (i0 : Int)) r := by
        apply Ev.step
        · intro k; simp only [impl_DecodeVarint.l0]; rfl
        rw [hmn]
        refine ev_ifp (by omega) (ev_ifp (by omega) (ev_ifp (by omega) (ev_ifp (by rw [w64 (by omega) (by omega)]; omega) (ev_ifp hb0 ?_))))
        rw [implD_step s i0 (by omega) (by omega)]
        refine Ev.bind (implV_ev _) ?_
        rw [wS (n := 8) (i := i0) (by omega) (by omega)]
        refine ev_ifp (by omega) (ev_ifp (by omega) ?_)
        rw [Int.toNat_natCast]
        by_cases c : okV s (i0 + 1)
        · exact ev_ifp c (ev_eq (ev_some _) (hr.1 c).symm)
        · exact ev_ifn c (ev_eq (ev_some _) (hr.2 c).symm)
      have := down_ev i0 (fun k i => impl_DecodeVarint.l0 k s (gU s i 0) (i : Int)) r (fun i hi ih => hgo r i (by omega) (hfirst i hi) ih) hlast
      simpa [gU] using this
    by_cases c : okV s (i0 + 1)
    · exact ⟨_, hspec _ ⟨fun _ => rfl, fun h => absurd c h⟩, himpl _ ⟨fun _ => rfl, fun h => absurd c h⟩⟩
    · exact ⟨(0, 0), hspec _ ⟨fun h => absurd h c, fun _ => rfl⟩, himpl _ ⟨fun h => absurd h c, fun _ => rfl⟩⟩
  · have hB : ∀ i, i < min 7 s.size → 128 ≤ bt s (i : Int) := fun i hi => by
      rcases Int.lt_or_le (bt s (i : Int)) 128 with h | h
      · exact absurd ⟨i, hi, h⟩ hA
      · exact h
    refine ⟨(0, 0), ?_, ?_⟩
    · have := specD_none s 7 1 (by omega) (by omega) (fun q h1 h2 h3 hq => by
        have := (okV_facts h3 h2 hq).1 (q - 1) (by omega)
        have := hB (q - 1) (by omega)
        omega)
      exact this
    · have := down_ev (min 7 s.size) (fun k i => impl_DecodeVarint.l0 k s (gU s i 0) (i : Int)) (0, 0) (fun i hi ih => hgo _ i hi (hB i hi) ih) (ev_const (fun k => by
        simp only [impl_DecodeVarint.l0]
        rw [hmn, if_neg (by omega)]))
      simpa [gU] using this


end Go.Proofs.Ytmekpkajpjnkgaa.Pure.FnExactDecodeVarint
namespace Go.Proofs.Ytmekpkajpjnkgaa.Pure
open Go.RowKit Go.Proofs.Ytmekpkajpjnkgaa.PFnExactDecodeVarint Go.Proofs.YtmekpkajpjnkgaaW.PrintWords Go.Proofs.YtmekpkajpjnkgaaW.PrintLast Go.Proofs.YtmekpkajpjnkgaaW.PrintMore Go.Proofs.Ytmekpkajpjnkgaa.B Go.Proofs.Ytmekpkajpjnkgaa.Pure.FnExactDecodeVarint
theorem FnExactDecodeVarint : laws_FnExactDecodeVarint.Pure := by
  intro s _
  by_cases hn : (s.size : Int) > 1048576
  · exact ⟨0, by unfold laws_FnExactDecodeVarint.f; rw [if_pos hn]⟩
  · refine Ev.rounds (g := fun k => laws_FnExactDecodeVarint.f k s) ?_
    unfold laws_FnExactDecodeVarint.f
    obtain ⟨r, a, b⟩ := decV_same s (by omega)
    exact ev_ifn hn (Ev.bind a (Ev.bind b (ev_ifp rfl (ev_ifp rfl (ev_some _)))))

end Go.Proofs.Ytmekpkajpjnkgaa.Pure
