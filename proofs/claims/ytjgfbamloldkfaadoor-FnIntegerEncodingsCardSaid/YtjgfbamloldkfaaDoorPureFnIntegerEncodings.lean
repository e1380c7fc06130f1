/- FnIntegerEncodings returns true, whatever the code it draws from. No condition of ours. -/
import Derived.Test.YtjgfbamloldkfaaDoorPFnIntegerEncodingsx0
import Derived.Test.YtjgfbamloldkfaaDoorPFnIntegerEncodingsx1
import Derived.Test.YtjgfbamloldkfaaDoorPFnIntegerEncodingsx2
import Derived.Test.YtjgfbamloldkfaaDoorPFnIntegerEncodingsx3
import Derived.Test.YtjgfbamloldkfaaDoorPFnIntegerEncodingsx4
import Derived.Test.YtjgfbamloldkfaaDoorPFnIntegerEncodingsx5
import Derived.Test.YtjgfbamloldkfaaDoorB
set_option linter.unusedVariables false
set_option linter.unusedSimpArgs false
namespace Go.Proofs.YtjgfbamloldkfaaDoor.Pure.FnIntegerEncodings
open Go.RowKit Go.Proofs.YtjgfbamloldkfaaDoor.PFnIntegerEncodings Go.Proofs.YtjgfbamloldkfaaDoorW.PrintWords Go.Proofs.YtjgfbamloldkfaaDoorW.PrintLast Go.Proofs.YtjgfbamloldkfaaDoorW.PrintMore Go.Proofs.YtjgfbamloldkfaaDoor.B

theorem i64_and255 (n : Int) : Go.bits .and .i64 n 255 = n % 256 := by
  have h255 : (BitVec.ofInt 64 255).toNat = 2 ^ 8 - 1 := by decide
  have key : (BitVec.ofInt 64 n &&& BitVec.ofInt 64 255).toNat = (n % ((2 ^ 64 : Nat) : Int)).toNat % 2 ^ 8 := by
    rw [BitVec.toNat_and, BitVec.toNat_ofInt, h255, Nat.and_two_pow_sub_one_eq_mod]
  show IntKind.i64.wrap ((BitVec.ofInt 64 n &&& BitVec.ofInt 64 255).toNat : Nat) = n % 256
  rw [key, IntKind.wrap_i64]
  omega
theorem byte_ok (b : List Int) (i h : Int) (hi : 0 ≤ i ∧ i ≤ (b.length : Int)) (hb : b.length ≤ 1048576) : ∃ x i' h', spec_l1Byte.f b i h = some (x, i', h') ∧ (0 ≤ x ∧ x < 256) ∧ (0 ≤ i' ∧ i' ≤ (b.length : Int)) := by
  unfold spec_l1Byte.f
  by_cases c : i < (b.length : Int)
  · rw [if_pos c, if_pos hi.1, i64_and255]
    refine ⟨_, _, _, rfl, ⟨Int.emod_nonneg _ (by decide), Int.emod_lt_of_pos _ (by decide)⟩, ?_⟩
    rw [w64 (by omega) (by omega)]; omega
  · rw [if_neg c, i64_and255]
    exact ⟨_, _, _, rfl, ⟨Int.emod_nonneg _ (by decide), Int.emod_lt_of_pos _ (by decide)⟩, hi⟩
theorem below_ok (b : List Int) (i h n : Int) (hi : 0 ≤ i ∧ i ≤ (b.length : Int)) (hb : b.length ≤ 1048576) : ∃ x i' h', spec_l1Below.f b i h n = some (x, i', h') ∧ (0 ≤ x ∧ (0 < n → x < n) ∧ (n ≤ 0 → x = 0)) ∧ (0 ≤ i' ∧ i' ≤ (b.length : Int)) := by
  unfold spec_l1Below.f
  by_cases c0 : n ≤ 0
  · rw [if_pos c0]
    exact ⟨_, _, _, rfl, ⟨by omega, fun h => h, fun _ => rfl⟩, hi⟩
  rw [if_neg c0]
  by_cases c1 : n ≤ 256
  · rw [if_pos c1]
    obtain ⟨x, i', h', e, hx, hi'⟩ := byte_ok b i h hi hb
    rw [e, Option.bind_some, if_neg (by omega)]
    have hm0 := Int.emod_nonneg x (show n ≠ 0 by omega)
    have hm1 := Int.emod_lt_of_pos x (show 0 < n by omega)
    refine ⟨_, _, _, rfl, ?_, hi'⟩
    rw [tmod_nn hx.1]
    exact ⟨hm0, fun _ => hm1, fun h => absurd h c0⟩
  · rw [if_neg c1]
    obtain ⟨x1, i1, h1, e1, g1, k1⟩ := byte_ok b i h hi hb
    obtain ⟨x2, i2, h2, e2, g2, k2⟩ := byte_ok b i1 h1 k1 hb
    obtain ⟨x3, i3, h3, e3, g3, k3⟩ := byte_ok b i2 h2 k2 hb
    obtain ⟨x4, i4, h4, e4, g4, k4⟩ := byte_ok b i3 h3 k3 hb
    rw [e1, Option.bind_some]
    dsimp only
    rw [e2, Option.bind_some]
    dsimp only
    rw [e3, Option.bind_some]
    dsimp only
    rw [e4, Option.bind_some, if_neg (by omega)]
    refine ⟨_, _, _, rfl, ?_, k4⟩
    dsimp only
    rw [w64 (n := x1 * 16777216) (by omega) (by omega), w64 (n := x2 * 65536) (by omega) (by omega), w64 (n := x1 * 16777216 + x2 * 65536) (by omega) (by omega), w64 (n := x3 * 256) (by omega) (by omega),
      w64 (n := x1 * 16777216 + x2 * 65536 + x3 * 256) (by omega) (by omega), w64 (n := x1 * 16777216 + x2 * 65536 + x3 * 256 + x4) (by omega) (by omega), tmod_nn (by omega)]
    have hm0 := Int.emod_nonneg (x1 * 16777216 + x2 * 65536 + x3 * 256 + x4) (show n ≠ 0 by omega)
    have hm1 := Int.emod_lt_of_pos (x1 * 16777216 + x2 * 65536 + x3 * 256 + x4) (show 0 < n by omega)
    exact ⟨hm0, fun _ => hm1, fun h => absurd h c0⟩
def picks : List Int := [(-1), 0, 127, 128, 255, 256, 16383, 16384, 65535, 65536, 562949953421311, 562949953421312, 999999999, 1000000000, (-999999999), 9223372036854775807, (-9223372036854775808)]
theorem picks_at : ∀ j : Fin 17, -9223372036854775808 ≤ rd picks ((j.val : Nat) : Int) ∧ rd picks ((j.val : Nat) : Int) < 9223372036854775808 := by decide +kernel
theorem num_ok (b : List Int) (i h : Int) (hi : 0 ≤ i ∧ i ≤ (b.length : Int)) (hb : b.length ≤ 1048576) : ∃ x i' h', spec_l1Num.f b i h = some (x, i', h') ∧ (-9223372036854775808 ≤ x ∧ x < 9223372036854775808) ∧ (0 ≤ i' ∧ i' ≤ (b.length : Int)) := by
  unfold spec_l1Num.f
  obtain ⟨x1, i1, h1, e1, g1, k1⟩ := below_ok b i h 8 hi hb
  rw [e1, Option.bind_some]
  dsimp only
  by_cases c0 : x1 = 0
  · rw [if_pos c0]
    obtain ⟨x2, i2, h2, e2, g2, k2⟩ := below_ok b i1 h1 17 k1 hb
    have hp : spec_l1PickInt.f b i1 h1 picks = some (rd picks x2, i2, h2) := by
      unfold spec_l1PickInt.f
      rw [show ((picks.length : Nat) : Int) = 17 from rfl, e2, Option.bind_some]
      dsimp only
      rw [if_pos g2.1, if_pos (g2.2.1 (by omega))]
    unfold picks at hp
    rw [hp, Option.bind_some]
    have := picks_at ⟨x2.toNat, by have := g2.2.1 (by omega); omega⟩
    simp only at this
    rw [show ((x2.toNat : Nat) : Int) = x2 by omega] at this
    exact ⟨_, _, _, rfl, this, k2⟩
  rw [if_neg c0]
  by_cases c1 : x1 = 1
  · rw [if_pos c1]
    obtain ⟨x2, i2, h2, e2, g2, k2⟩ := below_ok b i1 h1 1000000000 k1 hb
    obtain ⟨x3, i3, h3, e3, g3, k3⟩ := below_ok b i2 h2 1000000000 k2 hb
    rw [e2, Option.bind_some]
    dsimp only
    rw [e3, Option.bind_some]
    exact ⟨_, _, _, rfl, w64_lo _, k3⟩
  rw [if_neg c1]
  by_cases c2 : x1 = 2
  · rw [if_pos c2]
    obtain ⟨x2, i2, h2, e2, g2, k2⟩ := below_ok b i1 h1 100000 k1 hb
    rw [e2, Option.bind_some]
    exact ⟨_, _, _, rfl, w64_lo _, k2⟩
  rw [if_neg c2]
  obtain ⟨x2, i2, h2, e2, g2, k2⟩ := below_ok b i1 h1 70000 k1 hb
  rw [e2, Option.bind_some]
  have := g2.2.1 (by omega)
  exact ⟨_, _, _, rfl, by dsimp only; omega, k2⟩
theorem new_ok (b : List Int) (hb : b.length ≤ 1048576) : ∃ h, Ev (fun k => spec_l1New.f k b) (b, 0, h) := by
  unfold spec_l1New.f
  have key : ∀ d i : Nat, min b.length 4000 - i = d → i ≤ min b.length 4000 → ∀ x : Int, ∃ h, Ev (fun k => spec_l1New.l0 k b x (i : Int)) (b, 0, h) := by
    intro d
    induction d with
    | zero =>
      intro i hd hi x
      refine ⟨x, ev_const (fun k => ?_)⟩
      simp only [spec_l1New.l0]
      by_cases c : i < b.length
      · rw [if_pos (by omega), if_neg (by omega)]
      · rw [if_neg (by omega)]
    | succ d ih =>
      intro i hd hi x
      obtain ⟨h, hh⟩ := ih (i + 1) (by omega) (by omega) (Go.bits .and .i64 (wrap64 ((wrap64 ((wrap64 (x * 131)) + (wrap64 (rd b (i : Int))))) + 7)) 1073741823)
      refine ⟨h, Ev.step (fun k => ?_) hh⟩
      simp only [spec_l1New.l0]
      rw [if_pos (by omega), if_pos (by omega), if_pos (by omega), show wrap64 ((i : Int) + 1) = ((i + 1 : Nat) : Int) by rw [w64 (by omega) (by omega)]; omega]
  exact key (min b.length 4000) 0 (by omega) (by omega) _
theorem text_loop (b : List Int) (hb : b.length ≤ 1048576) (st : Int) : ∀ n : Nat, ∀ (xs : List Int) (x : Int) (i h : Int), x.toNat = n → x ≤ 100 → xs.length + n ≤ 200 → (0 ≤ i ∧ i ≤ (b.length : Int)) →
    ∃ s i' h', Ev (fun k => spec_l1Text.l0 k xs st x b i h) (s, i', h') ∧ s.size ≤ 200 := by
  intro n
  induction n with
  | zero =>
    intro xs x i h hn hx hl hi
    refine ⟨strOfNums xs, i, h, ev_const (fun k => ?_), by rw [strOfNums_size]; omega⟩
    simp only [spec_l1Text.l0]
    rw [if_neg (by omega)]
  | succ n ih =>
    intro xs x i h hn hx hl hi
    obtain ⟨y, i1, h1, e1, g1, k1⟩ := byte_ok b i h hi hb
    have hw : wrap64 (x - 1) = x - 1 := w64 (by omega) (by omega)
    have hstep : ∀ z : Int, ∃ s i' h', Ev (fun k => if xs.length < 140737488355328 then spec_l1Text.l0 k (xs ++ [z]) st (wrap64 (x - 1)) b i1 h1 else none) (s, i', h') ∧ s.size ≤ 200 := by
      intro z
      obtain ⟨s, i', h', e, hs⟩ := ih (xs ++ [z]) (x - 1) i1 h1 (by omega) (by omega) (by rw [List.length_append, List.length_singleton]; omega) k1
      rw [hw]
      exact ⟨s, i', h', ev_ifp (by omega) e, hs⟩
    by_cases c1 : st = 1
    · by_cases c2 : st = 2
      · omega
      · obtain ⟨s, i', h', e, hs⟩ := hstep ((Int.tmod y 2) % 256)
        refine ⟨s, i', h', Ev.step (fun k => ?_) e, hs⟩
        simp only [spec_l1Text.l0]
        rw [if_pos (by omega), e1, Option.bind_some, if_pos c1, if_neg c2]
    · by_cases c2 : st = 2
      · obtain ⟨s, i', h', e, hs⟩ := hstep ((wrap64 (97 + (Int.tmod y 4))) % 256)
        refine ⟨s, i', h', Ev.step (fun k => ?_) e, hs⟩
        simp only [spec_l1Text.l0]
        rw [if_pos (by omega), e1, Option.bind_some, if_neg c1, if_pos c2]
      · obtain ⟨s, i', h', e, hs⟩ := hstep (y % 256)
        refine ⟨s, i', h', Ev.step (fun k => ?_) e, hs⟩
        simp only [spec_l1Text.l0]
        rw [if_pos (by omega), e1, Option.bind_some, if_neg c1, if_neg c2]
theorem drawV_ok (b : List Int) (hb : b.length ≤ 1048576) : ∃ n, Ev (fun k => spec_DrawEncodeVarint.f k b) n ∧ -9223372036854775808 ≤ n ∧ n < 9223372036854775808 := by
  obtain ⟨h, e⟩ := new_ok b hb
  obtain ⟨x, i', h', e2, g2, _⟩ := num_ok b 0 h (by omega) hb
  unfold spec_DrawEncodeVarint.f
  exact ⟨x, Ev.bind e (ev_pure e2 (ev_some _)), g2⟩
theorem drawH_ok (b : List Int) (hb : b.length ≤ 1048576) : ∃ s, Ev (fun k => spec_DrawEncodeHex.f k b) s ∧ s.size ≤ 200 := by
  obtain ⟨h, e⟩ := new_ok b hb
  obtain ⟨x1, i1, h1, e1, g1, k1⟩ := below_ok b 0 h 4 (by omega) hb
  obtain ⟨x2, i2, h2, e2, g2, k2⟩ := below_ok b i1 h1 41 k1 hb
  have := g2.2.1 (by omega)
  obtain ⟨s, i3, h3, e3, hs⟩ := text_loop b hb x1 x2.toNat [] x2 i2 h2 rfl (by omega) (by simp; omega) k2
  have ht : Ev (fun k => spec_l1Text.f k b 0 h 40) (s, i3, h3) := by
    unfold spec_l1Text.f
    refine ev_pure e1 ?_
    rw [show wrap64 (40 + 1) = 41 from w64 (by omega) (by omega)]
    exact ev_pure e2 e3
  unfold spec_DrawEncodeHex.f
  exact ⟨s, Ev.bind e (Ev.bind ht (ev_some _)), hs⟩
theorem drawF_ok (b : List Int) (hb : b.length ≤ 1048576) : ∃ w z, Ev (fun k => spec_DrawEncodeFixed.f k b) (w, z) ∧ (-9223372036854775808 ≤ w ∧ w < 9223372036854775808) := by
  obtain ⟨h, e⟩ := new_ok b hb
  obtain ⟨x, i1, h1, e2, g2, k1⟩ := num_ok b 0 h (by omega) hb
  obtain ⟨x2, i2, h2, e3, g3, k2⟩ := below_ok b i1 h1 10 k1 hb
  unfold spec_DrawEncodeFixed.f
  exact ⟨x, _, Ev.bind e (ev_pure e2 (ev_pure e3 (ev_some _))), g2⟩

/-- The decimal digits of a number that is not 0; none for 0. -/
def digs (u : Nat) : List UInt8 := if u = 0 then [] else Lib.decDigits u
theorem digs_step {u : Nat} (h : 0 < u) : digs u = digs (u / 10) ++ [UInt8.ofNat (48 + u % 10)] := by
  unfold digs
  rw [if_neg (by omega), Lib.decDigits]
  by_cases h10 : u < 10
  · rw [dif_pos h10, if_pos (by omega), show u % 10 = u by omega]; rfl
  · rw [dif_neg h10, if_neg (by omega)]
theorem digs_len (u : Nat) : (digs u).length ≤ 1 + u / 10 := by
  induction u using Nat.strongRecOn with
  | _ u ih =>
    by_cases h : u = 0
    · subst h; simp [digs]
    · rw [digs_step (by omega), List.length_append, List.length_singleton]
      by_cases h10 : u < 10
      · have : u / 10 = 0 := by omega
        rw [this]; simp [digs]
      · have := ih (u / 10) (by omega); omega
def sgnB (b : Bool) : List UInt8 := if b then [45] else []
theorem ofInt_byte (m : Nat) (h : m < 10) : (wrap64 (48 + (m : Int))) % 256 = ((48 + m : Nat) : Int) := by
  rw [w64 (by omega) (by omega)]; omega
theorem str_one (m : Nat) (h : m < 10) (s : List UInt8) : strOfNums [((48 + m : Nat) : Int)] ++ (⟨s.toArray⟩ : ByteArray) = ⟨(UInt8.ofNat (48 + m) :: s).toArray⟩ := by
  apply ByteArray.ext
  rw [ByteArray.data_append]
  show (strOfNums [((48 + m : Nat) : Int)]).data ++ s.toArray = (UInt8.ofNat (48 + m) :: s).toArray
  rw [show (strOfNums [((48 + m : Nat) : Int)]).data = #[UInt8.ofNat (48 + m)] from rfl]
  simp
theorem fmt_loop (u : Nat) : ∀ (x : Int) (s : List UInt8) (neg : Bool), x.natAbs = u → -9223372036854775808 ≤ x → x ≤ 9223372036854775807 → s.length + (digs u).length ≤ 922337203685477600 →
    Ev (fun k => spec_FormatInt.l0 k x ⟨s.toArray⟩ neg) ⟨(sgnB neg ++ (digs u ++ s)).toArray⟩ := by
  induction u using Nat.strongRecOn with
  | _ u ih =>
    intro x s neg hu hl hh hs
    have hsz : (⟨s.toArray⟩ : ByteArray).size = s.length := by simp [ByteArray.size]
    by_cases h0 : x = 0
    · subst h0
      have : u = 0 := by omega
      subst this
      refine ev_const (fun k => ?_)
      simp only [spec_FormatInt.l0]
      rw [if_pos trivial, hsz]
      cases neg with
      | true =>
        rw [if_pos rfl, if_pos (by simp [digs] at hs; omega)]
        congr 1
      | false => rw [if_neg (by simp)]; simp [sgnB, digs]
    · have hu0 : 0 < u := by omega
      have hm : (Int.tmod x 10 < 0 → -(Int.tmod x 10) = ((u % 10 : Nat) : Int)) ∧ (¬ Int.tmod x 10 < 0 → Int.tmod x 10 = ((u % 10 : Nat) : Int)) := by
        have := tmod_cases x 10
        by_cases hx : 0 ≤ x
        · have := this.1 hx; omega
        · have := this.2 (by omega); omega
      have hd : (Int.tdiv x 10).natAbs = u / 10 ∧ -9223372036854775808 ≤ Int.tdiv x 10 ∧ Int.tdiv x 10 ≤ 9223372036854775807 := by
        have := tdiv_cases x 10
        by_cases hx : 0 ≤ x
        · have := this.1 hx; omega
        · have := this.2 (by omega); omega
      have hst := digs_step hu0
      have hlen : (digs u).length = (digs (u / 10)).length + 1 := by rw [hst]; simp
      have h := ih (u / 10) (by omega) (Int.tdiv x 10) (UInt8.ofNat (48 + u % 10) :: s) neg hd.1 hd.2.1 hd.2.2 (by simp; omega)
      refine ev_eq (Ev.step (fun k => ?_) h) (by rw [hst, List.append_assoc]; rfl)
      simp only [spec_FormatInt.l0]
      rw [if_neg h0, w64 (n := Int.tdiv x 10) hd.2.1 (by omega)]
      by_cases ht : Int.tmod x 10 < 0
      · rw [if_pos ht, hm.1 ht, Option.bind_some, w64 (n := ((u % 10 : Nat) : Int)) (by omega) (by omega), ofInt_byte _ (by omega), if_pos (by rw [strOfNums_size, hsz]; simp; omega), str_one _ (by omega)]
      · rw [if_neg ht, hm.2 ht, Option.bind_some, ofInt_byte _ (by omega), if_pos (by rw [strOfNums_size, hsz]; simp; omega), str_one _ (by omega)]
theorem fmt_spec (n : Int) (h0 : -9223372036854775808 ≤ n) (h1 : n ≤ 9223372036854775807) : Ev (fun k => spec_FormatInt.f k n) ⟨(Lib.itoa n).toArray⟩ := by
  unfold spec_FormatInt.f
  by_cases hz : n = 0
  · subst hz
    exact ev_ifp rfl (ev_eq (ev_some _) (by decide +kernel))
  · refine ev_ifn hz ?_
    have h := fmt_loop n.natAbs n [] (decide (n < 0)) rfl h0 h1 (by have := digs_len n.natAbs; simp; omega)
    have hne : n.natAbs ≠ 0 := by omega
    have hd : digs n.natAbs = Lib.decDigits n.natAbs := if_neg hne
    have e : (sgnB (decide (n < 0)) ++ (digs n.natAbs ++ [])) = Lib.itoa n := by
      rw [List.append_nil, hd]
      unfold Lib.itoa
      by_cases hn : n < 0
      · rw [decide_eq_true hn, if_pos hn]; rfl
      · rw [decide_eq_false hn, if_neg hn, show n.natAbs = n.toNat by omega]; rfl
    rw [e] at h
    exact h
theorem fmt_impl (n : Int) (h0 : -9223372036854775808 ≤ n) (h1 : n ≤ 9223372036854775807) : impl_FormatInt.f n = some ⟨(Lib.itoa n).toArray⟩ := by
  unfold impl_FormatInt.f strconv_Itoa.f
  rw [if_pos ⟨h0, h1⟩]
  rfl

def bs (l : List UInt8) : ByteArray := ⟨l.toArray⟩
theorem bs_app (a b : List UInt8) : bs a ++ bs b = bs (a ++ b) := by
  apply ByteArray.ext
  rw [ByteArray.data_append]
  simp [bs]
theorem bs_size (a : List UInt8) : (bs a).size = a.length := by simp [bs, ByteArray.size]

/-- One byte of a numeral: the number and the count of digits so far. -/
def dstep (p : Nat × Nat) (b : UInt8) : Nat × Nat := if 48 ≤ b.toNat ∧ b.toNat ≤ 57 then (p.1 * 10 + (b.toNat - 48), p.2 + 1) else p
theorem dfold_bound : ∀ (l : List UInt8) (p : Nat × Nat), p.1 < 10 ^ p.2 → (l.foldl dstep p).1 < 10 ^ (l.foldl dstep p).2
  | [], p, h => h
  | b :: r, p, h => by
    rw [List.foldl_cons]
    refine dfold_bound r _ ?_
    unfold dstep
    by_cases hb : 48 ≤ b.toNat ∧ b.toNat ≤ 57
    · rw [if_pos hb]
      show p.1 * 10 + (b.toNat - 48) < 10 ^ (p.2 + 1)
      rw [Nat.pow_succ]; omega
    · rw [if_neg hb]; exact h
theorem dfold_count : ∀ (l : List UInt8) (p : Nat × Nat), (l.foldl dstep p).2 ≤ p.2 + l.length
  | [], p => by simp
  | b :: r, p => by
    rw [List.foldl_cons]
    have := dfold_count r (dstep p b)
    have h2 : (dstep p b).2 ≤ p.2 + 1 := by unfold dstep; split <;> simp
    rw [List.length_cons]; omega
theorem digit_nat (d : Nat) (h : d < 10) : (UInt8.ofNat (48 + d)).toNat = 48 + d := by
  simp [UInt8.toNat_ofNat']; omega
theorem digs_fold (u : Nat) : ∀ p : Nat × Nat, (digs u).foldl dstep p = (p.1 * 10 ^ (digs u).length + u, p.2 + (digs u).length) := by
  induction u using Nat.strongRecOn with
  | _ u ih =>
    intro p
    by_cases h : u = 0
    · subst h; simp [digs]
    · rw [digs_step (by omega), List.foldl_append, ih (u / 10) (by omega) p, List.length_append, List.length_singleton, List.foldl_cons, List.foldl_nil]
      unfold dstep
      rw [digit_nat _ (by omega), if_pos (by omega), Nat.pow_succ]
      refine Prod.ext ?_ ?_
      · show (p.1 * 10 ^ (digs (u / 10)).length + u / 10) * 10 + (48 + u % 10 - 48) = p.1 * (10 ^ (digs (u / 10)).length * 10) + u
        rw [Nat.add_mul, Nat.mul_assoc]; omega
      · show p.2 + (digs (u / 10)).length + 1 = p.2 + ((digs (u / 10)).length + 1)
        omega
theorem digs_small (k : Nat) : ∀ u, u < 10 ^ k → (digs u).length ≤ k := by
  induction k with
  | zero => intro u h; have : u = 0 := by simpa using h
            subst this; simp [digs]
  | succ k ih =>
    intro u h
    by_cases h0 : u = 0
    · subst h0; simp [digs]
    · rw [digs_step (by omega), List.length_append, List.length_singleton]
      have := ih (u / 10) (by rw [Nat.pow_succ] at h; omega)
      omega
theorem digs_dec (u : Nat) : ∀ acc, Lib.decFrom acc (digs u) = some (acc * 10 ^ (digs u).length + u) := by
  induction u using Nat.strongRecOn with
  | _ u ih =>
    intro acc
    by_cases h : u = 0
    · subst h; simp [digs, Lib.decFrom]
    · have happ : ∀ (l : List UInt8) (acc : Nat) (r : Nat) (d : Nat), d < 10 → Lib.decFrom acc l = some r → Lib.decFrom acc (l ++ [UInt8.ofNat (48 + d)]) = some (r * 10 + d) := by
        intro l
        induction l with
        | nil =>
          intro acc r d hd hr
          obtain rfl := Option.some.inj hr
          simp only [List.nil_append, Lib.decFrom, Lib.digitVal]
          rw [digit_nat d hd, if_pos (by omega)]
          simp
        | cons b t ih2 =>
          intro acc r d hd hr
          simp only [List.cons_append, Lib.decFrom] at hr ⊢
          cases hq : Lib.digitVal b with
          | none => rw [hq] at hr; cases hr
          | some q => rw [hq] at hr; exact ih2 _ _ _ hd hr
      rw [digs_step (by omega), happ _ _ _ _ (by omega) (ih (u / 10) (by omega) acc), List.length_append, List.length_singleton, Nat.pow_succ]
      congr 1
      rw [Nat.add_mul, Nat.mul_assoc]; omega
theorem digs_head (u : Nat) : ∀ b r, digs u = b :: r → 48 ≤ b.toNat ∧ b.toNat ≤ 57 := by
  induction u using Nat.strongRecOn with
  | _ u ih =>
    intro b r h
    by_cases h0 : u = 0
    · subst h0; simp [digs] at h
    · rw [digs_step (by omega)] at h
      cases hq : digs (u / 10) with
      | nil =>
        rw [hq] at h
        obtain ⟨rfl, _⟩ := List.cons.inj h
        rw [digit_nat _ (by omega)]; omega
      | cons c t =>
        rw [hq] at h
        obtain ⟨rfl, _⟩ := List.cons.inj h
        by_cases h1 : u / 10 < u
        · exact ih (u / 10) h1 _ _ hq
        · omega
theorem itoa_pos {n : Int} (h : 0 < n) : Lib.itoa n = digs n.natAbs := by
  unfold Lib.itoa digs
  rw [if_neg (by omega), if_neg (by omega), show n.toNat = n.natAbs by omega]
theorem itoa_neg {n : Int} (h : n < 0) : Lib.itoa n = 45 :: digs n.natAbs := by
  unfold Lib.itoa digs
  rw [if_pos h, if_neg (by omega)]
/-- A small number's numeral is read back. -/
theorem atoi_itoa {n : Int} (h0 : -999999999 ≤ n) (h1 : n ≤ 999999999) : Lib.atoiAll (Lib.itoa n) = .ok n ∧ (Lib.itoa n).length ≤ 10 ∧
    ((Lib.itoa n).foldl dstep (0, 0)).2 ≤ 9 ∧ (if (Lib.itoa n).head? = some 45 then -((((Lib.itoa n).foldl dstep (0, 0)).1 : Nat) : Int) else ((((Lib.itoa n).foldl dstep (0, 0)).1 : Nat) : Int)) = n := by
  by_cases hz : n = 0
  · subst hz; decide +kernel
  have hl := digs_small 9 n.natAbs (by omega)
  have hne : digs n.natAbs ≠ [] := by rw [digs_step (by omega)]; simp
  have hdn : Lib.decNat (digs n.natAbs) = some n.natAbs := by
    unfold Lib.decNat
    rw [if_neg (by simpa using hne), digs_dec]; simp
  by_cases hn : n < 0
  · rw [itoa_neg hn]
    have hlen : (45 :: digs n.natAbs).length ≤ 10 := by rw [List.length_cons]; omega
    refine ⟨?_, hlen, ?_, ?_⟩
    · rw [Lib.atoiAll_short _ (by omega)]
      unfold Lib.atoi
      simp only [hdn]
      show Lib.NumEnd.ok (-(n.natAbs : Int)) = _
      congr 1; omega
    · rw [List.foldl_cons, show dstep (0, 0) 45 = (0, 0) from by decide, digs_fold]; show 0 + _ ≤ 9; omega
    · rw [List.foldl_cons, show dstep (0, 0) 45 = (0, 0) from by decide, digs_fold, if_pos (show (45 :: digs n.natAbs).head? = some 45 from rfl)]; show -(((0 * _ + n.natAbs : Nat)) : Int) = n; rw [Nat.zero_mul]; omega
  · rw [itoa_pos (by omega)]
    obtain ⟨b, r, hb⟩ : ∃ b r, digs n.natAbs = b :: r := by cases hq : digs n.natAbs with | nil => exact absurd hq hne | cons b r => exact ⟨b, r, rfl⟩
    have hbb := digs_head _ _ _ hb
    have n45 : b ≠ 45 := by intro e; subst e; revert hbb; decide
    have n43 : b ≠ 43 := by intro e; subst e; revert hbb; decide
    refine ⟨?_, by omega, ?_, ?_⟩
    · rw [Lib.atoiAll_short _ (by omega)]
      rw [hb] at hdn ⊢
      unfold Lib.atoi
      simp only [hdn, beq_iff_eq, n45, n43, if_false]
      show Lib.NumEnd.ok (n.natAbs : Int) = _
      congr 1; omega
    · rw [digs_fold]; show 0 + _ ≤ 9; omega
    · rw [if_neg (by rw [hb]; simpa using n45), digs_fold]; show (((0 * _ + n.natAbs : Nat)) : Int) = n; rw [Nat.zero_mul]; omega
/-- What the reference answers. -/
def numOf (l : List UInt8) : Int := if l.head? = some 45 then -((((l.take 11).foldl dstep (0, 0)).1 : Nat) : Int) else ((((l.take 11).foldl dstep (0, 0)).1 : Nat) : Int)
def specPI (l : List UInt8) : Int × Bool := if ((l.take 11).foldl dstep (0, 0)).2 > 9 then (0, false) else if l.length > 10 then (0, false) else if Lib.itoa (numOf l) = l then (numOf l, true) else (0, false)
theorem numOf_small {l : List UInt8} (h : ((l.take 11).foldl dstep (0, 0)).2 ≤ 9) : -999999999 ≤ numOf l ∧ numOf l ≤ 999999999 := by
  have hb := dfold_bound (l.take 11) (0, 0) (by decide)
  have hp : 10 ^ ((l.take 11).foldl dstep (0, 0)).2 ≤ 10 ^ 9 := Nat.pow_le_pow_right (by decide) h
  unfold numOf
  split <;> omega
theorem pi_same (l : List UInt8) : impl_ParseInt.parse l = specPI l := by
  by_cases hE : ∃ v, Lib.itoa v = l ∧ -999999999 ≤ v ∧ v ≤ 999999999
  · obtain ⟨v, rfl, h0, h1⟩ := hE
    obtain ⟨a1, a2, a3, a4⟩ := atoi_itoa h0 h1
    have ht : (Lib.itoa v).take 11 = Lib.itoa v := List.take_of_length_le (by omega)
    have hn : numOf (Lib.itoa v) = v := by unfold numOf; rw [ht]; exact a4
    unfold impl_ParseInt.parse specPI
    rw [a1, ht, hn, if_neg (by omega), if_neg (by omega), if_pos rfl]
    show (if Lib.itoa v = Lib.itoa v ∧ v ≤ 999999999 ∧ -999999999 ≤ v then (v, true) else (0, false)) = _
    rw [if_pos ⟨rfl, h1, h0⟩]
  · have hs : specPI l = (0, false) := by
      unfold specPI
      by_cases c1 : ((l.take 11).foldl dstep (0, 0)).2 > 9
      · rw [if_pos c1]
      · rw [if_neg c1]
        by_cases c2 : l.length > 10
        · rw [if_pos c2]
        · rw [if_neg c2, if_neg (fun e => hE ⟨_, e, (numOf_small (by omega)).1, (numOf_small (by omega)).2⟩)]
    rw [hs]
    unfold impl_ParseInt.parse
    rcases Lib.atoiAll l with v | _ | _
    · show (if Lib.itoa v = l ∧ v ≤ 999999999 ∧ -999999999 ≤ v then (v, true) else (0, false)) = _
      rw [if_neg (fun e => hE ⟨v, e.1, e.2.2, e.2.1⟩)]
    · rfl
    · rfl
theorem pi_impl (s : ByteArray) (hs : s.size ≤ 1048576) : impl_ParseInt.f s = some (specPI s.data.toList) := by
  unfold impl_ParseInt.f
  rw [if_pos (by omega), pi_same]

def valOf (l : List UInt8) : Int := if l.head? = some 45 then -(((l.foldl dstep (0, 0)).1 : Nat) : Int) else (((l.foldl dstep (0, 0)).1 : Nat) : Int)
theorem valOf_itoa (n : Int) : valOf (Lib.itoa n) = n := by
  by_cases hz : n = 0
  · subst hz; decide +kernel
  unfold valOf
  by_cases hn : n < 0
  · rw [itoa_neg hn, if_pos (show (45 :: digs n.natAbs).head? = some 45 from rfl), List.foldl_cons, show dstep (0, 0) 45 = (0, 0) from by decide, digs_fold]
    show -(((0 * _ + n.natAbs : Nat)) : Int) = n
    rw [Nat.zero_mul]; omega
  · rw [itoa_pos (by omega)]
    have hne : (digs n.natAbs).head? ≠ some 45 := by
      intro e
      cases hq : digs n.natAbs with
      | nil => rw [hq] at e; cases e
      | cons b r =>
        rw [hq] at e
        obtain rfl := Option.some.inj e
        have := digs_head _ _ _ hq
        revert this; decide
    rw [if_neg hne, digs_fold]
    show (((0 * _ + n.natAbs : Nat)) : Int) = n
    rw [Nat.zero_mul]; omega
theorem specPI_itoa2 {v : Int} (h0 : -999999999 ≤ v) (h1 : v ≤ 999999999) : specPI (Lib.itoa v) = (v, true) := by
  obtain ⟨a1, a2, a3, a4⟩ := atoi_itoa h0 h1
  have ht : (Lib.itoa v).take 11 = Lib.itoa v := List.take_of_length_le (by omega)
  have hn : numOf (Lib.itoa v) = v := by unfold numOf; rw [ht]; exact a4
  unfold specPI
  rw [ht, hn, if_neg (by omega), if_neg (by omega), if_pos rfl]
theorem specPI_far {w : Int} (h : ¬ (-999999999 ≤ w ∧ w ≤ 999999999)) : specPI (Lib.itoa w) = (0, false) := by
  unfold specPI
  by_cases c1 : (((Lib.itoa w).take 11).foldl dstep (0, 0)).2 > 9
  · rw [if_pos c1]
  · rw [if_neg c1]
    by_cases c2 : (Lib.itoa w).length > 10
    · rw [if_pos c2]
    · rw [if_neg c2, if_neg]
      intro e
      have hb := numOf_small (l := Lib.itoa w) (by omega)
      have : numOf (Lib.itoa w) = w := by
        have := congrArg valOf e
        rw [valOf_itoa, valOf_itoa] at this
        exact this
      omega

theorem str_cons (a : Int) (l : List Int) : strOfNums [a] ++ strOfNums l = strOfNums (a :: l) := by
  apply ByteArray.ext
  rw [ByteArray.data_append]
  simp [strOfNums]
theorem fixed_fit (w : Int) : ∀ (d : Nat) (n i : Int) (out : List Int), 0 ≤ n → n < 9223372036854775808 → n < (256 ^ d : Nat) → 0 ≤ i → i + d = w → w ≤ 7 → (out.length : Int) = i →
    ∃ s, Ev (fun k => spec_EncodeFixed.l0 k n w (strOfNums out) i) (strOfNums s) ∧ Ev (fun k => impl_EncodeFixed.l0 k n (List.replicate d 0 ++ out) ((d : Int) - 1)) (strOfNums s) := by
  intro d
  induction d with
  | zero =>
    intro n i out h0 hn h1 hi hw h7 ho
    refine ⟨out, ev_const (fun k => ?_), ev_const (fun k => ?_)⟩
    · simp only [spec_EncodeFixed.l0]
      rw [if_neg (by omega), if_neg (by omega)]
    · simp only [impl_EncodeFixed.l0]
      rw [if_neg (by omega), List.replicate_zero, List.nil_append]
  | succ d ih =>
    intro n i out h0 hn h1 hi hw h7 ho
    have hp : (256 ^ (d + 1) : Nat) = 256 ^ d * 256 := Nat.pow_succ ..
    obtain ⟨s, a, b⟩ := ih (n / 256) (i + 1) ((n % 256) :: out) (by omega) (by omega) (by omega) (by omega) (by omega) h7 (by simp; omega)
    refine ⟨s, Ev.step (fun k => ?_) a, Ev.step (fun k => ?_) b⟩
    · simp only [spec_EncodeFixed.l0]
      rw [if_pos (by omega), Option.bind_some, strOfNums_size, strOfNums_size, if_pos (by simp; omega), tdiv_nn h0, tmod_nn h0, w64 (n := n / 256) (by omega) (by omega), w64 (n := i + 1) (by omega) (by omega), str_cons, show n % 256 % 256 = n % 256 by omega]
    · simp only [impl_EncodeFixed.l0]
      rw [if_pos (by omega), if_pos (by omega), if_pos (by simp; omega), w64 (n := ((d + 1 : Nat) : Int) - 1 - 1) (by omega) (by omega), show (((d + 1 : Nat) : Int) - 1).toNat = d by omega, show ((d + 1 : Nat) : Int) - 1 - 1 = (d : Int) - 1 by omega]
      congr 1
      rw [List.replicate_succ', List.append_assoc, List.set_append_right _ _ (by simp)]
      simp
theorem fixed_over (w : Int) : ∀ (d : Nat) (n i : Int) (out : List Int), 0 ≤ n → n < 9223372036854775808 → ((256 ^ d : Nat) : Int) ≤ n → 0 ≤ i → i + d = w → w ≤ 7 → (out.length : Int) = i →
    Ev (fun k => spec_EncodeFixed.l0 k n w (strOfNums out) i) ⟨#[]⟩ := by
  intro d
  induction d with
  | zero =>
    intro n i out h0 hn h1 hi hw h7 ho
    refine ev_const (fun k => ?_)
    simp only [spec_EncodeFixed.l0]
    rw [if_neg (by omega), if_pos (by omega)]
  | succ d ih =>
    intro n i out h0 hn h1 hi hw h7 ho
    have hp : (256 ^ (d + 1) : Nat) = 256 ^ d * 256 := Nat.pow_succ ..
    refine Ev.step (fun k => ?_) (ih (n / 256) (i + 1) ((n % 256) :: out) (by omega) (by omega) (by omega) (by omega) (by omega) h7 (by simp; omega))
    simp only [spec_EncodeFixed.l0]
    rw [if_pos (by omega), Option.bind_some, strOfNums_size, strOfNums_size, if_pos (by simp; omega), tdiv_nn h0, tmod_nn h0, w64 (n := n / 256) (by omega) (by omega), w64 (n := i + 1) (by omega) (by omega), str_cons, show n % 256 % 256 = n % 256 by omega]
theorem fixedE_same (n w : Int) (hn0 : -9223372036854775808 ≤ n) (hn : n < 9223372036854775808) : ∃ s, Ev (fun k => spec_EncodeFixed.f k n w) s ∧ Ev (fun k => impl_EncodeFixed.f k n w) s := by
  unfold spec_EncodeFixed.f impl_EncodeFixed.f
  have hf1 : Ev (fun k => spec_EncodeFixed.j0 k n w true) ⟨#[]⟩ := ev_const (fun k => by simp [spec_EncodeFixed.j0])
  have hf2 : Ev (fun k => impl_EncodeFixed.j0 k n w true) ⟨#[]⟩ := ev_const (fun k => by simp [impl_EncodeFixed.j0])
  by_cases h1 : w < 1
  · refine ⟨⟨#[]⟩, ev_pure (a := false) (by unfold spec_l1In.f; rw [if_neg (by omega)]) (ev_ifn (by simp) hf1), ev_ifp h1 hf2⟩
  by_cases h7 : w > 7
  · refine ⟨⟨#[]⟩, ev_pure (a := false) (by unfold spec_l1In.f; rw [if_pos (by omega), decide_eq_false (by omega)]) (ev_ifn (by simp) hf1), ev_ifn h1 (ev_ifp h7 hf2)⟩
  have hin : spec_l1In.f w 1 7 = some true := by unfold spec_l1In.f; rw [if_pos (by omega), decide_eq_true (by omega)]
  by_cases h0 : n < 0
  · refine ⟨⟨#[]⟩, ev_pure hin (ev_ifp rfl ?_), ev_ifn h1 (ev_ifn h7 (ev_ifp h0 hf2))⟩
    rw [decide_eq_true h0]; exact hf1
  have hw8 : wrap64 (8 * w) = 8 * w := w64 (by omega) (by omega)
  have hsh : shl .i64 1 (8 * w) = ((256 ^ w.toNat : Nat) : Int) := by
    have : w = 1 ∨ w = 2 ∨ w = 3 ∨ w = 4 ∨ w = 5 ∨ w = 6 ∨ w = 7 := by omega
    rcases this with rfl | rfl | rfl | rfl | rfl | rfl | rfl <;> decide
  have hj0 : Ev (fun k => spec_EncodeFixed.l0 k n w (strOfNums []) 0) = Ev (fun k => spec_EncodeFixed.l0 k n w (⟨#[]⟩ : ByteArray) 0) := rfl
  by_cases c : n ≥ ((256 ^ w.toNat : Nat) : Int)
  · have a := fixed_over w w.toNat n 0 [] (by omega) hn c (by omega) (by omega) (by omega) (by simp)
    refine ⟨⟨#[]⟩, ev_pure hin (ev_ifp rfl ?_), ev_ifn h1 (ev_ifn h7 (ev_ifn h0 (ev_ifp (by omega) ?_)))⟩
    · rw [decide_eq_false h0]
      refine Ev.step (fun k => ?_) a
      simp only [spec_EncodeFixed.j0]
      rw [if_neg (by simp)]
      rfl
    · rw [hw8, hsh, decide_eq_true c]
      exact hf2
  · obtain ⟨s, a, b⟩ := fixed_fit w w.toNat n 0 [] (by omega) hn (by omega) (by omega) (by omega) (by omega) (by simp)
    refine ⟨strOfNums s, ev_pure hin (ev_ifp rfl ?_), ev_ifn h1 (ev_ifn h7 (ev_ifn h0 (ev_ifp (by omega) ?_)))⟩
    · rw [decide_eq_false h0]
      refine Ev.step (fun k => ?_) a
      simp only [spec_EncodeFixed.j0]
      rw [if_neg (by simp)]
      rfl
    · rw [hw8, hsh, decide_eq_false c]
      refine Ev.step (fun k => ?_) b
      simp only [impl_EncodeFixed.j0]
      rw [if_neg (by simp), if_pos (by omega), if_pos (by omega), w64 (n := w - 1) (by omega) (by omega), List.append_nil, show ((w.toNat : Nat) : Int) - 1 = w - 1 by omega]

set_option maxRecDepth 100000 in
theorem or128 (y : Int) (h0 : 0 ≤ y) (h1 : y < 256) : Go.bits .or .u8 y 128 = 128 + y % 128 := by
  have h := u8_or y 128 h0 h1 (by decide) (by decide)
  rw [h]
  have key : ∀ a : Fin 256, (a.val ||| 128) = 128 + a.val % 128 := by decide
  have := key ⟨y.toNat, by omega⟩
  simp only at this
  have e : (128 : Int).toNat = 128 := rfl
  rw [e, this]
  omega
/-- The bytes of a varint. -/
def vb : Nat → Int → List Int
  | 0, n => [n % 256]
  | d + 1, n => if n ≥ 128 then (128 + n % 128) :: vb d (n / 128) else [n % 256]
def encV (n : Int) : ByteArray := if 0 ≤ n ∧ n ≤ 562949953421311 then strOfNums (vb 8 n) else ⟨#[]⟩
theorem encV_in {n : Int} (h : 0 ≤ n ∧ n ≤ 562949953421311) : encV n = strOfNums (vb 8 n) := by unfold encV; rw [if_pos h]
theorem encV_out {n : Int} (h : ¬ (0 ≤ n ∧ n ≤ 562949953421311)) : encV n = ⟨#[]⟩ := by unfold encV; rw [if_neg h]
theorem implV_l0 : ∀ (d : Nat) (n : Int) (out : List Int), 0 ≤ n → n < (128 ^ (d + 1) : Nat) → n ≤ 562949953421311 → out.length + d ≤ 1000 → Ev (fun k => impl_EncodeVarint.l0 k n out) (strOfNums (out ++ vb d n)) := by
  intro d
  induction d with
  | zero =>
    intro n out h0 h1 hm ho
    refine ev_const (fun k => ?_)
    simp only [impl_EncodeVarint.l0, vb]
    rw [if_neg (by omega), if_pos (by omega)]
  | succ d ih =>
    intro n out h0 h1 hm ho
    simp only [vb]
    by_cases c : n ≥ 128
    · rw [if_pos c]
      have hp : (128 ^ (d + 1 + 1) : Nat) = 128 ^ (d + 1) * 128 := Nat.pow_succ ..
      have h := ih (n / 128) (out ++ [128 + n % 128]) (by omega) (by omega) (by omega) (by simp; omega)
      rw [List.append_assoc, List.singleton_append] at h
      refine Ev.step (fun k => ?_) h
      simp only [impl_EncodeVarint.l0]
      rw [if_pos c, if_pos (by omega), or128 _ (by omega) (by omega), show n % 256 % 128 = n % 128 by omega]
    · rw [if_neg c]
      refine ev_const (fun k => ?_)
      simp only [impl_EncodeVarint.l0]
      rw [if_neg c, if_pos (by omega)]
theorem implV_ev (n : Int) : Ev (fun k => impl_EncodeVarint.f k n) (encV n) := by
  unfold impl_EncodeVarint.f
  have hf : Ev (fun k => impl_EncodeVarint.j0 k n true) ⟨#[]⟩ := ev_const (fun k => by simp [impl_EncodeVarint.j0])
  by_cases h0 : n < 0
  · rw [encV_out (by omega)]
    exact ev_ifp h0 hf
  · refine ev_ifn h0 ?_
    by_cases h1 : n > 562949953421311
    · rw [encV_out (by omega), decide_eq_true h1]; exact hf
    · rw [encV_in (by omega), decide_eq_false h1]
      refine Ev.step (fun k => ?_) (implV_l0 8 n [] (by omega) (by omega) (by omega) (by simp))
      simp only [impl_EncodeVarint.j0]
      rw [if_neg (by simp)]

/-- What d groups from j on tell, the least first. -/
def gU (s : ByteArray) : Nat → Nat → Int
  | 0, _ => 0
  | d + 1, j => bt s (j : Int) % 128 + 128 * gU s d (j + 1)
theorem gU_bound (s : ByteArray) : ∀ (d j : Nat), 0 ≤ gU s d j ∧ gU s d j < (128 ^ d : Nat)
  | 0, j => by simp [gU]
  | d + 1, j => by
    have h := gU_bound s d (j + 1)
    have hp : (128 ^ (d + 1) : Nat) = 128 ^ d * 128 := Nat.pow_succ ..
    simp only [gU]
    omega
theorem gU_snoc (s : ByteArray) : ∀ (d j : Nat), gU s (d + 1) j = gU s d j + bt s ((j + d : Nat) : Int) % 128 * (128 ^ d : Nat)
  | 0, j => by simp [gU]
  | d + 1, j => by
    have h := gU_snoc s d (j + 1)
    have e : gU s (d + 1 + 1) j = bt s (j : Int) % 128 + 128 * gU s (d + 1) (j + 1) := rfl
    have e2 : gU s (d + 1) j = bt s (j : Int) % 128 + 128 * gU s d (j + 1) := rfl
    have e3 : j + 1 + d = j + (d + 1) := by omega
    have hp : ((128 ^ (d + 1) : Nat) : Int) = (128 ^ d : Nat) * 128 := by rw [Nat.pow_succ]; push_cast; rfl
    rw [e, h, e2, e3, hp]
    generalize ((128 ^ d : Nat) : Int) = p
    generalize bt s ((j + (d + 1) : Nat) : Int) % 128 = q
    generalize gU s d (j + 1) = g
    have : q * (p * 128) = 128 * (q * p) := by rw [← Int.mul_assoc, Int.mul_comm]
    rw [this]
    omega
theorem pow7 {k : Nat} (h : k ≤ 7) : (128 ^ k : Nat) ≤ 562949953421312 := by
  have : (128 ^ k : Nat) ≤ 128 ^ 7 := Nat.pow_le_pow_right (by omega) h
  have e : (128 ^ 7 : Nat) = 562949953421312 := by decide
  omega
/-- Do the first k bytes spell what they tell? -/
def okV (s : ByteArray) (k : Nat) : Prop := (encV (gU s k 0)).toList = (s.extract 0 k).toList
theorem or_up (x c : Int) (i : Nat) (hi : i ≤ 6) (h0 : 0 ≤ x) (h1 : x < (128 ^ i : Nat)) (hc0 : 0 ≤ c) (hc : c < 128) : Go.bits .or .i64 x (shl .i64 c (7 * (i : Int))) = x + c * (128 ^ i : Nat) := by
  have hpw : (128 ^ i : Nat) = 2 ^ (7 * i) := by rw [Nat.pow_mul]
  have hp := pow7 (k := i) (by omega)
  have hp2 := pow7 (k := i + 1) (by omega)
  rw [Nat.pow_succ] at hp2
  have hcp : 0 ≤ c * (128 ^ i : Nat) ∧ c * (128 ^ i : Nat) ≤ 127 * (128 ^ i : Nat) := ⟨Int.mul_nonneg hc0 (by omega), Int.mul_le_mul_of_nonneg_right (by omega) (by omega)⟩
  have hs : shl .i64 c (7 * (i : Int)) = c * (128 ^ i : Nat) := by
    unfold shl
    have : min (7 * (i : Int)).toNat IntKind.i64.bits = 7 * i := by
      have e : IntKind.i64.bits = 64 := rfl
      rw [e]; omega
    rw [this, IntKind.wrap_i64]
    have e2 : (2 : Int) ^ (7 * i) = ((128 ^ i : Nat) : Int) := by rw [hpw]; push_cast; rfl
    rw [e2]
    omega
  rw [hs]
  obtain ⟨a, rfl⟩ := Int.eq_ofNat_of_zero_le h0
  obtain ⟨b, hb⟩ := Int.eq_ofNat_of_zero_le hcp.1
  rw [hb] at hcp ⊢
  have hw : ∀ n : Int, 0 ≤ n → n < 2 ^ 62 → IntKind.i64.wrap n = n := fun n p q => by rw [IntKind.wrap_i64]; omega
  have e1 := (bits_nat .i64 62 (by decide) hw a b (by omega) (by omega)).2
  have e2 := (bits_nat .i64 62 (by decide) hw b a (by omega) (by omega)).2
  have hd : (b : Int) % 2 ^ (7 * i) = 0 := by
    have e3 : (2 : Int) ^ (7 * i) = ((128 ^ i : Nat) : Int) := by rw [hpw]; push_cast; rfl
    rw [e3, ← hb]
    exact Int.mul_emod_left _ _
  have e4 := bits_join .i64 62 (by decide) hw (7 * i) (b : Int) (a : Int) (by omega) hd (by omega) (by omega) (by
    have e3 : (2 : Int) ^ (7 * i) = ((128 ^ i : Nat) : Int) := by rw [hpw]; push_cast; rfl
    rw [e3]; exact h1) (by omega)
  rw [e1, Nat.or_comm, ← e2, e4]
  omega
theorem implD_step (s : ByteArray) (i : Nat) (hi : i ≤ 6) (his : i < s.size) : Go.bits .or .i64 (gU s i 0) (shl .i64 (wrap64 (Go.bits .and .u8 (bt s (i : Int)) 127)) (wrap64 (7 * (i : Int)))) = gU s (i + 1) 0 := by
  have hr := bt_range s (i : Int)
  have hb := gU_bound s i 0
  have hm : Go.bits .and .u8 (bt s (i : Int)) 127 = bt s (i : Int) % 128 := bits_mask .u8 8 (by decide) wraps_u8 7 (by decide) _ hr.1 (by omega)
  rw [hm, w64 (n := bt s (i : Int) % 128) (by omega) (by omega), w64 (n := 7 * (i : Int)) (by omega) (by omega), or_up _ _ i hi hb.1 hb.2 (by omega) (by omega), gU_snoc, Nat.zero_add]

theorem size_list3 (s : ByteArray) : s.size = s.data.toList.length := (Array.length_toList (xs := s.data)).symm
theorem bt_list3 (s : ByteArray) (i : Nat) (h : i < s.data.toList.length) : bt s (i : Int) = ((s.data.toList[i]'h).toNat : Int) := by
  have h' : i < s.size := by rw [size_list3]; exact h
  unfold bt
  rw [dif_pos (show (i : Int).toNat < s.size from by rw [Int.toNat_natCast]; exact h')]
  rfl

theorem p128_9 : (128 ^ (8 + 1) : Nat) = 9223372036854775808 := by decide
theorem p128_7 : (128 ^ (6 + 1) : Nat) = 562949953421312 := by decide
theorem vb_len : ∀ (d : Nat) (n : Int), n < (128 ^ (d + 1) : Nat) → 0 ≤ n → 1 ≤ (vb d n).length ∧ (vb d n).length ≤ d + 1
  | 0, n, _, _ => by simp [vb]
  | d + 1, n, h, h0 => by
    simp only [vb]
    by_cases c : n ≥ 128
    · rw [if_pos c]
      have hp : (128 ^ (d + 1 + 1) : Nat) = 128 ^ (d + 1) * 128 := Nat.pow_succ ..
      have := vb_len d (n / 128) (by omega) (by omega)
      rw [List.length_cons]; omega
    · rw [if_neg c]; simp
theorem vb_short : ∀ (d : Nat) (n : Int) (e : Nat), 0 ≤ n → n < (128 ^ (e + 1) : Nat) → (vb d n).length ≤ e + 1
  | 0, n, e, _, _ => by simp [vb]
  | d + 1, n, e, h0, h1 => by
    simp only [vb]
    by_cases c : n ≥ 128
    · rw [if_pos c, List.length_cons]
      cases e with
      | zero =>
        have : (128 ^ (0 + 1) : Nat) = 128 := rfl
        omega
      | succ e =>
        have hp : (128 ^ (e + 1 + 1) : Nat) = 128 ^ (e + 1) * 128 := Nat.pow_succ ..
        have := vb_short d (n / 128) e (by omega) (by omega)
        omega
    · rw [if_neg c]; simp
theorem vb_range : ∀ (d : Nat) (n : Int), 0 ≤ n → ∀ x ∈ vb d n, 0 ≤ x ∧ x < 256
  | 0, n, h0 => by intro x hx; simp only [vb, List.mem_singleton] at hx; omega
  | d + 1, n, h0 => by
    intro x hx
    simp only [vb] at hx
    by_cases c : n ≥ 128
    · rw [if_pos c, List.mem_cons] at hx
      rcases hx with rfl | hx
      · omega
      · exact vb_range d (n / 128) (by omega) x hx
    · rw [if_neg c, List.mem_singleton] at hx; omega
theorem vb_read (S : ByteArray) : ∀ (d : Nat) (n : Int) (j : Nat), 0 ≤ n → n < (128 ^ (d + 1) : Nat) → (∀ q (hq : q < (vb d n).length), bt S ((j + q : Nat) : Int) = (vb d n)[q]) →
    gU S (vb d n).length j = n ∧ (∀ q, q + 1 < (vb d n).length → 128 ≤ bt S ((j + q : Nat) : Int)) ∧ bt S ((j + ((vb d n).length - 1) : Nat) : Int) < 128 := by
  intro d
  induction d with
  | zero =>
    intro n j h0 h1 hq
    have h2 : n < 128 := by simpa using h1
    have hv : vb 0 n = [n % 256] := rfl
    rw [hv] at hq ⊢
    have := hq 0 (by simp)
    simp only [Nat.add_zero, List.getElem_cons_zero] at this
    refine ⟨?_, fun q hq' => by simp at hq', ?_⟩
    · show gU S 1 j = n
      simp only [gU]
      rw [this]; omega
    · show bt S ((j + 0 : Nat) : Int) < 128
      rw [Nat.add_zero, this]; omega
  | succ d ih =>
    intro n j h0 h1 hq
    by_cases c : n ≥ 128
    · have hv : vb (d + 1) n = (128 + n % 128) :: vb d (n / 128) := by simp only [vb]; rw [if_pos c]
      rw [hv] at hq ⊢
      have hp : (128 ^ (d + 1 + 1) : Nat) = 128 ^ (d + 1) * 128 := Nat.pow_succ ..
      have hh := hq 0 (by simp)
      simp only [Nat.add_zero, List.getElem_cons_zero] at hh
      have ht : ∀ q (hq' : q < (vb d (n / 128)).length), bt S ((j + 1 + q : Nat) : Int) = (vb d (n / 128))[q] := by
        intro q hq'
        have := hq (q + 1) (by rw [List.length_cons]; omega)
        rw [List.getElem_cons_succ] at this
        rw [show j + 1 + q = j + (q + 1) by omega]
        exact this
      obtain ⟨i1, i2, i3⟩ := ih (n / 128) (j + 1) (by omega) (by omega) ht
      have hl := vb_len d (n / 128) (by omega) (by omega)
      refine ⟨?_, ?_, ?_⟩
      · rw [List.length_cons]
        simp only [gU]
        rw [i1, hh]; omega
      · intro q hq'
        cases q with
        | zero => rw [Nat.add_zero, hh]; omega
        | succ q =>
          rw [List.length_cons] at hq'
          have := i2 q (by omega)
          rw [show j + (q + 1) = j + 1 + q by omega]
          exact this
      · rw [List.length_cons, show j + ((vb d (n / 128)).length + 1 - 1) = j + 1 + ((vb d (n / 128)).length - 1) by omega]
        exact i3
    · have hv : vb (d + 1) n = [n % 256] := by simp only [vb]; rw [if_neg c]
      rw [hv] at hq ⊢
      have := hq 0 (by simp)
      simp only [Nat.add_zero, List.getElem_cons_zero] at this
      refine ⟨?_, fun q hq' => by simp at hq', ?_⟩
      · show gU S 1 j = n
        simp only [gU]
        rw [this]; omega
      · show bt S ((j + 0 : Nat) : Int) < 128
        rw [Nat.add_zero, this]; omega
theorem bt_left (A B : ByteArray) (i : Nat) (h : i < A.size) : bt (A ++ B) (i : Int) = bt A (i : Int) := by
  have e : (A ++ B).data.toList = A.data.toList ++ B.data.toList := by rw [ByteArray.data_append, Array.toList_append]
  have h1 : i < A.data.toList.length := by rw [← size_list3]; exact h
  have h2 : i < (A ++ B).data.toList.length := by rw [e, List.length_append]; omega
  rw [bt_list3 _ i h2, bt_list3 _ i h1, List.getElem_of_eq e h2, List.getElem_append_left h1]
theorem bt_nums (xs : List Int) (hx : ∀ x ∈ xs, 0 ≤ x ∧ x < 256) (i : Nat) (h : i < xs.length) : bt (strOfNums xs) (i : Int) = xs[i] := by
  have e : (strOfNums xs).data.toList = xs.map fun n => UInt8.ofNat n.toNat := strOfNums_data xs
  have h2 : i < (strOfNums xs).data.toList.length := by rw [e, List.length_map]; exact h
  have hr := hx xs[i] (List.getElem_mem h)
  rw [bt_list3 _ i h2, List.getElem_of_eq e h2, List.getElem_map, UInt8.toNat_ofNat']
  omega
/-- DecodeVarint answers, whatever the text. -/
theorem decV_some (s : ByteArray) (hs : s.size ≤ 1048576) : ∃ r, Ev (fun k => impl_DecodeVarint.f k s) r := by
  unfold impl_DecodeVarint.f
  have hmn : mn 7 (s.size : Int) = ((min 7 s.size : Nat) : Int) := by unfold mn; split <;> omega
  have key : ∀ d i : Nat, min 7 s.size - i = d → i ≤ min 7 s.size → ∃ r, Ev (fun k => impl_DecodeVarint.l0 k s (gU s i 0) (i : Int)) r := by
    intro d
    induction d with
    | zero =>
      intro i hd hi
      refine ⟨(0, 0), ev_const (fun k => ?_)⟩
      simp only [impl_DecodeVarint.l0]
      rw [hmn, if_neg (by omega)]
    | succ d ih =>
      intro i hd hi
      by_cases hb : bt s (i : Int) < 128
      · by_cases c : okV s (i + 1)
        · refine ⟨(gU s (i + 1) 0, ((i + 1 : Nat) : Int)), ?_⟩
          apply Ev.step
          · intro k; simp only [impl_DecodeVarint.l0]; rfl
          rw [hmn]
          refine ev_ifp (by omega) (ev_ifp (by omega) (ev_ifp (by omega) (ev_ifp (by rw [w64 (by omega) (by omega)]; omega) (ev_ifp hb ?_))))
          rw [implD_step s i (by omega) (by omega)]
          refine Ev.bind (implV_ev _) ?_
          rw [wS (n := 8) (i := i) (by omega) (by omega)]
          refine ev_ifp (by omega) (ev_ifp (by omega) ?_)
          rw [Int.toNat_natCast]
          exact ev_ifp c (ev_some _)
        · refine ⟨(0, 0), ?_⟩
          apply Ev.step
          · intro k; simp only [impl_DecodeVarint.l0]; rfl
          rw [hmn]
          refine ev_ifp (by omega) (ev_ifp (by omega) (ev_ifp (by omega) (ev_ifp (by rw [w64 (by omega) (by omega)]; omega) (ev_ifp hb ?_))))
          rw [implD_step s i (by omega) (by omega)]
          refine Ev.bind (implV_ev _) ?_
          rw [wS (n := 8) (i := i) (by omega) (by omega)]
          refine ev_ifp (by omega) (ev_ifp (by omega) ?_)
          rw [Int.toNat_natCast]
          exact ev_ifn c (ev_some _)
      · obtain ⟨r, h⟩ := ih (i + 1) (by omega) (by omega)
        refine ⟨r, Ev.step (fun k => ?_) h⟩
        simp only [impl_DecodeVarint.l0]
        rw [hmn, if_pos (by omega), if_pos (by omega), if_pos (by omega), if_pos (by rw [w64 (by omega) (by omega)]; omega), if_neg (by omega), implD_step s i (by omega) (by omega), wS (n := 8) (i := i) (by omega) (by omega)]
  obtain ⟨r, h⟩ := key (min 7 s.size) 0 (by omega) (by omega)
  exact ⟨r, by simpa [gU] using h⟩
theorem decV_round (n : Int) (tail : ByteArray) (h0 : 0 ≤ n) (h1 : n ≤ 562949953421311) (ht : tail.size ≤ 1000) : Ev (fun k => impl_DecodeVarint.f k (encV n ++ tail)) (n, ((encV n).size : Int)) := by
  have hv : encV n = strOfNums (vb 8 n) := encV_in ⟨h0, h1⟩
  have hr := vb_range 8 n h0
  have hsz : (encV n).size = (vb 8 n).length := by rw [hv, strOfNums_size]
  have hS : (encV n ++ tail).size = (vb 8 n).length + tail.size := by rw [ByteArray.size_append, hsz]
  have hread := vb_read (encV n ++ tail) 8 n 0 h0 (by have := p128_9; omega) (fun q hq => by rw [Nat.zero_add, bt_left _ _ q (by rw [hsz]; exact hq), hv]; exact bt_nums _ hr q hq)
  have h7 : (vb 8 n).length ≤ 7 := vb_short 8 n 6 h0 (by have := p128_7; omega)
  have h1' := (vb_len 8 n (by have := p128_9; omega) h0).1
  obtain ⟨g1, g2, g3⟩ := hread
  generalize hm : (vb 8 n).length = m at *
  generalize hSS : encV n ++ tail = S at *
  have hok : okV S m := by
    unfold okV
    rw [g1]
    rw [Lib.toList_data, Lib.toList_data, Lib.extract_data, ← hSS, ByteArray.data_append, Array.toList_append, List.drop_zero, Nat.sub_zero]
    rw [List.take_left' (by rw [Array.length_toList]; show (encV n).size = m; exact hsz)]
  have hmn : mn 7 (S.size : Int) = ((min 7 S.size : Nat) : Int) := by unfold mn; split <;> omega
  unfold impl_DecodeVarint.f
  have hgo : ∀ i, i + 1 < m → Ev (fun k => impl_DecodeVarint.l0 k S (gU S (i + 1) 0) ((i + 1 : Nat) : Int)) (n, (m : Int)) → Ev (fun k => impl_DecodeVarint.l0 k S (gU S i 0) (i : Int)) (n, (m : Int)) := by
    intro i hi h
    have hb := g2 i hi
    rw [Nat.zero_add] at hb
    refine Ev.step (fun k => ?_) h
    simp only [impl_DecodeVarint.l0]
    rw [hmn, if_pos (by omega), if_pos (by omega), if_pos (by omega), if_pos (by rw [w64 (by omega) (by omega)]; omega), if_neg (by omega), implD_step S i (by omega) (by omega), wS (n := 8) (i := i) (by omega) (by omega)]
  rw [Nat.zero_add] at g3
  have hlast : Ev (fun k => impl_DecodeVarint.l0 k S (gU S (m - 1) 0) ((m - 1 : Nat) : Int)) (n, (m : Int)) := by
    have hm1 : m - 1 + 1 = m := by omega
    apply Ev.step
    · intro k; simp only [impl_DecodeVarint.l0]; rfl
    rw [hmn]
    refine ev_ifp (by omega) (ev_ifp (by omega) (ev_ifp (by omega) (ev_ifp (by rw [w64 (by omega) (by omega)]; omega) (ev_ifp g3 ?_))))
    rw [implD_step S (m - 1) (by omega) (by omega), hm1, g1]
    refine Ev.bind (implV_ev _) ?_
    rw [wS (n := 8) (i := m - 1) (by omega) (by omega), hm1]
    refine ev_ifp (by omega) (ev_ifp (by omega) ?_)
    rw [Int.toNat_natCast]
    have hok' := hok
    unfold okV at hok'
    rw [g1] at hok'
    exact ev_ifp hok' (ev_some _)
  have := down_ev (m - 1) (fun k i => impl_DecodeVarint.l0 k S (gU S i 0) (i : Int)) (n, (m : Int)) (fun i hi ih => hgo i (by omega) ih) hlast
  rw [hsz]
  simpa [gU] using this

theorem ev_uniq {α : Type} {g : Nat → Option α} {a b : α} (h : Ev g a) (k : Ev g b) : a = b := by
  obtain ⟨K, hK⟩ := h
  obtain ⟨M, hM⟩ := k
  exact Option.some.inj ((hK (max K M) (by omega)).symm.trans (hM (max K M) (by omega)))
def be : Nat → Int → List Int
  | 0, _ => []
  | d + 1, n => be d (n / 256) ++ [n % 256]
theorem be_len : ∀ (d : Nat) (n : Int), (be d n).length = d
  | 0, _ => rfl
  | d + 1, n => by rw [be, List.length_append, be_len d]; rfl
theorem be_range : ∀ (d : Nat) (n : Int), ∀ x ∈ be d n, 0 ≤ x ∧ x < 256
  | 0, n => by intro x hx; simp [be] at hx
  | d + 1, n => by
    intro x hx
    rw [be, List.mem_append, List.mem_singleton] at hx
    rcases hx with hx | rfl
    · exact be_range d (n / 256) x hx
    · omega
theorem encF_loop : ∀ (d : Nat) (n : Int) (out : List Int), 0 ≤ n → d ≤ 7 → Ev (fun k => impl_EncodeFixed.l0 k n (List.replicate d 0 ++ out) ((d : Int) - 1)) (strOfNums (be d n ++ out)) := by
  intro d
  induction d with
  | zero =>
    intro n out h0 hd
    refine ev_const (fun k => ?_)
    simp only [impl_EncodeFixed.l0]
    rw [if_neg (by omega), List.replicate_zero, List.nil_append]
    rfl
  | succ d ih =>
    intro n out h0 hd
    have h := ih (n / 256) ((n % 256) :: out) (by omega) (by omega)
    rw [be, List.append_assoc]
    refine Ev.step (fun k => ?_) h
    simp only [impl_EncodeFixed.l0]
    rw [if_pos (by omega), if_pos (by omega), if_pos (by simp; omega), w64 (n := ((d + 1 : Nat) : Int) - 1 - 1) (by omega) (by omega), show (((d + 1 : Nat) : Int) - 1).toNat = d by omega, show ((d + 1 : Nat) : Int) - 1 - 1 = (d : Int) - 1 by omega]
    congr 1
    rw [List.replicate_succ', List.append_assoc, List.set_append_right _ _ (by simp)]
    simp
/-- The number that the first w bytes spell, the greatest ahead. -/
def bv (S : ByteArray) : Nat → Int
  | 0 => 0
  | i + 1 => bv S i * 256 + bt S (i : Int)
theorem bv_bound (S : ByteArray) : ∀ i : Nat, 0 ≤ bv S i ∧ bv S i < (256 ^ i : Nat)
  | 0 => by simp [bv]
  | i + 1 => by
    have h := bv_bound S i
    have hb := bt_range S (i : Int)
    have hp : (256 ^ (i + 1) : Nat) = 256 ^ i * 256 := Nat.pow_succ ..
    simp only [bv]
    omega
theorem decF_loop (S : ByteArray) (w : Nat) (hw : w ≤ 7) (hS : w ≤ S.size) : Ev (fun k => impl_DecodeFixed.l0 k S 0 (w : Int) 0) (bv S w, true) := by
  have := down_ev w (fun k i => impl_DecodeFixed.l0 k S (bv S i) (w : Int) (i : Int)) (bv S w, true) (fun i hi h => by
    have hb := bv_bound S i
    have hr := bt_range S (i : Int)
    have hp : (256 ^ i : Nat) ≤ 256 ^ 6 := Nat.pow_le_pow_right (by decide) (by omega)
    have hp6 : (256 ^ 6 : Nat) = 281474976710656 := by decide
    refine Ev.step (fun k => ?_) h
    simp only [impl_DecodeFixed.l0]
    rw [if_pos (by omega), if_pos (by omega), if_pos (by omega), w64 (n := bv S i * 256) (by omega) (by omega), w64 (n := bt S (i : Int)) (by omega) (by omega),
      or_low (bv S i * 256) (bt S (i : Int)) (by omega) (by omega) (by omega) hr.1 (by omega), wS (n := 8) (i := i) (by omega) (by omega)]
    rfl) (ev_const (fun k => by
    simp only [impl_DecodeFixed.l0]
    rw [if_neg (by omega)]))
  simpa [bv] using this
theorem decF_ev (S : ByteArray) (w : Int) : ∃ r, Ev (fun k => impl_DecodeFixed.f k S w) r ∧ (1 ≤ w → w ≤ 7 → w ≤ (S.size : Int) → r = (bv S w.toNat, true)) := by
  have hf : Ev (fun k => impl_DecodeFixed.j0 k S w true) (0, false) := ev_const (fun k => by simp [impl_DecodeFixed.j0])
  unfold impl_DecodeFixed.f
  by_cases h1 : w < 1
  · exact ⟨_, ev_ifp h1 hf, fun h => by omega⟩
  by_cases h7 : w > 7
  · exact ⟨_, ev_ifn h1 (ev_ifp h7 hf), fun _ h => by omega⟩
  by_cases hs : (S.size : Int) < w
  · refine ⟨(0, false), ev_ifn h1 (ev_ifn h7 ?_), fun _ _ h => absurd h (by omega)⟩
    rw [decide_eq_true hs]; exact hf
  · refine ⟨(bv S w.toNat, true), ev_ifn h1 (ev_ifn h7 ?_), fun _ _ _ => rfl⟩
    rw [decide_eq_false hs]
    have h := decF_loop S w.toNat (by omega) (by omega)
    rw [show ((w.toNat : Nat) : Int) = w by omega] at h
    refine Ev.step (fun k => ?_) h
    simp only [impl_DecodeFixed.j0]
    rw [if_neg (by simp)]
theorem be_read (S : ByteArray) : ∀ (w : Nat) (n : Int), 0 ≤ n → n < (256 ^ w : Nat) → (∀ q (hq : q < (be w n).length), bt S (q : Int) = (be w n)[q]) → bv S w = n
  | 0, n, h0, h1, _ => by
    have : (256 ^ 0 : Nat) = 1 := rfl
    show (0 : Int) = n
    omega
  | w + 1, n, h0, h1, hq => by
    have hp : (256 ^ (w + 1) : Nat) = 256 ^ w * 256 := Nat.pow_succ ..
    have hl := be_len w (n / 256)
    have ih := be_read S w (n / 256) (by omega) (by omega) (fun q hq' => by
      have := hq q (by rw [be, List.length_append, List.length_singleton]; omega)
      rw [this]
      simp only [be]
      rw [List.getElem_append_left hq'])
    have hlast := hq w (by rw [be_len]; omega)
    simp only [be] at hlast
    rw [List.getElem_append_right (by omega)] at hlast
    simp only [hl, Nat.sub_self, List.getElem_cons_zero] at hlast
    simp only [bv]
    rw [ih, hlast]
    omega
theorem fixed_round (n w : Int) (tail : ByteArray) (hn0 : -9223372036854775808 ≤ n) (hn : n < 9223372036854775808) : ∃ f, Ev (fun k => impl_EncodeFixed.f k n w) f ∧ f.size ≤ 7 ∧
    (f = ⟨#[]⟩ ∨ (f.toList ≠ [] ∧ (f.size : Int) = w ∧ Ev (fun k => impl_DecodeFixed.f k (f ++ tail) w) (n, true))) := by
  have hf2 : Ev (fun k => impl_EncodeFixed.j0 k n w true) ⟨#[]⟩ := ev_const (fun k => by simp [impl_EncodeFixed.j0])
  unfold impl_EncodeFixed.f
  by_cases h1 : w < 1
  · exact ⟨⟨#[]⟩, ev_ifp h1 hf2, by decide, .inl rfl⟩
  by_cases h7 : w > 7
  · exact ⟨⟨#[]⟩, ev_ifn h1 (ev_ifp h7 hf2), by decide, .inl rfl⟩
  by_cases h0 : n < 0
  · exact ⟨⟨#[]⟩, ev_ifn h1 (ev_ifn h7 (ev_ifp h0 hf2)), by decide, .inl rfl⟩
  have hw8 : wrap64 (8 * w) = 8 * w := w64 (by omega) (by omega)
  have hsh : shl .i64 1 (8 * w) = ((256 ^ w.toNat : Nat) : Int) := by
    have : w = 1 ∨ w = 2 ∨ w = 3 ∨ w = 4 ∨ w = 5 ∨ w = 6 ∨ w = 7 := by omega
    rcases this with rfl | rfl | rfl | rfl | rfl | rfl | rfl <;> decide
  by_cases c : n ≥ ((256 ^ w.toNat : Nat) : Int)
  · refine ⟨⟨#[]⟩, ev_ifn h1 (ev_ifn h7 (ev_ifn h0 (ev_ifp (by omega) ?_))), by decide, .inl rfl⟩
    rw [hw8, hsh, decide_eq_true c]
    exact hf2
  · have b := encF_loop w.toNat n [] (by omega) (by omega)
    rw [List.append_nil, List.append_nil] at b
    have hsz : (strOfNums (be w.toNat n)).size = w.toNat := by rw [strOfNums_size, be_len]
    refine ⟨strOfNums (be w.toNat n), ev_ifn h1 (ev_ifn h7 (ev_ifn h0 (ev_ifp (by omega) ?_))), by rw [hsz]; omega, .inr ⟨?_, by rw [hsz]; omega, ?_⟩⟩
    · rw [hw8, hsh, decide_eq_false c]
      refine Ev.step (fun k => ?_) b
      simp only [impl_EncodeFixed.j0]
      rw [if_neg (by simp), if_pos (by omega), if_pos (by omega), w64 (n := w - 1) (by omega) (by omega), show ((w.toNat : Nat) : Int) - 1 = w - 1 by omega]
    · rw [Lib.toList_data]
      intro e
      have := congrArg List.length e
      rw [Array.length_toList] at this
      have h2 : (strOfNums (be w.toNat n)).size = 0 := this
      omega
    · obtain ⟨r, e, hr⟩ := decF_ev (strOfNums (be w.toNat n) ++ tail) w
      have hS : (strOfNums (be w.toNat n) ++ tail).size = w.toNat + tail.size := by rw [ByteArray.size_append, hsz]
      have := hr (by omega) (by omega) (by omega)
      rw [this, be_read _ w.toNat n (by omega) (by omega) (fun q hq => by
        rw [bt_left _ _ q (by rw [hsz]; rw [be_len] at hq; exact hq)]
        exact bt_nums _ (be_range _ _) q hq)] at e
      exact e

def hexd : ByteArray := ⟨#[48, 49, 50, 51, 52, 53, 54, 55, 56, 57, 97, 98, 99, 100, 101, 102]⟩
def hx (c : Int) : Int := Go.Lib.indexByte hexd.data.toList c.toNat.toUInt8
theorem hx_or : ∀ a b : Fin 16, Go.bits .or .i64 (wrap64 (((a.val : Nat) : Int) * 16)) ((b.val : Nat) : Int) = 16 * ((a.val : Nat) : Int) + ((b.val : Nat) : Int) := by decide +kernel
theorem hx_join {a b : Int} (a0 : 0 ≤ a) (a1 : a < 16) (b0 : 0 ≤ b) (b1 : b < 16) : Go.bits .or .i64 (wrap64 (a * 16)) b = 16 * a + b := by
  have := hx_or ⟨a.toNat, by omega⟩ ⟨b.toNat, by omega⟩
  simp only at this
  rw [show ((a.toNat : Nat) : Int) = a by omega, show ((b.toNat : Nat) : Int) = b by omega] at this
  exact this
/-- What the digits from place 2 j on give, d pairs of them. -/
def dh (s : ByteArray) : Nat → Nat → List Int → ByteArray × Bool
  | 0, _, out => (strOfNums out, true)
  | d + 1, j, out => if hx (bt s (2 * (j : Int))) < 0 then (⟨#[]⟩, false) else if hx (bt s (2 * (j : Int) + 1)) < 0 then (⟨#[]⟩, false) else dh s d (j + 1) (out ++ [(16 * hx (bt s (2 * (j : Int))) + hx (bt s (2 * (j : Int) + 1))) % 256])

theorem hx_fin : ∀ c : Fin 256, -1 ≤ hx ((c.val : Nat) : Int) ∧ hx ((c.val : Nat) : Int) < 16 := by decide +kernel
theorem hx_at (s : ByteArray) (i : Int) : True ∧ -1 ≤ hx (bt s i) ∧ hx (bt s i) < 16 := by
  have h := bt_range s i
  have := hx_fin ⟨(bt s i).toNat, by omega⟩
  simp only at this
  rw [show (((bt s i).toNat : Nat) : Int) = bt s i by omega] at this
  exact ⟨trivial, this⟩
theorem implDh_l0 (s : ByteArray) (hs : s.size ≤ 1048576) : ∀ (d j : Nat) (out : List Int), 2 * (j + d) = s.size → out.length + d ≤ 1048576 → Ev (fun k => impl_DecodeHex.l0 k s out (2 * (j : Int))) (dh s d j out) := by
  intro d
  induction d with
  | zero =>
    intro j out hj ho
    exact ev_const (fun k => by simp only [impl_DecodeHex.l0]; rw [if_neg (by omega)]; rfl)
  | succ d ih =>
    intro j out hj ho
    have h1 := (hx_at s (2 * (j : Int))).2
    have h2 := (hx_at s (2 * (j : Int) + 1)).2
    have hw : wrap64 (2 * (j : Int) + 1) = 2 * (j : Int) + 1 := w64 (by omega) (by omega)
    apply Ev.step
    · intro k; simp only [impl_DecodeHex.l0]; rfl
    rw [hw]
    refine ev_ifp (by omega) (ev_ifp (by omega) (ev_pure (a := hx (bt s (2 * (j : Int)))) rfl (ev_ifp (by omega) (ev_ifp (by omega) (ev_pure (a := hx (bt s (2 * (j : Int) + 1))) rfl ?_)))))
    simp only [dh]
    by_cases c1 : hx (bt s (2 * (j : Int))) < 0
    · rw [if_pos c1]; exact ev_ifp c1 (ev_some _)
    rw [if_neg c1]
    refine ev_ifn c1 ?_
    by_cases c2 : hx (bt s (2 * (j : Int) + 1)) < 0
    · rw [if_pos c2]; exact ev_ifp c2 (ev_some _)
    rw [if_neg c2]
    refine ev_ifn c2 (ev_ifp (by omega) ?_)
    have h := ih (j + 1) (out ++ [(16 * hx (bt s (2 * (j : Int))) + hx (bt s (2 * (j : Int) + 1))) % 256]) (by omega) (by simp; omega)
    rw [hx_join (by omega) (by omega) (by omega) (by omega), w64 (n := 2 * (j : Int) + 2) (by omega) (by omega), show 2 * (j : Int) + 2 = 2 * ((j + 1 : Nat) : Int) by omega]
    exact h

theorem hx_dg : ∀ i : Fin 16, hx (bt hexd ((i.val : Nat) : Int)) = ((i.val : Nat) : Int) := by decide +kernel
theorem hx_dig (i : Int) (h0 : 0 ≤ i) (h1 : i < 16) : hx (bt hexd i) = i := by
  have := hx_dg ⟨i.toNat, by omega⟩
  simp only at this
  rw [show ((i.toNat : Nat) : Int) = i by omega] at this
  exact this
def hexOf (s : ByteArray) : Nat → Nat → List Int
  | 0, _ => []
  | d + 1, j => bt hexd (bt s (j : Int) / 16) :: bt hexd (bt s (j : Int) % 16) :: hexOf s d (j + 1)
theorem hexOf_len (s : ByteArray) : ∀ d j : Nat, (hexOf s d j).length = 2 * d
  | 0, _ => rfl
  | d + 1, j => by rw [hexOf, List.length_cons, List.length_cons, hexOf_len s d]; omega
theorem hexOf_range (s : ByteArray) : ∀ d j : Nat, ∀ x ∈ hexOf s d j, 0 ≤ x ∧ x < 256
  | 0, _ => by intro x hx; simp [hexOf] at hx
  | d + 1, j => by
    intro x hx
    rw [hexOf, List.mem_cons, List.mem_cons] at hx
    rcases hx with rfl | rfl | hx
    · have := bt_range hexd (bt s (j : Int) / 16); omega
    · have := bt_range hexd (bt s (j : Int) % 16); omega
    · exact hexOf_range s d (j + 1) x hx
theorem hexOf_at (s : ByteArray) : ∀ d j q : Nat, (hq : q < d) → (hexOf s d j)[2 * q]'(by rw [hexOf_len]; omega) = bt hexd (bt s ((j + q : Nat) : Int) / 16) ∧ (hexOf s d j)[2 * q + 1]'(by rw [hexOf_len]; omega) = bt hexd (bt s ((j + q : Nat) : Int) % 16)
  | 0, _, _, hq => absurd hq (Nat.not_lt_zero _)
  | d + 1, j, 0, _ => ⟨rfl, rfl⟩
  | d + 1, j, q + 1, hq => by
    have h := hexOf_at s d (j + 1) q (by omega)
    rw [show j + (q + 1) = j + 1 + q by omega]
    exact h
theorem encH_loop (s : ByteArray) (hs : s.size ≤ 1048576) : ∀ (d j : Nat) (out : List Int), j + d = s.size → out.length + 2 * d ≤ 10000000 → Ev (fun k => impl_EncodeHex.l0 k s out (s.size : Int) (j : Int)) (strOfNums (out ++ hexOf s d j)) := by
  intro d
  induction d with
  | zero =>
    intro j out hj ho
    refine ev_const (fun k => ?_)
    simp only [impl_EncodeHex.l0]
    rw [if_neg (by omega), hexOf, List.append_nil]
  | succ d ih =>
    intro j out hj ho
    have hr := bt_range s (j : Int)
    have hm : Go.bits .and .u8 (bt s (j : Int)) 15 = bt s (j : Int) % 16 := bits_mask .u8 8 (by decide) wraps_u8 4 (by decide) _ hr.1 (by omega)
    have h := ih (j + 1) (out ++ [bt hexd (bt s (j : Int) / 16), bt hexd (bt s (j : Int) % 16)]) (by omega) (by rw [List.length_append]; simp only [List.length_cons, List.length_nil]; omega)
    rw [List.append_assoc] at h
    refine Ev.step (fun k => ?_) h
    simp only [impl_EncodeHex.l0]
    rw [hm, if_pos (by omega), if_pos (by omega), if_pos (by omega), if_pos (by omega), if_pos (by omega), if_pos (by omega), if_pos (by omega), Option.bind_some, if_pos (by simp only [List.length_cons, List.length_nil]; omega), wS (n := s.size) (i := j) (by omega) (by omega)]
    rfl
def btl (s : ByteArray) : Nat → Nat → List Int
  | 0, _ => []
  | d + 1, j => bt s (j : Int) :: btl s d (j + 1)
theorem dh_back (t H : ByteArray) : ∀ (d j : Nat) (out : List Int), (∀ q, j ≤ q → q < j + d → bt H (2 * (q : Int)) = bt hexd (bt t (q : Int) / 16) ∧ bt H (2 * (q : Int) + 1) = bt hexd (bt t (q : Int) % 16)) → dh H d j out = (strOfNums (out ++ btl t d j), true)
  | 0, j, out, _ => by rw [dh, btl, List.append_nil]
  | d + 1, j, out, h => by
    have h1 := h j (by omega) (by omega)
    have hr := bt_range t (j : Int)
    have e1 := hx_dig (bt t (j : Int) / 16) (by omega) (by omega)
    have e2 := hx_dig (bt t (j : Int) % 16) (by omega) (by omega)
    rw [dh, h1.1, h1.2, e1, e2, if_neg (by omega), if_neg (by omega), dh_back t H d (j + 1) _ (fun q h2 h3 => h q (by omega) (by omega)), btl, List.append_assoc]
    rw [show (16 * (bt t (j : Int) / 16) + bt t (j : Int) % 16) % 256 = bt t (j : Int) by omega]
    rfl
theorem btl_at (s : ByteArray) : ∀ d j : Nat, (btl s d j).length = d ∧ ∀ q (hq : q < (btl s d j).length), (btl s d j)[q] = bt s ((j + q : Nat) : Int)
  | 0, j => ⟨rfl, fun q hq => absurd hq (Nat.not_lt_zero _)⟩
  | d + 1, j => by
    have ih := btl_at s d (j + 1)
    refine ⟨by rw [btl, List.length_cons, ih.1], fun q hq => ?_⟩
    cases q with
    | zero => rfl
    | succ q =>
      have := ih.2 q (by rw [btl, List.length_cons] at hq; omega)
      rw [show j + (q + 1) = j + 1 + q by omega, ← this]
      rfl
theorem str_btl (s : ByteArray) : strOfNums (btl s s.size 0) = s := by
  have hb := btl_at s s.size 0
  have e : (strOfNums (btl s s.size 0)).data.toList = s.data.toList := by
    rw [strOfNums_data]
    refine List.ext_getElem (by rw [List.length_map, hb.1]; exact (Array.length_toList (xs := s.data)).symm) (fun i h1 h2 => ?_)
    rw [List.getElem_map, hb.2 i (by rw [List.length_map] at h1; exact h1), Nat.zero_add]
    have h3 : i < s.size := by rw [Array.length_toList] at h2; exact h2
    unfold bt
    rw [dif_pos (show (i : Int).toNat < s.size by rw [Int.toNat_natCast]; exact h3)]
    show UInt8.ofNat ((((s.data[i]'h3).toNat : Nat) : Int)).toNat = _
    rw [Int.toNat_natCast, UInt8.ofNat_toNat, Array.getElem_toList]
  exact ByteArray.ext (Array.toList_inj.1 e)
theorem hex_round (t : ByteArray) (ht : t.size ≤ 1000) : ∃ H, Ev (fun k => impl_EncodeHex.f k t) H ∧ H.size = 2 * t.size ∧ Ev (fun k => impl_DecodeHex.f k H) (t, true) := by
  have h := encH_loop t (by omega) t.size 0 [] (by omega) (by simp; omega)
  rw [List.nil_append] at h
  have hsz : (strOfNums (hexOf t t.size 0)).size = 2 * t.size := by rw [strOfNums_size, hexOf_len]
  refine ⟨strOfNums (hexOf t t.size 0), h, hsz, ?_⟩
  have hd := implDh_l0 (strOfNums (hexOf t t.size 0)) (by omega) t.size 0 [] (by omega) (by simp; omega)
  rw [dh_back t _ t.size 0 [] (fun q _ hq => by
    have hq' : q < t.size := by omega
    have ha := hexOf_at t t.size 0 q hq'
    rw [Nat.zero_add] at ha
    have e1 := bt_nums (hexOf t t.size 0) (hexOf_range _ _ _) (2 * q) (by rw [hexOf_len]; omega)
    have e2 := bt_nums (hexOf t t.size 0) (hexOf_range _ _ _) (2 * q + 1) (by rw [hexOf_len]; omega)
    rw [ha.1] at e1
    rw [ha.2] at e2
    exact ⟨by rw [← e1]; exact congrArg _ (by omega), by rw [← e2]; exact congrArg _ (by omega)⟩), List.nil_append, str_btl] at hd
  unfold impl_DecodeHex.f
  refine ev_ifp (by omega) ?_
  exact hd

theorem ie_j1 (t : ByteArray) (w : Int) (ht : t.size ≤ 200) (h0 : -9223372036854775808 ≤ w) (h1 : w < 9223372036854775808) : Ev (fun k => laws_FnIntegerEncodings.j1 k t w false) true := by
  obtain ⟨H, e1, e2, e3⟩ := hex_round t (by omega)
  have hl : (Lib.itoa w).length ≤ 21 := by
    by_cases hz : w = 0
    · subst hz; decide +kernel
    have h19 : (10 : Nat) ^ 19 = 10000000000000000000 := by decide
    have := digs_small 19 w.natAbs (by omega)
    by_cases hn : w < 0
    · rw [itoa_neg hn, List.length_cons]; omega
    · rw [itoa_pos (by omega)]; omega
  have hsz : (⟨(Lib.itoa w).toArray⟩ : ByteArray).size = (Lib.itoa w).length := by simp [ByteArray.size]
  have hp := pi_impl (⟨(Lib.itoa w).toArray⟩ : ByteArray) (by rw [hsz]; omega)
  have hd : (⟨(Lib.itoa w).toArray⟩ : ByteArray).data.toList = Lib.itoa w := by simp
  rw [hd] at hp
  apply Ev.step
  · intro k; simp only [laws_FnIntegerEncodings.j1]; rfl
  refine ev_ifn (by simp) (Ev.bind e1 (Ev.bind e3 (ev_pure (fmt_impl w h0 (by omega)) (ev_pure hp ?_))))
  refine ev_ifp rfl (ev_ifp rfl (ev_ifp (by rw [e2, w64 (by omega) (by omega)]; omega) (Ev.bind (fmt_spec w h0 (by omega)) (ev_ifp rfl ?_))))
  by_cases c : -999999999 ≤ w ∧ w ≤ 999999999
  · rw [specPI_itoa2 c.1 c.2]
    refine ev_ifp rfl (ev_ifp rfl (ev_ifp (by omega) ?_))
    rw [decide_eq_true (show w < 1000000000 by omega)]
    exact ev_some _
  · rw [specPI_far c]
    refine ev_ifn (by simp) ?_
    by_cases c2 : w > -1000000000
    · refine ev_ifp c2 ?_
      rw [decide_eq_false (show ¬ w < 1000000000 by omega)]
      exact ev_some _
    · exact ev_ifn c2 (ev_some _)
theorem ie_j0 (b : List Int) (t : ByteArray) (hb : b.length ≤ 1048576) (ht : t.size ≤ 200) : Ev (fun k => laws_FnIntegerEncodings.j0 k b t false) true := by
  obtain ⟨w, z, e1, g0, g1⟩ := drawF_ok b hb
  obtain ⟨f, e2, f7, hf⟩ := fixed_round w z t g0 g1
  obtain ⟨s, e3, e4⟩ := fixedE_same w z g0 g1
  have hs : s = f := ev_uniq e4 e2
  subst hs
  obtain ⟨r, e5, _⟩ := decF_ev (s ++ t) z
  have hj := ie_j1 t w ht g0 g1
  have hne : ((s.toList != ([] : List UInt8)) != (s.toList != ([] : List UInt8))) = false := by simp
  apply Ev.step
  · intro k; simp only [laws_FnIntegerEncodings.j0]; rfl
  refine ev_ifn (by simp) (Ev.bind e1 (Ev.bind e2 (ev_ifp (by omega) ?_)))
  rcases hf with hf | ⟨h1, h2, h3⟩
  · refine Ev.bind e5 (ev_ifp (by rw [hf, Lib.toList_data]) (Ev.bind e3 ?_))
    rw [hne]; exact hj
  · refine Ev.bind h3 (ev_ifn h1 (ev_ifp rfl (ev_ifp rfl (ev_ifp h2 (Ev.bind e3 ?_)))))
    rw [hne]; exact hj


end Go.Proofs.YtjgfbamloldkfaaDoor.Pure.FnIntegerEncodings
namespace Go.Proofs.YtjgfbamloldkfaaDoor.Pure
open Go.RowKit Go.Proofs.YtjgfbamloldkfaaDoor.PFnIntegerEncodings Go.Proofs.YtjgfbamloldkfaaDoorW.PrintWords Go.Proofs.YtjgfbamloldkfaaDoorW.PrintLast Go.Proofs.YtjgfbamloldkfaaDoorW.PrintMore Go.Proofs.YtjgfbamloldkfaaDoor.B Go.Proofs.YtjgfbamloldkfaaDoor.Pure.FnIntegerEncodings
theorem FnIntegerEncodings : laws_FnIntegerEncodings.Pure := by
  intro l hl _ _
  refine Ev.rounds (g := fun k => laws_FnIntegerEncodings.f k l) ?_
  unfold laws_FnIntegerEncodings.f
  refine ev_pure (a := decide ((l.length : Int) > 1048576)) rfl ?_
  by_cases hb : (l.length : Int) > 1048576
  · exact ev_ifp (decide_eq_true hb) (ev_some _)
  refine ev_ifn (by simpa using hb) ?_
  obtain ⟨n, dn, n0, n1⟩ := drawV_ok l (by omega)
  obtain ⟨t, dt, ht⟩ := drawH_ok l (by omega)
  have hJ := ie_j0 l t (by omega) ht
  have hsz : (encV n).size ≤ 9 := by
    unfold encV
    by_cases c : 0 ≤ n ∧ n ≤ 562949953421311
    · rw [if_pos c, strOfNums_size]
      exact vb_short 8 n 8 c.1 (by have := p128_9; omega)
    · rw [if_neg c]; decide
  refine Ev.bind dn (Ev.bind dt (Ev.bind (implV_ev n) (ev_ifp (by omega) ?_)))
  by_cases hr : 0 ≤ n ∧ n ≤ 562949953421311
  · have hne : (encV n).toList ≠ [] := by
      rw [Lib.toList_data]
      intro e
      have h1 := congrArg List.length e
      rw [Array.length_toList] at h1
      have h2 : (encV n).size = 0 := h1
      rw [encV_in hr, strOfNums_size] at h2
      have := (vb_len 8 n (by have := p128_9; omega) hr.1).1
      omega
    have hb1 : ((encV n).toList != ([] : List UInt8)) = true := bne_iff_ne.mpr hne
    refine Ev.bind (decV_round n t hr.1 hr.2 (by omega)) (ev_ifp hr.1 (ev_ifn (by rw [hb1, decide_eq_true hr.2]; simp) (ev_ifn hne (ev_ifp rfl ?_))))
    show Ev (fun k => laws_FnIntegerEncodings.j0 k l t (((encV n).size : Int) != ((encV n).size : Int))) true
    rw [show (((encV n).size : Int) != ((encV n).size : Int)) = false by simp]
    exact hJ
  · obtain ⟨r, e⟩ := decV_some (encV n ++ t) (by rw [ByteArray.size_append]; omega)
    have he : (encV n).toList = [] := by rw [encV_out hr, Lib.toList_data]
    have hb1 : ((encV n).toList != ([] : List UInt8)) = false := bne_eq_false_iff_eq.mpr he
    refine Ev.bind e ?_
    by_cases h0 : n ≥ 0
    · refine ev_ifp h0 (ev_ifn (by rw [hb1, decide_eq_false (show ¬ n ≤ 562949953421311 by omega)]; simp) (ev_ifp he hJ))
    · refine ev_ifn h0 (ev_ifn (by rw [hb1]; simp) (ev_ifp he hJ))

end Go.Proofs.YtjgfbamloldkfaaDoor.Pure
