/- FormatCharge of the program returns what the reference returns, for every charge. No condition of ours. -/
import Derived.Test.YtjgfbamloldkfaaDoorPFnExactFormatChargex0
import Derived.Test.YtjgfbamloldkfaaDoorPFnExactFormatChargex1
import Derived.Test.YtjgfbamloldkfaaDoorPFnExactFormatChargex2
import Derived.Test.YtjgfbamloldkfaaDoorB
set_option linter.unusedVariables false
set_option linter.unusedSimpArgs false
namespace Go.Proofs.YtjgfbamloldkfaaDoor.Pure.FnExactFormatCharge
open Go.RowKit Go.Proofs.YtjgfbamloldkfaaDoor.PFnExactFormatCharge Go.Proofs.YtjgfbamloldkfaaDoorW.PrintWords Go.Proofs.YtjgfbamloldkfaaDoorW.PrintLast Go.Proofs.YtjgfbamloldkfaaDoorW.PrintMore Go.Proofs.YtjgfbamloldkfaaDoor.B

/-- The decimal digits of a number that is not 0; none for 0. -/
def digs (u : Nat) : List UInt8 := if u = 0 then [] else Lib.decDigits u
theorem digs_step {u : Nat} (h : 0 < u) : digs u = digs (u / 10) ++ [UInt8.ofNat (48 + u % 10)] := by
  unfold digs
  rw [if_neg (by omega), Lib.decDigits]
  by_cases h10 : u < 10
  · rw [dif_pos h10, if_pos (by omega), show u % 10 = u by omega]; rfl
  · rw [dif_neg h10, if_neg (by omega)]
theorem digs_len (u : Nat) : (digs u).length ≤ 1 + u / 10 := by
  induction u using Nat.strongRecOn with
  | _ u ih =>
    by_cases h : u = 0
    · subst h; simp [digs]
    · rw [digs_step (by omega), List.length_append, List.length_singleton]
      by_cases h10 : u < 10
      · have : u / 10 = 0 := by omega
        rw [this]; simp [digs]
      · have := ih (u / 10) (by omega); omega
def sgnB (b : Bool) : List UInt8 := if b then [45] else []
theorem ofInt_byte (m : Nat) (h : m < 10) : (wrap64 (48 + (m : Int))) % 256 = ((48 + m : Nat) : Int) := by
  rw [w64 (by omega) (by omega)]; omega
theorem str_one (m : Nat) (h : m < 10) (s : List UInt8) : strOfNums [((48 + m : Nat) : Int)] ++ (⟨s.toArray⟩ : ByteArray) = ⟨(UInt8.ofNat (48 + m) :: s).toArray⟩ := by
  apply ByteArray.ext
  rw [ByteArray.data_append]
  show (strOfNums [((48 + m : Nat) : Int)]).data ++ s.toArray = (UInt8.ofNat (48 + m) :: s).toArray
  rw [show (strOfNums [((48 + m : Nat) : Int)]).data = #[UInt8.ofNat (48 + m)] from rfl]
  simp
theorem fmt_loop (u : Nat) : ∀ (x : Int) (s : List UInt8) (neg : Bool), x.natAbs = u → -9223372036854775808 ≤ x → x ≤ 9223372036854775807 → s.length + (digs u).length ≤ 922337203685477600 →
    Ev (fun k => spec_FormatInt.l0 k x ⟨s.toArray⟩ neg) ⟨(sgnB neg ++ (digs u ++ s)).toArray⟩ := by
  induction u using Nat.strongRecOn with
  | _ u ih =>
    intro x s neg hu hl hh hs
    have hsz : (⟨s.toArray⟩ : ByteArray).size = s.length := by simp [ByteArray.size]
    by_cases h0 : x = 0
    · subst h0
      have : u = 0 := by omega
      subst this
      refine ev_const (fun k => ?_)
      simp only [spec_FormatInt.l0]
      rw [if_pos trivial, hsz]
      cases neg with
      | true =>
        rw [if_pos rfl, if_pos (by simp [digs] at hs; omega)]
        congr 1
      | false => rw [if_neg (by simp)]; simp [sgnB, digs]
    · have hu0 : 0 < u := by omega
      have hm : (Int.tmod x 10 < 0 → -(Int.tmod x 10) = ((u % 10 : Nat) : Int)) ∧ (¬ Int.tmod x 10 < 0 → Int.tmod x 10 = ((u % 10 : Nat) : Int)) := by
        have := tmod_cases x 10
        by_cases hx : 0 ≤ x
        · have := this.1 hx; omega
        · have := this.2 (by omega); omega
      have hd : (Int.tdiv x 10).natAbs = u / 10 ∧ -9223372036854775808 ≤ Int.tdiv x 10 ∧ Int.tdiv x 10 ≤ 9223372036854775807 := by
        have := tdiv_cases x 10
        by_cases hx : 0 ≤ x
        · have := this.1 hx; omega
        · have := this.2 (by omega); omega
      have hst := digs_step hu0
      have hlen : (digs u).length = (digs (u / 10)).length + 1 := by rw [hst]; simp
      have h := ih (u / 10) (by omega) (Int.tdiv x 10) (UInt8.ofNat (48 + u % 10) :: s) neg hd.1 hd.2.1 hd.2.2 (by simp; omega)
      refine ev_eq (Ev.step (fun k => ?_) h) (by rw [hst, List.append_assoc]; rfl)
      simp only [spec_FormatInt.l0]
      rw [if_neg h0, w64 (n := Int.tdiv x 10) hd.2.1 (by omega)]
      by_cases ht : Int.tmod x 10 < 0
      · rw [if_pos ht, hm.1 ht, Option.bind_some, w64 (n := ((u % 10 : Nat) : Int)) (by omega) (by omega), ofInt_byte _ (by omega), if_pos (by rw [strOfNums_size, hsz]; simp; omega), str_one _ (by omega)]
      · rw [if_neg ht, hm.2 ht, Option.bind_some, ofInt_byte _ (by omega), if_pos (by rw [strOfNums_size, hsz]; simp; omega), str_one _ (by omega)]
theorem fmt_spec (n : Int) (h0 : -9223372036854775808 ≤ n) (h1 : n ≤ 9223372036854775807) : Ev (fun k => spec_FormatInt.f k n) ⟨(Lib.itoa n).toArray⟩ := by
  unfold spec_FormatInt.f
  by_cases hz : n = 0
  · subst hz
    exact ev_ifp rfl (ev_eq (ev_some _) (by decide +kernel))
  · refine ev_ifn hz ?_
    have h := fmt_loop n.natAbs n [] (decide (n < 0)) rfl h0 h1 (by have := digs_len n.natAbs; simp; omega)
    have hne : n.natAbs ≠ 0 := by omega
    have hd : digs n.natAbs = Lib.decDigits n.natAbs := if_neg hne
    have e : (sgnB (decide (n < 0)) ++ (digs n.natAbs ++ [])) = Lib.itoa n := by
      rw [List.append_nil, hd]
      unfold Lib.itoa
      by_cases hn : n < 0
      · rw [decide_eq_true hn, if_pos hn]; rfl
      · rw [decide_eq_false hn, if_neg hn, show n.natAbs = n.toNat by omega]; rfl
    rw [e] at h
    exact h
theorem fmt_impl (n : Int) (h0 : -9223372036854775808 ≤ n) (h1 : n ≤ 9223372036854775807) : impl_FormatInt.f n = some ⟨(Lib.itoa n).toArray⟩ := by
  unfold impl_FormatInt.f strconv_Itoa.f
  rw [if_pos ⟨h0, h1⟩]
  rfl

def bs (l : List UInt8) : ByteArray := ⟨l.toArray⟩
theorem bs_app (a b : List UInt8) : bs a ++ bs b = bs (a ++ b) := by
  apply ByteArray.ext
  rw [ByteArray.data_append]
  simp [bs]
theorem bs_size (a : List UInt8) : (bs a).size = a.length := by simp [bs, ByteArray.size]

theorem itoa_len2 (n : Int) : (Lib.itoa n).length ≤ 3 + n.natAbs / 10 := by
  by_cases hz : n = 0
  · subst hz; decide +kernel
  · have hd : digs n.natAbs = Lib.decDigits n.natAbs := if_neg (by omega)
    have := digs_len n.natAbs
    unfold Lib.itoa
    by_cases hn : n < 0
    · rw [if_pos hn, List.length_cons, ← hd]; omega
    · rw [if_neg hn, show n.toNat = n.natAbs by omega, ← hd]; omega
theorem fs (n : Int) (h : n.natAbs ≤ 100000) : Ev (fun k => spec_FormatInt.f k n) (bs (Lib.itoa n)) := fmt_spec n (by omega) (by omega)
theorem fi (n : Int) (h : n.natAbs ≤ 100000) : impl_FormatInt.f n = some (bs (Lib.itoa n)) := fmt_impl n (by omega) (by omega)
theorem bs_list (l : List UInt8) : (bs l).data.toList = l := by simp [bs]

theorem l1In_eq (a b c : Int) : spec_l1In.f a b c = some (decide (b ≤ a ∧ a ≤ c)) := by
  unfold spec_l1In.f
  by_cases h : b ≤ a
  · rw [if_pos (by omega)]; congr 1; exact decide_eq_decide.2 ⟨fun _ => by omega, fun _ => by omega⟩
  · rw [if_neg (by omega)]; congr 1; simp; omega
def chargeText (q v f t s : Int) : List UInt8 := if (0 ≤ q ∧ q ≤ 29) ∧ (-1000 ≤ v ∧ v ≤ 1000) ∧ (0 ≤ f ∧ f ≤ t) ∧ t ≤ 64 ∧ (0 ≤ s ∧ s ≤ 64) then
    Lib.itoa q ++ ([32, 97, 116, 32] ++ (Lib.itoa v ++ ([32, 105, 110, 32] ++ (Lib.itoa f ++ ([46, 46] ++ (Lib.itoa t ++ ([32, 115, 119, 97, 112, 115, 32] ++ Lib.itoa s))))))) else []
theorem lit1 : (⟨#[32, 97, 116, 32]⟩ : ByteArray) = bs [32, 97, 116, 32] := rfl
theorem lit2 : (⟨#[32, 105, 110, 32]⟩ : ByteArray) = bs [32, 105, 110, 32] := rfl
theorem lit3 : (⟨#[46, 46]⟩ : ByteArray) = bs [46, 46] := rfl
theorem lit4 : (⟨#[32, 115, 119, 97, 112, 115, 32]⟩ : ByteArray) = bs [32, 115, 119, 97, 112, 115, 32] := rfl
theorem charge_spec (q v f t s : Int) : Ev (fun k => spec_FormatCharge.f k q v f t s) (bs (chargeText q v f t s)) := by
  have hT : Ev (fun k => spec_FormatCharge.j0 k true q v f t s) (bs []) := by
    refine ev_const (fun k => ?_)
    simp only [spec_FormatCharge.j0]
    rfl
  unfold spec_FormatCharge.f
  simp only [l1In_eq, Option.bind_some, decide_eq_true_eq]
  by_cases h1 : 0 ≤ q ∧ q ≤ 29
  case neg => refine ev_ifn h1 ?_; rw [chargeText, if_neg (by omega)]; exact hT
  refine ev_ifp h1 ?_
  by_cases h2 : -1000 ≤ v ∧ v ≤ 1000
  case neg => refine ev_ifn h2 ?_; rw [chargeText, if_neg (by omega)]; exact hT
  refine ev_ifp h2 ?_
  by_cases h3 : 0 ≤ f ∧ f ≤ t
  case neg => refine ev_ifn h3 ?_; rw [chargeText, if_neg (by omega)]; exact hT
  refine ev_ifp h3 ?_
  by_cases h4 : t > 64
  · refine ev_ifp h4 ?_; rw [chargeText, if_neg (by omega)]; exact hT
  refine ev_ifn h4 ?_
  by_cases h5 : 0 ≤ s ∧ s ≤ 64
  case neg => rw [chargeText, if_neg (by omega), decide_eq_false h5]; exact hT
  rw [chargeText, if_pos ⟨h1, h2, h3, by omega, h5⟩, decide_eq_true h5]
  have lq := itoa_len2 q
  have lv := itoa_len2 v
  have lf := itoa_len2 f
  have lt := itoa_len2 t
  have ls := itoa_len2 s
  apply Ev.step
  · intro k; simp only [spec_FormatCharge.j0]; rfl
  refine ev_ifn (by simp) ?_
  refine Ev.bind (fs q (by omega)) ?_
  refine ev_ifp (by rw [bs_size]; omega) ?_
  refine Ev.bind (fs v (by omega)) ?_
  simp only [lit1, lit2, lit3, lit4, bs_app, bs_size, List.length_append, List.length_cons, List.length_nil]
  refine ev_ifp (by omega) (ev_ifp (by omega) ?_)
  refine Ev.bind (fs f (by omega)) ?_
  simp only [lit1, lit2, lit3, lit4, bs_app, bs_size, List.length_append, List.length_cons, List.length_nil]
  refine ev_ifp (by omega) (ev_ifp (by omega) ?_)
  refine Ev.bind (fs t (by omega)) ?_
  simp only [lit1, lit2, lit3, lit4, bs_app, bs_size, List.length_append, List.length_cons, List.length_nil]
  refine ev_ifp (by omega) (ev_ifp (by omega) ?_)
  refine Ev.bind (fs s (by omega)) ?_
  simp only [lit1, lit2, lit3, lit4, bs_app, bs_size, List.length_append, List.length_cons, List.length_nil]
  refine ev_ifp (by omega) (ev_eq (ev_some _) ?_)
  congr 1
  simp
theorem charge_impl (q v f t s : Int) : Ev (fun k => impl_FormatCharge.f k q v f t s) (bs (chargeText q v f t s)) := by
  have hT : Ev (fun k => impl_FormatCharge.j0 k true q v f t s) (bs []) := by
    refine ev_const (fun k => ?_)
    simp only [impl_FormatCharge.j0]
    rfl
  have hb : impl_bound.f v = some (decide (-1000 ≤ v ∧ v ≤ 1000)) := by
    unfold impl_bound.f
    by_cases h : -1000 ≤ v
    · rw [if_pos (by omega)]; congr 1; exact decide_eq_decide.2 ⟨fun _ => by omega, fun _ => by omega⟩
    · rw [if_neg (by omega)]; congr 1; simp; omega
  unfold impl_FormatCharge.f
  simp only [hb, Option.bind_some, decide_eq_true_eq]
  by_cases h0 : q < 0
  · refine ev_ifp h0 ?_; rw [chargeText, if_neg (by omega)]; exact hT
  refine ev_ifn h0 ?_
  by_cases h1 : q ≥ 30
  · refine ev_ifp h1 ?_; rw [chargeText, if_neg (by omega)]; exact hT
  refine ev_ifn h1 ?_
  by_cases h2 : -1000 ≤ v ∧ v ≤ 1000
  case neg => refine ev_ifn h2 ?_; rw [chargeText, if_neg (by omega)]; exact hT
  refine ev_ifp h2 ?_
  by_cases h3 : s < 0
  · refine ev_ifp h3 ?_; rw [chargeText, if_neg (by omega)]; exact hT
  refine ev_ifn h3 ?_
  by_cases h4 : s > 64
  · refine ev_ifp h4 ?_; rw [chargeText, if_neg (by omega)]; exact hT
  refine ev_ifn h4 ?_
  by_cases h5 : f < 0
  · refine ev_ifp h5 ?_; rw [chargeText, if_neg (by omega)]; exact hT
  refine ev_ifn h5 ?_
  by_cases h6 : f > t
  · refine ev_ifp h6 ?_; rw [chargeText, if_neg (by omega)]; exact hT
  refine ev_ifn h6 ?_
  by_cases h7 : t > 64
  · rw [chargeText, if_neg (by omega), decide_eq_true h7]; exact hT
  rw [chargeText, if_pos ⟨by omega, h2, by omega, by omega, by omega⟩, decide_eq_false h7]
  have lq := itoa_len2 q
  have lv := itoa_len2 v
  have lf := itoa_len2 f
  have lt := itoa_len2 t
  have ls := itoa_len2 s
  refine ev_const (fun k => ?_)
  simp only [impl_FormatCharge.j0, fi q (by omega), fi v (by omega), fi f (by omega), fi t (by omega), fi s (by omega), Option.bind_some]
  rw [if_neg (by simp)]
  simp only [lit3, bs_app, bs_size, List.length_append, List.length_cons, List.length_nil]
  rw [if_pos (by omega), if_pos (by omega)]
  have hj : Lib.join (([bs (Lib.itoa q), (⟨#[97, 116]⟩ : ByteArray), bs (Lib.itoa v), (⟨#[105, 110]⟩ : ByteArray), bs (Lib.itoa f ++ [46, 46] ++ Lib.itoa t), (⟨#[115, 119, 97, 112, 115]⟩ : ByteArray), bs (Lib.itoa s)] : List ByteArray).map (·.data.toList)) (⟨#[32]⟩ : ByteArray).data.toList =
      Lib.itoa q ++ ([32, 97, 116, 32] ++ (Lib.itoa v ++ ([32, 105, 110, 32] ++ (Lib.itoa f ++ ([46, 46] ++ (Lib.itoa t ++ ([32, 115, 119, 97, 112, 115, 32] ++ Lib.itoa s))))))) := by
    simp [Lib.join, List.intercalate, List.intersperse, bs_list]
  unfold strings_Join.f
  rw [hj, if_pos ⟨by show 7 ≤ 140737488355328; decide, by simp only [List.length_append, List.length_cons, List.length_nil]; omega⟩]
  rfl


end Go.Proofs.YtjgfbamloldkfaaDoor.Pure.FnExactFormatCharge
namespace Go.Proofs.YtjgfbamloldkfaaDoor.Pure
open Go.RowKit Go.Proofs.YtjgfbamloldkfaaDoor.PFnExactFormatCharge Go.Proofs.YtjgfbamloldkfaaDoorW.PrintWords Go.Proofs.YtjgfbamloldkfaaDoorW.PrintLast Go.Proofs.YtjgfbamloldkfaaDoorW.PrintMore Go.Proofs.YtjgfbamloldkfaaDoor.B Go.Proofs.YtjgfbamloldkfaaDoor.Pure.FnExactFormatCharge
theorem FnExactFormatCharge : ∀ (a0_0 : Int) (a0_1 : Int) (a0_2 : Int) (a0_3 : Int) (a0_4 : Int), (Lit.int .i64 a0_0).wf = true → (Lit.int .i64 a0_1).wf = true → (Lit.int .i64 a0_2).wf = true → (Lit.int .i64 a0_3).wf = true → (Lit.int .i64 a0_4).wf = true → ∃ k, laws_FnExactFormatCharge.f k a0_0 a0_1 a0_2 a0_3 a0_4 = some true := by
  intro q v f t s wq wv wf wt ws
  refine Ev.rounds (g := fun k => laws_FnExactFormatCharge.f k q v f t s) ?_
  unfold laws_FnExactFormatCharge.f
  refine ev_pure (a := (q, v, f, t, s)) rfl ?_
  refine Ev.bind (charge_spec q v f t s) ?_
  refine ev_pure (a := (q, v, f, t, s)) rfl ?_
  refine Ev.bind (charge_impl q v f t s) ?_
  exact ev_ifp rfl (ev_some _)

end Go.Proofs.YtjgfbamloldkfaaDoor.Pure
