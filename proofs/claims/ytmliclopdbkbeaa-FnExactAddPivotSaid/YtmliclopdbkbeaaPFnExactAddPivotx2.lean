-- printed by a program of this session, a turned copy of the print of the kit
import Derived.Test.YtmliclopdbkbeaaSq
import Derived.Test.YtmliclopdbkbeaaPFnExactAddPivotx0
namespace Go.Proofs.Ytmliclopdbkbeaa.PFnExactAddPivot
open Go.RowKit Go.Proofs.YtmliclopdbkbeaaW.PrintWords Go.Proofs.YtmliclopdbkbeaaW.PrintLast Go.Proofs.YtmliclopdbkbeaaW.PrintMore Go.Proofs.Ytmliclopdbkbeaa.Sq
attribute [local go_sem] max2_int min2_int max_two min_two max_three min_three max_four min_four Giv.cell_twice   -- for this text's walks alone
set_option linter.unusedVariables false
set_option linter.unusedSimpArgs false

/-! ### spec_l4Copy: function 14 -/
def spec_l4Copy.f (l0_0 : List Int) (l0_1 : List Int) (l0_2 : List (S35)) : Option (List Int × List Int × (List (S35))) := (some (([] : List Int) : List Int)).bind fun y107 => (if y107.length + l0_0.length < 17592186044416 then ((some (([] : List Int) : List Int)).bind fun y113 => (if y113.length + l0_1.length < 17592186044416 then ((some (([] : List (S35)) : List (S35))).bind fun y119 => (if y119.length + l0_2.length < 8796093022208 then (some ((y107 ++ l0_0), (y113 ++ l0_1), (y119 ++ l0_2))) else (none))) else (none))) else (none))
def spec_l4Copy.T1 : Bool × List (List Nat × List Nat) := (true, [([], []), ([], []), ([1], [1]), ([0, 2], [0, 2]), ([], []), ([], []), ([5], [5]), ([4, 6, 3], [4, 6]), ([], []), ([], []), ([9], [9]), ([8, 10, 7], [8, 10]), ([3, 7, 11], [3, 7, 11]), ([12, 11, 0, 1, 2, 3, 4, 5, 6, 7, 8, 9, 10, 11, 12], [12])])
def spec_l4Copy.B1 : List Nat := [0, 0, 2, 7, 0, 0, 32, 127, 0, 0, 512, 2047, 4095, 8191]
theorem spec_l4Copy.tab1 : rtab .any (opsOf Try.f14 1) = spec_l4Copy.T1 := by kernel_rfl
theorem spec_l4Copy.bits1 : waitsOk spec_l4Copy.T1.2 spec_l4Copy.B1 = true := by kernel_rfl
set_option maxHeartbeats 8000000 in
set_option maxRecDepth 100000 in
theorem spec_l4Copy.calls (A0_0 : Option Addr) (c0_0 : Nat) (l0_0 : List Int) (A0_1 : Option Addr) (c0_1 : Nat) (l0_1 : List Int) (A0_2 : Option Addr) (c0_2 : Nat) (l0_2 : List (S35)) (r1 : List Int) (r2 : List Int) (r3 : List (S35)) (w : World) (hr0_0 : Kd.C (Kd.int .i64) w A0_0 l0_0.length l0_0) (hc0_0 : l0_0.length ≤ c0_0) (hr0_1 : Kd.C (Kd.int .i64) w A0_1 l0_1.length l0_1) (hc0_1 : l0_1.length ≤ c0_1) (hr0_2 : Kd.C k35 w A0_2 l0_2.length l0_2) (hc0_2 : l0_2.length ≤ c0_2) (h : spec_l4Copy.f l0_0 l0_1 l0_2 = some (r1, r2, r3)) :
  Calls Try.prog 14 #[.agg #[.slice A0_0 l0_0.length c0_0, .slice A0_1 l0_1.length c0_1, .slice A0_2 l0_2.length c0_2]] w fun e w' => ∃ v0_ v1_ v2_ : Value, e = .returned (.agg #[v0_, v1_, v2_]) ∧ Kd.R (Kd.int .i64) 3 w' w.heap.size (fun k_ => some k_ ≠ (v1_ : Value).ownBlock) v0_ r1 ∧ Kd.R (Kd.int .i64) 3 w' w.heap.size (fun k_ => some k_ ≠ (v0_ : Value).ownBlock) v1_ r2 ∧ Kd.R k35 35 w' w.heap.size (fun _ => True) v2_ r3 ∧ Below w.heap.size w w' := by
 have hu31 := Try.underlying31
 have HR0_0 := Aside0.mk hr0_0
 have HC0_0 := Aside0.mk hc0_0
 clear hr0_0 hc0_0
 have HR0_1 := Aside0.mk hr0_1
 have HC0_1 := Aside0.mk hc0_1
 clear hr0_1 hc0_1
 have HR0_2 := Aside0.mk hr0_2
 have HC0_2 := Aside0.mk hc0_2
 clear hr0_2 hc0_2
 have HB := Aside0.mk (Below.refl w.heap.size w)
 have H : ((some (([] : List Int) : List Int)).bind fun y107 => (if y107.length + l0_0.length < 17592186044416 then ((some (([] : List Int) : List Int)).bind fun y113 => (if y113.length + l0_1.length < 17592186044416 then ((some (([] : List (S35)) : List (S35))).bind fun y119 => (if y119.length + l0_2.length < 8796093022208 then (some ((y107 ++ l0_0), (y113 ++ l0_1), (y119 ++ l0_2))) else (none))) else (none))) else (none))) = some (r1, r2, r3) := h
 clear h
 obtain ⟨y107, hy107⟩ : ∃ y_ : List Int, y_ = (([] : List Int)) := ⟨_, rfl⟩
 replace H : (if y107.length + l0_0.length < 17592186044416 then ((some (([] : List Int) : List Int)).bind fun y113 => (if y113.length + l0_1.length < 17592186044416 then ((some (([] : List (S35)) : List (S35))).bind fun y119 => (if y119.length + l0_2.length < 8796093022208 then (some ((y107 ++ l0_0), (y113 ++ l0_1), (y119 ++ l0_2))) else (none))) else (none))) else (none)) = some (r1, r2, r3) := by first | (rw [hy107]; with_reducible exact H) | (have H2_ := (Option.bind_some _ _).symm.trans H; rw [hy107]; with_reducible exact H2_) | (have H2_ := (Option.bind_some _ _).symm.trans H; with_reducible exact H2_) | with_reducible exact H | (rw [hy107]; exact H) | exact H
 have Ny107 := Aside0.mk hy107
 clear hy107
 by_cases c2 : y107.length + l0_0.length < 17592186044416
 ·rw [if_pos c2] at H
  have LMc2 := Aside0.mk c2
  clear c2
  obtain ⟨y110, hy110⟩ : ∃ y_ : List Int, y_ = (y107 ++ l0_0) := ⟨_, rfl⟩
  replace H : ((some (([] : List Int) : List Int)).bind fun y113 => (if y113.length + l0_1.length < 17592186044416 then ((some (([] : List (S35)) : List (S35))).bind fun y119 => (if y119.length + l0_2.length < 8796093022208 then (some (y110, (y113 ++ l0_1), (y119 ++ l0_2))) else (none))) else (none))) = some (r1, r2, r3) := by first | (rw [hy110]; with_reducible exact H) | (have H2_ := (Option.bind_some _ _).symm.trans H; rw [hy110]; with_reducible exact H2_) | (have H2_ := (Option.bind_some _ _).symm.trans H; with_reducible exact H2_) | with_reducible exact H | (rw [hy110]; exact H) | exact H
  have Ny110 := Aside0.mk hy110
  clear hy110
  obtain ⟨y113, hy113⟩ : ∃ y_ : List Int, y_ = (([] : List Int)) := ⟨_, rfl⟩
  replace H : (if y113.length + l0_1.length < 17592186044416 then ((some (([] : List (S35)) : List (S35))).bind fun y119 => (if y119.length + l0_2.length < 8796093022208 then (some (y110, (y113 ++ l0_1), (y119 ++ l0_2))) else (none))) else (none)) = some (r1, r2, r3) := by first | (rw [hy113]; with_reducible exact H) | (have H2_ := (Option.bind_some _ _).symm.trans H; rw [hy113]; with_reducible exact H2_) | (have H2_ := (Option.bind_some _ _).symm.trans H; with_reducible exact H2_) | with_reducible exact H | (rw [hy113]; exact H) | exact H
  have Ny113 := Aside0.mk hy113
  clear hy113
  by_cases c3 : y113.length + l0_1.length < 17592186044416
  ·rw [if_pos c3] at H
   have LMc3 := Aside0.mk c3
   clear c3
   obtain ⟨y116, hy116⟩ : ∃ y_ : List Int, y_ = (y113 ++ l0_1) := ⟨_, rfl⟩
   replace H : ((some (([] : List (S35)) : List (S35))).bind fun y119 => (if y119.length + l0_2.length < 8796093022208 then (some (y110, y116, (y119 ++ l0_2))) else (none))) = some (r1, r2, r3) := by first | (rw [hy116]; with_reducible exact H) | (have H2_ := (Option.bind_some _ _).symm.trans H; rw [hy116]; with_reducible exact H2_) | (have H2_ := (Option.bind_some _ _).symm.trans H; with_reducible exact H2_) | with_reducible exact H | (rw [hy116]; exact H) | exact H
   have Ny116 := Aside0.mk hy116
   clear hy116
   obtain ⟨y119, hy119⟩ : ∃ y_ : List (S35), y_ = (([] : List (S35))) := ⟨_, rfl⟩
   replace H : (if y119.length + l0_2.length < 8796093022208 then (some (y110, y116, (y119 ++ l0_2))) else (none)) = some (r1, r2, r3) := by first | (rw [hy119]; with_reducible exact H) | (have H2_ := (Option.bind_some _ _).symm.trans H; rw [hy119]; with_reducible exact H2_) | (have H2_ := (Option.bind_some _ _).symm.trans H; with_reducible exact H2_) | with_reducible exact H | (rw [hy119]; exact H) | exact H
   have Ny119 := Aside0.mk hy119
   clear hy119
   by_cases c4 : y119.length + l0_2.length < 8796093022208
   ·rw [if_pos c4] at H
    have LMc4 := Aside0.mk c4
    clear c4
    obtain ⟨y122, hy122⟩ : ∃ y_ : List (S35), y_ = (y119 ++ l0_2) := ⟨_, rfl⟩
    replace H : (some (y110, y116, y122)) = some (r1, r2, r3) := by first | (rw [hy122]; with_reducible exact H) | (have H2_ := (Option.bind_some _ _).symm.trans H; rw [hy122]; with_reducible exact H2_) | (have H2_ := (Option.bind_some _ _).symm.trans H; with_reducible exact H2_) | with_reducible exact H | (rw [hy122]; exact H) | exact H
    have Ny122 := Aside0.mk hy122
    clear hy122
    simp only [Option.some.injEq, Prod.mk.injEq] at H
    obtain ⟨rfl, rfl, rfl⟩ := H
    go_enter Try.func14, Try.ntmps14
    try go_wp2_with (first | ((with_reducible refine gate_dst (N := 1) rfl ?_); refine bx 1 #[.slice A0_0 l0_0.length c0_0, .slice A0_1 l0_1.length c0_1, .slice A0_2 l0_2.length c0_2] 31 ?_; intro gb105 hg w5 hbox hb; have BK105 := mk hbox; have GW105 := wg hg; have GE105 := wg hg; replace HB := wh hb; clear hb hbox hg) | ((with_reducible refine gate_dst (N := 2) rfl ?_); refine bx 2 #[.slice none 0 0, .slice none 0 0, .slice none 0 0] 31 ?_; intro gb106 hg w6 hbox hb; have BK106 := mk hbox; have GW106 := wg hg; have GE106 := wg hg; replace HB := wh hb; have NB105_106 := nl BK105 hg; have NB106_105 := nr BK105 hg; replace BK105 := wb BK105 hb; clear hb hbox hg))
    replace BK105 := wd BK105
    replace BK106 := wd BK106
    replace HB := mk (below_drew1 HB.out)
    refine start_ (n := 14) (S := fun w' => w'.cell? ⟨gb105, 0, none⟩ = some (.slice A0_0 l0_0.length c0_0) ∧ w'.cell? ⟨gb105, 1, none⟩ = some (.slice A0_1 l0_1.length c0_1) ∧ w'.cell? ⟨gb105, 2, none⟩ = some (.slice A0_2 l0_2.length c0_2)) (ds := []) #[F_, F_, F_, F_, F_, F_, F_, F_, F_, F_, F_, F_, F_, F_] (by kernel_rfl) rfl rfl ⟨bc BK105 0, bc BK105 1, bc BK105 2⟩ (fun hHeld => ?_); refine with_tabW spec_l4Copy.tab1 spec_l4Copy.bits1 (fun HT_ HW_ => ?_)
    generalize w6.drew = w7 at BK105 BK106 HB hHeld ⊢
    refine pu 1 4 #[F_,T_,F_,F_,F_,F_,F_,F_,F_,F_,F_,F_,F_,F_] ?_
    refine pu 5 8 #[F_,T_,F_,F_,F_,T_,F_,F_,F_,F_,F_,F_,F_,F_] ?_
    refine pu 9 12 #[F_,T_,F_,F_,F_,T_,F_,F_,F_,T_,F_,F_,F_,F_] ?_
    refine tk 2 5 #[F_,T_,T_,F_,F_,T_,F_,F_,F_,T_,F_,F_,F_,F_] hHeld ?_
    refine tk 6 9 #[F_,T_,T_,F_,F_,T_,T_,F_,F_,T_,F_,F_,F_,F_] hHeld ?_
    refine tk 10 13 #[F_,T_,T_,F_,F_,T_,T_,F_,F_,T_,T_,F_,F_,F_] hHeld ?_
    refine join_ (σ := Value × Value × Value × Value × Value) 3 #[T_, T_, T_, T_, T_, T_, T_, T_, T_, T_, T_, F_, F_, F_] (fun s_ => [(3, s_.1), (6, s_.2.1), (7, s_.2.2.1), (10, s_.2.2.2.1), (11, s_.2.2.2.2)]) (fun s_ w' => (w'.cell? ⟨gb105, 0, none⟩ = some (.slice A0_0 l0_0.length c0_0) ∧ w'.cell? ⟨gb105, 1, none⟩ = some (.slice A0_1 l0_1.length c0_1) ∧ w'.cell? ⟨gb105, 2, none⟩ = some (.slice A0_2 l0_2.length c0_2)) ∧ (Kd.R (Kd.int .i64) 3 w' w.heap.size (fun k_ => some k_ ≠ (s_.2.2.2.1 : Value).ownBlock) s_.2.1 y110) ∧ (Kd.R (Kd.int .i64) 3 w' w.heap.size (fun k_ => some k_ ≠ (s_.2.1 : Value).ownBlock) s_.2.2.2.1 y116) ∧ (Kd.R k35 35 w' w.heap.size (fun _ => True) s_.2.2.2.2 y119) ∧ (w'.heap[gb105]? = some (.cells #[.slice A0_0 l0_0.length c0_0, .slice A0_1 l0_1.length c0_1, .slice A0_2 l0_2.length c0_2] 31 (0, 0))) ∧ (w'.heap[gb106]? = some (.cells #[.slice none 0 0, .slice none 0 0, .slice none 0 0] 31 (0, 0))) ∧ (Below w.heap.size w w')) ?_ ?_
    rotate_left
    ·intro hJ0_3_4_7_8
     refine join_ (σ := Value × Value × Value × Value) 4 #[T_, T_, T_, T_, T_, T_, T_, T_, F_, T_, T_, F_, F_, F_] (fun s_ => [(3, s_.1), (6, s_.2.1), (7, s_.2.2.1), (10, s_.2.2.2)]) (fun s_ w' => (w'.cell? ⟨gb105, 0, none⟩ = some (.slice A0_0 l0_0.length c0_0) ∧ w'.cell? ⟨gb105, 1, none⟩ = some (.slice A0_1 l0_1.length c0_1) ∧ w'.cell? ⟨gb105, 2, none⟩ = some (.slice A0_2 l0_2.length c0_2)) ∧ (Kd.R (Kd.int .i64) 3 w' w.heap.size (fun k_ => some k_ ≠ (s_.2.2.2 : Value).ownBlock) s_.2.1 y110) ∧ (Kd.R (Kd.int .i64) 3 w' w.heap.size (fun k_ => some k_ ≠ (s_.2.1 : Value).ownBlock) s_.2.2.2 y116) ∧ (w'.heap[gb105]? = some (.cells #[.slice A0_0 l0_0.length c0_0, .slice A0_1 l0_1.length c0_1, .slice A0_2 l0_2.length c0_2] 31 (0, 0))) ∧ (w'.heap[gb106]? = some (.cells #[.slice none 0 0, .slice none 0 0, .slice none 0 0] 31 (0, 0))) ∧ (Below w.heap.size w w')) ?_ ?_
     rotate_left
     ·intro hJ0_3_4_7
      refine join_ (σ := Value × Value × Value × Value) 4 #[T_, T_, T_, T_, T_, T_, T_, F_, T_, T_, T_, F_, F_, F_] (fun s_ => [(3, s_.1), (6, s_.2.1), (7, s_.2.2.1), (11, s_.2.2.2)]) (fun s_ w' => (w'.cell? ⟨gb105, 0, none⟩ = some (.slice A0_0 l0_0.length c0_0) ∧ w'.cell? ⟨gb105, 1, none⟩ = some (.slice A0_1 l0_1.length c0_1) ∧ w'.cell? ⟨gb105, 2, none⟩ = some (.slice A0_2 l0_2.length c0_2)) ∧ (Kd.R (Kd.int .i64) 3 w' w.heap.size (fun k_ => some k_ ≠ (s_.2.2.1 : Value).ownBlock) s_.2.1 y110) ∧ (Kd.R (Kd.int .i64) 3 w' w.heap.size (fun k_ => some k_ ≠ (s_.2.1 : Value).ownBlock) s_.2.2.1 y113) ∧ (Kd.R k35 35 w' w.heap.size (fun _ => True) s_.2.2.2 y119) ∧ (w'.heap[gb105]? = some (.cells #[.slice A0_0 l0_0.length c0_0, .slice A0_1 l0_1.length c0_1, .slice A0_2 l0_2.length c0_2] 31 (0, 0))) ∧ (w'.heap[gb106]? = some (.cells #[.slice none 0 0, .slice none 0 0, .slice none 0 0] 31 (0, 0))) ∧ (Below w.heap.size w w')) ?_ ?_
      rotate_left
      ·intro hJ0_3_4_8
       refine join_ (σ := Value × Value × Value) 5 #[T_, T_, T_, T_, T_, T_, T_, F_, F_, T_, T_, F_, F_, F_] (fun s_ => [(3, s_.1), (6, s_.2.1), (7, s_.2.2)]) (fun s_ w' => (w'.cell? ⟨gb105, 0, none⟩ = some (.slice A0_0 l0_0.length c0_0) ∧ w'.cell? ⟨gb105, 1, none⟩ = some (.slice A0_1 l0_1.length c0_1) ∧ w'.cell? ⟨gb105, 2, none⟩ = some (.slice A0_2 l0_2.length c0_2)) ∧ (Kd.R (Kd.int .i64) 3 w' w.heap.size (fun k_ => some k_ ≠ (s_.2.2 : Value).ownBlock) s_.2.1 y110) ∧ (Kd.R (Kd.int .i64) 3 w' w.heap.size (fun k_ => some k_ ≠ (s_.2.1 : Value).ownBlock) s_.2.2 y113) ∧ (w'.heap[gb105]? = some (.cells #[.slice A0_0 l0_0.length c0_0, .slice A0_1 l0_1.length c0_1, .slice A0_2 l0_2.length c0_2] 31 (0, 0))) ∧ (w'.heap[gb106]? = some (.cells #[.slice none 0 0, .slice none 0 0, .slice none 0 0] 31 (0, 0))) ∧ (Below w.heap.size w w')) ?_ ?_
       rotate_left
       ·intro hJ0_3_4
        refine join_ (σ := Value × Value × Value) 5 #[T_, T_, T_, T_, F_, T_, T_, F_, T_, T_, T_, F_, F_, F_] (fun s_ => [(3, s_.1), (6, s_.2.1), (11, s_.2.2)]) (fun s_ w' => (w'.cell? ⟨gb105, 0, none⟩ = some (.slice A0_0 l0_0.length c0_0) ∧ w'.cell? ⟨gb105, 1, none⟩ = some (.slice A0_1 l0_1.length c0_1) ∧ w'.cell? ⟨gb105, 2, none⟩ = some (.slice A0_2 l0_2.length c0_2)) ∧ (Kd.R (Kd.int .i64) 3 w' w.heap.size (fun _ => True) s_.2.1 y110) ∧ (Kd.R k35 35 w' w.heap.size (fun _ => True) s_.2.2 y119) ∧ (w'.heap[gb105]? = some (.cells #[.slice A0_0 l0_0.length c0_0, .slice A0_1 l0_1.length c0_1, .slice A0_2 l0_2.length c0_2] 31 (0, 0))) ∧ (w'.heap[gb106]? = some (.cells #[.slice none 0 0, .slice none 0 0, .slice none 0 0] 31 (0, 0))) ∧ (Below w.heap.size w w')) ?_ ?_
        rotate_left
        ·intro hJ0_3_8
         refine join_ (σ := Value × Value × Value) 5 #[T_, T_, T_, F_, T_, T_, T_, F_, T_, T_, T_, F_, F_, F_] (fun s_ => [(3, s_.1), (7, s_.2.1), (11, s_.2.2)]) (fun s_ w' => (w'.cell? ⟨gb105, 0, none⟩ = some (.slice A0_0 l0_0.length c0_0) ∧ w'.cell? ⟨gb105, 1, none⟩ = some (.slice A0_1 l0_1.length c0_1) ∧ w'.cell? ⟨gb105, 2, none⟩ = some (.slice A0_2 l0_2.length c0_2)) ∧ (Kd.R (Kd.int .i64) 3 w' w.heap.size (fun k_ => some k_ ≠ (s_.2.1 : Value).ownBlock) s_.1 y107) ∧ (Kd.R (Kd.int .i64) 3 w' w.heap.size (fun k_ => some k_ ≠ (s_.1 : Value).ownBlock) s_.2.1 y113) ∧ (Kd.R k35 35 w' w.heap.size (fun _ => True) s_.2.2 y119) ∧ (w'.heap[gb105]? = some (.cells #[.slice A0_0 l0_0.length c0_0, .slice A0_1 l0_1.length c0_1, .slice A0_2 l0_2.length c0_2] 31 (0, 0))) ∧ (w'.heap[gb106]? = some (.cells #[.slice none 0 0, .slice none 0 0, .slice none 0 0] 31 (0, 0))) ∧ (Below w.heap.size w w')) ?_ ?_
         rotate_left
         ·intro hJ0_4_8
          refine join_ (σ := Value × Value) 6 #[T_, T_, T_, T_, F_, T_, T_, F_, F_, T_, T_, F_, F_, F_] (fun s_ => [(3, s_.1), (6, s_.2)]) (fun s_ w' => (w'.cell? ⟨gb105, 0, none⟩ = some (.slice A0_0 l0_0.length c0_0) ∧ w'.cell? ⟨gb105, 1, none⟩ = some (.slice A0_1 l0_1.length c0_1) ∧ w'.cell? ⟨gb105, 2, none⟩ = some (.slice A0_2 l0_2.length c0_2)) ∧ (Kd.R (Kd.int .i64) 3 w' w.heap.size (fun _ => True) s_.2 y110) ∧ (w'.heap[gb105]? = some (.cells #[.slice A0_0 l0_0.length c0_0, .slice A0_1 l0_1.length c0_1, .slice A0_2 l0_2.length c0_2] 31 (0, 0))) ∧ (w'.heap[gb106]? = some (.cells #[.slice none 0 0, .slice none 0 0, .slice none 0 0] 31 (0, 0))) ∧ (Below w.heap.size w w')) ?_ ?_
          rotate_left
          ·intro hJ0_3
           refine join_ (σ := Value × Value) 6 #[T_, T_, T_, F_, T_, T_, T_, F_, F_, T_, T_, F_, F_, F_] (fun s_ => [(3, s_.1), (7, s_.2)]) (fun s_ w' => (w'.cell? ⟨gb105, 0, none⟩ = some (.slice A0_0 l0_0.length c0_0) ∧ w'.cell? ⟨gb105, 1, none⟩ = some (.slice A0_1 l0_1.length c0_1) ∧ w'.cell? ⟨gb105, 2, none⟩ = some (.slice A0_2 l0_2.length c0_2)) ∧ (Kd.R (Kd.int .i64) 3 w' w.heap.size (fun k_ => some k_ ≠ (s_.2 : Value).ownBlock) s_.1 y107) ∧ (Kd.R (Kd.int .i64) 3 w' w.heap.size (fun k_ => some k_ ≠ (s_.1 : Value).ownBlock) s_.2 y113) ∧ (w'.heap[gb105]? = some (.cells #[.slice A0_0 l0_0.length c0_0, .slice A0_1 l0_1.length c0_1, .slice A0_2 l0_2.length c0_2] 31 (0, 0))) ∧ (w'.heap[gb106]? = some (.cells #[.slice none 0 0, .slice none 0 0, .slice none 0 0] 31 (0, 0))) ∧ (Below w.heap.size w w')) ?_ ?_
           rotate_left
           ·intro hJ0_4
            refine join_ (σ := Value × Value) 6 #[T_, T_, T_, F_, F_, T_, T_, F_, T_, T_, T_, F_, F_, F_] (fun s_ => [(3, s_.1), (11, s_.2)]) (fun s_ w' => (w'.cell? ⟨gb105, 0, none⟩ = some (.slice A0_0 l0_0.length c0_0) ∧ w'.cell? ⟨gb105, 1, none⟩ = some (.slice A0_1 l0_1.length c0_1) ∧ w'.cell? ⟨gb105, 2, none⟩ = some (.slice A0_2 l0_2.length c0_2)) ∧ (Kd.R (Kd.int .i64) 3 w' w.heap.size (fun _ => True) s_.1 y107) ∧ (Kd.R k35 35 w' w.heap.size (fun _ => True) s_.2 y119) ∧ (w'.heap[gb105]? = some (.cells #[.slice A0_0 l0_0.length c0_0, .slice A0_1 l0_1.length c0_1, .slice A0_2 l0_2.length c0_2] 31 (0, 0))) ∧ (w'.heap[gb106]? = some (.cells #[.slice none 0 0, .slice none 0 0, .slice none 0 0] 31 (0, 0))) ∧ (Below w.heap.size w w')) ?_ ?_
            rotate_left
            ·intro hJ0_8
             refine join_ (σ := Value × Value) 6 #[F_, T_, T_, F_, T_, T_, T_, F_, T_, T_, T_, F_, F_, F_] (fun s_ => [(7, s_.1), (11, s_.2)]) (fun s_ w' => (w'.cell? ⟨gb105, 0, none⟩ = some (.slice A0_0 l0_0.length c0_0) ∧ w'.cell? ⟨gb105, 1, none⟩ = some (.slice A0_1 l0_1.length c0_1) ∧ w'.cell? ⟨gb105, 2, none⟩ = some (.slice A0_2 l0_2.length c0_2)) ∧ (Kd.R (Kd.int .i64) 3 w' w.heap.size (fun _ => True) s_.1 y113) ∧ (Kd.R k35 35 w' w.heap.size (fun _ => True) s_.2 y119) ∧ (w'.heap[gb105]? = some (.cells #[.slice A0_0 l0_0.length c0_0, .slice A0_1 l0_1.length c0_1, .slice A0_2 l0_2.length c0_2] 31 (0, 0))) ∧ (w'.heap[gb106]? = some (.cells #[.slice none 0 0, .slice none 0 0, .slice none 0 0] 31 (0, 0))) ∧ (Below w.heap.size w w')) ?_ ?_
             rotate_left
             ·intro hJ4_8
              refine join_ (σ := Value) 7 #[T_, T_, T_, F_, F_, T_, T_, F_, F_, T_, T_, F_, F_, F_] (fun s_ => [(3, s_)]) (fun s_ w' => (w'.cell? ⟨gb105, 0, none⟩ = some (.slice A0_0 l0_0.length c0_0) ∧ w'.cell? ⟨gb105, 1, none⟩ = some (.slice A0_1 l0_1.length c0_1) ∧ w'.cell? ⟨gb105, 2, none⟩ = some (.slice A0_2 l0_2.length c0_2)) ∧ (Kd.R (Kd.int .i64) 3 w' w.heap.size (fun _ => True) s_ y107) ∧ (w'.heap[gb105]? = some (.cells #[.slice A0_0 l0_0.length c0_0, .slice A0_1 l0_1.length c0_1, .slice A0_2 l0_2.length c0_2] 31 (0, 0))) ∧ (w'.heap[gb106]? = some (.cells #[.slice none 0 0, .slice none 0 0, .slice none 0 0] 31 (0, 0))) ∧ (Below w.heap.size w w')) ?_ ?_
              rotate_left
              ·intro hJ0
               refine join_ (σ := Value) 7 #[F_, T_, T_, F_, T_, T_, T_, F_, F_, T_, T_, F_, F_, F_] (fun s_ => [(7, s_)]) (fun s_ w' => (w'.cell? ⟨gb105, 0, none⟩ = some (.slice A0_0 l0_0.length c0_0) ∧ w'.cell? ⟨gb105, 1, none⟩ = some (.slice A0_1 l0_1.length c0_1) ∧ w'.cell? ⟨gb105, 2, none⟩ = some (.slice A0_2 l0_2.length c0_2)) ∧ (Kd.R (Kd.int .i64) 3 w' w.heap.size (fun _ => True) s_ y113) ∧ (w'.heap[gb105]? = some (.cells #[.slice A0_0 l0_0.length c0_0, .slice A0_1 l0_1.length c0_1, .slice A0_2 l0_2.length c0_2] 31 (0, 0))) ∧ (w'.heap[gb106]? = some (.cells #[.slice none 0 0, .slice none 0 0, .slice none 0 0] 31 (0, 0))) ∧ (Below w.heap.size w w')) ?_ ?_
               rotate_left
               ·intro hJ4
                refine join_ (σ := Value) 7 #[F_, T_, T_, F_, F_, T_, T_, F_, T_, T_, T_, F_, F_, F_] (fun s_ => [(11, s_)]) (fun s_ w' => (w'.cell? ⟨gb105, 0, none⟩ = some (.slice A0_0 l0_0.length c0_0) ∧ w'.cell? ⟨gb105, 1, none⟩ = some (.slice A0_1 l0_1.length c0_1) ∧ w'.cell? ⟨gb105, 2, none⟩ = some (.slice A0_2 l0_2.length c0_2)) ∧ (Kd.R k35 35 w' w.heap.size (fun _ => True) s_ y119) ∧ (w'.heap[gb105]? = some (.cells #[.slice A0_0 l0_0.length c0_0, .slice A0_1 l0_1.length c0_1, .slice A0_2 l0_2.length c0_2] 31 (0, 0))) ∧ (w'.heap[gb106]? = some (.cells #[.slice none 0 0, .slice none 0 0, .slice none 0 0] 31 (0, 0))) ∧ (Below w.heap.size w w')) ?_ ?_
                rotate_left
                ·intro hJ8
                 refine three_ (i := 0) (j := 4) (k := 8) (Ni := some 3) (Nj := some 7) (Nk := some 11) #[T_, T_, T_, F_, F_, T_, T_, F_, F_, T_, T_, F_, F_, F_] #[F_, T_, T_, F_, T_, T_, T_, F_, F_, T_, T_, F_, F_, F_] #[F_, T_, T_, F_, F_, T_, T_, F_, T_, T_, T_, F_, F_, F_] rfl rfl rfl rfl rfl rfl (three_of HT_.out (by kernel_rfl)) (by decide) (by decide) (by decide) (fun K hK => ?_) (fun K hK => ?_) (fun K hK => ?_)
                 ·skip
                  refine Kd.R_lit_step (Kd.int .i64) _ 3 ?hg (N := 3) ?hd (xs := ([] : List Int)) (inner := []) (ok := fun _ => True) (okp := fun _ => True) ?hr ?hp (fun _ hk => hk) trivial (Below.refl _ _) (Nat.le_refl _) (by simp) ?_; (case hd => rfl); (case hg => rfl); (case hr => first | (go_simp; done) | (go_simp; rfl)); (case hp => exact (Reps.none _ _))
                  intro v108 w8 ho9 hb hg_ hnew_
                  clear hg_ hnew_
                  (first | rw [← Ny107.out] at ho9 | (simp only [Int.reduceToNat] at ho9; rw [← Ny107.out] at ho9))
                  have HO109 := mk (Kd.R_lower ho9 (below_size bl))
                  replace BK105 := wb BK105 hb
                  replace BK106 := wb BK106 hb
                  replace HB := wh hb
                  clear hb ho9
                  refine hK.out _ _ ⟨bc BK105 0, bc BK105 1, bc BK105 2⟩ (fun hHeld => ?_)
                  clear hK K
                  refine nm 3 ?_
                  exact norm_ (by first | (simp only [putAll, Act.put, List.setIfInBounds_toArray, List.set_cons_zero, List.set_cons_succ]; done) | (simp only [putAll, Act.put, List.setIfInBounds_toArray, List.set_cons_zero, List.set_cons_succ]; rfl)) (hJ0 (v108) _ ⟨hHeld, (up HO109.out), (ub BK105.out), (ub BK106.out), bl⟩)
                 ·skip
                  refine Kd.R_lit_step (Kd.int .i64) _ 3 ?hg (N := 7) ?hd (xs := ([] : List Int)) (inner := []) (ok := fun _ => True) (okp := fun _ => True) ?hr ?hp (fun _ hk => hk) trivial (Below.refl _ _) (Nat.le_refl _) (by simp) ?_; (case hd => rfl); (case hg => rfl); (case hr => first | (go_simp; done) | (go_simp; rfl)); (case hp => exact (Reps.none _ _))
                  intro v114 w8 ho9 hb hg_ hnew_
                  clear hg_ hnew_
                  (first | rw [← Ny113.out] at ho9 | (simp only [Int.reduceToNat] at ho9; rw [← Ny113.out] at ho9))
                  have HO115 := mk (Kd.R_lower ho9 (below_size bl))
                  replace BK105 := wb BK105 hb
                  replace BK106 := wb BK106 hb
                  replace HB := wh hb
                  clear hb ho9
                  refine hK.out _ _ ⟨bc BK105 0, bc BK105 1, bc BK105 2⟩ (fun hHeld => ?_)
                  clear hK K
                  refine nm 7 ?_
                  exact norm_ (by first | (simp only [putAll, Act.put, List.setIfInBounds_toArray, List.set_cons_zero, List.set_cons_succ]; done) | (simp only [putAll, Act.put, List.setIfInBounds_toArray, List.set_cons_zero, List.set_cons_succ]; rfl)) (hJ4 (v114) _ ⟨hHeld, (up HO115.out), (ub BK105.out), (ub BK106.out), bl⟩)
                 ·skip
                  refine Kd.R_lit_step k35 _ 35 ?hg (N := 11) ?hd (xs := ([] : List (S35))) (inner := []) (ok := fun _ => True) (okp := fun _ => True) ?hr ?hp (fun _ hk => hk) trivial (Below.refl _ _) (Nat.le_refl _) (by simp) ?_; (case hd => rfl); (case hg => rfl); (case hr => first | (go_simp; done) | (go_simp; rfl)); (case hp => exact (Reps.none _ _))
                  intro v120 w8 ho9 hb hg_ hnew_
                  clear hg_ hnew_
                  (first | rw [← Ny119.out] at ho9 | (simp only [Int.reduceToNat] at ho9; rw [← Ny119.out] at ho9))
                  have HO121 := mk (Kd.R_lower ho9 (below_size bl))
                  replace BK105 := wb BK105 hb
                  replace BK106 := wb BK106 hb
                  replace HB := wh hb
                  clear hb ho9
                  refine hK.out _ _ ⟨bc BK105 0, bc BK105 1, bc BK105 2⟩ (fun hHeld => ?_)
                  clear hK K
                  refine nm 11 ?_
                  exact norm_ (by first | (simp only [putAll, Act.put, List.setIfInBounds_toArray, List.set_cons_zero, List.set_cons_succ]; done) | (simp only [putAll, Act.put, List.setIfInBounds_toArray, List.set_cons_zero, List.set_cons_succ]; rfl)) (hJ8 (v120) _ ⟨hHeld, (up HO121.out), (ub BK105.out), (ub BK106.out), bl⟩)
                ·skip
                 rintro v120 w10 ⟨hS_, h0_, h1_, h2_, h3_⟩
                 have n0_ : Aside0 (Kd.R k35 35 w10 w.heap.size (fun _ => True) v120 y119) := ⟨h0_⟩
                 have n1_ : Aside0 (w10.heap[gb105]? = some (.cells #[.slice A0_0 l0_0.length c0_0, .slice A0_1 l0_1.length c0_1, .slice A0_2 l0_2.length c0_2] 31 (0, 0))) := ⟨h1_⟩
                 have n2_ : Aside0 (w10.heap[gb106]? = some (.cells #[.slice none 0 0, .slice none 0 0, .slice none 0 0] 31 (0, 0))) := ⟨h2_⟩
                 have n3_ : Aside0 (Below w.heap.size w w10) := ⟨h3_⟩
                 clear BK105
                 clear BK106
                 clear HB
                 clear h0_ h1_ h2_ h3_
                 have HO121 := n0_
                 have BK105 := n1_
                 have BK106 := n2_
                 have HB := n3_
                 clear n0_ n1_ n2_ n3_
                 have hHeld : w10.cell? ⟨gb105, 0, none⟩ = some (.slice A0_0 l0_0.length c0_0) ∧ w10.cell? ⟨gb105, 1, none⟩ = some (.slice A0_1 l0_1.length c0_1) ∧ w10.cell? ⟨gb105, 2, none⟩ = some (.slice A0_2 l0_2.length c0_2) := hS_
                 refine norm_ (a' := ?_) ?_ ?_
                 rotate_left
                 ·simp only [putAll, Act.put, List.setIfInBounds_toArray, List.set_cons_zero, List.set_cons_succ]
                  rfl
                 refine two_ (i := 0) (j := 4) (Ni := some 3) (Nj := some 7) #[T_, T_, T_, F_, F_, T_, T_, F_, T_, T_, T_, F_, F_, F_] #[F_, T_, T_, F_, T_, T_, T_, F_, T_, T_, T_, F_, F_, F_] rfl rfl rfl rfl (two_of HT_.out (by kernel_rfl)) (by decide) (by decide) (fun K hK => ?_) (fun K hK => ?_)
                 ·skip
                  refine Kd.R_lit_step (Kd.int .i64) _ 3 ?hg (N := 3) ?hd (xs := ([] : List Int)) (inner := []) (ok := fun _ => True) (okp := fun _ => True) ?hr ?hp (fun _ hk => hk) trivial (Below.refl _ _) (Nat.le_refl _) (by simp) ?_; (case hd => rfl); (case hg => rfl); (case hr => first | (go_simp; done) | (go_simp; rfl)); (case hp => exact (Reps.none _ _))
                  intro v108 w11 ho12 hb hg_ hnew_
                  clear hg_ hnew_
                  (first | rw [← Ny107.out] at ho12 | (simp only [Int.reduceToNat] at ho12; rw [← Ny107.out] at ho12))
                  replace HO121 := mk (Kd.R_below (up HO121.out) hb)
                  have HO109 := mk (Kd.R_lower ho12 (below_size bl))
                  replace BK105 := wb BK105 hb
                  replace BK106 := wb BK106 hb
                  replace HB := wh hb
                  clear hb ho12
                  refine hK.out _ _ ⟨bc BK105 0, bc BK105 1, bc BK105 2⟩ (fun hHeld => ?_)
                  clear hK K
                  refine nm 3 ?_
                  exact norm_ (by first | (simp only [putAll, Act.put, List.setIfInBounds_toArray, List.set_cons_zero, List.set_cons_succ]; done) | (simp only [putAll, Act.put, List.setIfInBounds_toArray, List.set_cons_zero, List.set_cons_succ]; rfl)) (hJ0_8 (v108, v120) _ ⟨hHeld, (up HO109.out), (up HO121.out), (ub BK105.out), (ub BK106.out), bl⟩)
                 ·skip
                  refine Kd.R_lit_step (Kd.int .i64) _ 3 ?hg (N := 7) ?hd (xs := ([] : List Int)) (inner := []) (ok := fun _ => True) (okp := fun _ => True) ?hr ?hp (fun _ hk => hk) trivial (Below.refl _ _) (Nat.le_refl _) (by simp) ?_; (case hd => rfl); (case hg => rfl); (case hr => first | (go_simp; done) | (go_simp; rfl)); (case hp => exact (Reps.none _ _))
                  intro v114 w11 ho12 hb hg_ hnew_
                  clear hg_ hnew_
                  (first | rw [← Ny113.out] at ho12 | (simp only [Int.reduceToNat] at ho12; rw [← Ny113.out] at ho12))
                  replace HO121 := mk (Kd.R_below (up HO121.out) hb)
                  have HO115 := mk (Kd.R_lower ho12 (below_size bl))
                  replace BK105 := wb BK105 hb
                  replace BK106 := wb BK106 hb
                  replace HB := wh hb
                  clear hb ho12
                  refine hK.out _ _ ⟨bc BK105 0, bc BK105 1, bc BK105 2⟩ (fun hHeld => ?_)
                  clear hK K
                  refine nm 7 ?_
                  exact norm_ (by first | (simp only [putAll, Act.put, List.setIfInBounds_toArray, List.set_cons_zero, List.set_cons_succ]; done) | (simp only [putAll, Act.put, List.setIfInBounds_toArray, List.set_cons_zero, List.set_cons_succ]; rfl)) (hJ4_8 (v114, v120) _ ⟨hHeld, (up HO115.out), (up HO121.out), (ub BK105.out), (ub BK106.out), bl⟩)
               ·skip
                rintro v114 w10 ⟨hS_, h0_, h1_, h2_, h3_⟩
                have n0_ : Aside0 (Kd.R (Kd.int .i64) 3 w10 w.heap.size (fun _ => True) v114 y113) := ⟨h0_⟩
                have n1_ : Aside0 (w10.heap[gb105]? = some (.cells #[.slice A0_0 l0_0.length c0_0, .slice A0_1 l0_1.length c0_1, .slice A0_2 l0_2.length c0_2] 31 (0, 0))) := ⟨h1_⟩
                have n2_ : Aside0 (w10.heap[gb106]? = some (.cells #[.slice none 0 0, .slice none 0 0, .slice none 0 0] 31 (0, 0))) := ⟨h2_⟩
                have n3_ : Aside0 (Below w.heap.size w w10) := ⟨h3_⟩
                clear BK105
                clear BK106
                clear HB
                clear h0_ h1_ h2_ h3_
                have HO115 := n0_
                have BK105 := n1_
                have BK106 := n2_
                have HB := n3_
                clear n0_ n1_ n2_ n3_
                have hHeld : w10.cell? ⟨gb105, 0, none⟩ = some (.slice A0_0 l0_0.length c0_0) ∧ w10.cell? ⟨gb105, 1, none⟩ = some (.slice A0_1 l0_1.length c0_1) ∧ w10.cell? ⟨gb105, 2, none⟩ = some (.slice A0_2 l0_2.length c0_2) := hS_
                refine norm_ (a' := ?_) ?_ ?_
                rotate_left
                ·simp only [putAll, Act.put, List.setIfInBounds_toArray, List.set_cons_zero, List.set_cons_succ]
                 rfl
                refine two_ (i := 0) (j := 8) (Ni := some 3) (Nj := some 11) #[T_, T_, T_, F_, T_, T_, T_, F_, F_, T_, T_, F_, F_, F_] #[F_, T_, T_, F_, T_, T_, T_, F_, T_, T_, T_, F_, F_, F_] rfl rfl rfl rfl (two_of HT_.out (by kernel_rfl)) (by decide) (by decide) (fun K hK => ?_) (fun K hK => ?_)
                ·skip
                 refine Kd.R_lit_step (Kd.int .i64) _ 3 ?hg (N := 3) ?hd (xs := ([] : List Int)) (inner := []) (ok := fun _ => True) (okp := fun _ => True) ?hr ?hp (fun _ hk => hk) trivial (Below.refl _ _) (Nat.le_refl _) (by simp) ?_; (case hd => rfl); (case hg => rfl); (case hr => first | (go_simp; done) | (go_simp; rfl)); (case hp => exact (Reps.none _ _))
                 intro v108 w11 ho12 hb hg_ hnew_
                 clear hg_ hnew_
                 (first | rw [← Ny107.out] at ho12 | (simp only [Int.reduceToNat] at ho12; rw [← Ny107.out] at ho12))
                 have HO109 := mk (Kd.R_lower (Kd.R_new' ho12 (Kd.R_lt (up HO115.out))) (below_size bl))
                 replace HO115 := mk (Kd.R_elder' (up HO115.out) (Kd.R_base ho12) hb)
                 replace BK105 := wb BK105 hb
                 replace BK106 := wb BK106 hb
                 replace HB := wh hb
                 clear hb ho12
                 refine hK.out _ _ ⟨bc BK105 0, bc BK105 1, bc BK105 2⟩ (fun hHeld => ?_)
                 clear hK K
                 refine nm 3 ?_
                 exact norm_ (by first | (simp only [putAll, Act.put, List.setIfInBounds_toArray, List.set_cons_zero, List.set_cons_succ]; done) | (simp only [putAll, Act.put, List.setIfInBounds_toArray, List.set_cons_zero, List.set_cons_succ]; rfl)) (hJ0_4 (v108, v114) _ ⟨hHeld, (by exact up (Kd.R_mono HO109.out (fun _ hk => hk.2))), (by exact up (Kd.R_mono HO115.out (fun _ hk => hk.2))), (ub BK105.out), (ub BK106.out), bl⟩)
                ·skip
                 refine Kd.R_lit_step k35 _ 35 ?hg (N := 11) ?hd (xs := ([] : List (S35))) (inner := []) (ok := fun _ => True) (okp := fun _ => True) ?hr ?hp (fun _ hk => hk) trivial (Below.refl _ _) (Nat.le_refl _) (by simp) ?_; (case hd => rfl); (case hg => rfl); (case hr => first | (go_simp; done) | (go_simp; rfl)); (case hp => exact (Reps.none _ _))
                 intro v120 w11 ho12 hb hg_ hnew_
                 clear hg_ hnew_
                 (first | rw [← Ny119.out] at ho12 | (simp only [Int.reduceToNat] at ho12; rw [← Ny119.out] at ho12))
                 replace HO115 := mk (Kd.R_below (up HO115.out) hb)
                 have HO121 := mk (Kd.R_lower ho12 (below_size bl))
                 replace BK105 := wb BK105 hb
                 replace BK106 := wb BK106 hb
                 replace HB := wh hb
                 clear hb ho12
                 refine hK.out _ _ ⟨bc BK105 0, bc BK105 1, bc BK105 2⟩ (fun hHeld => ?_)
                 clear hK K
                 refine nm 11 ?_
                 exact norm_ (by first | (simp only [putAll, Act.put, List.setIfInBounds_toArray, List.set_cons_zero, List.set_cons_succ]; done) | (simp only [putAll, Act.put, List.setIfInBounds_toArray, List.set_cons_zero, List.set_cons_succ]; rfl)) (hJ4_8 (v114, v120) _ ⟨hHeld, (up HO115.out), (up HO121.out), (ub BK105.out), (ub BK106.out), bl⟩)
              ·skip
               rintro v108 w10 ⟨hS_, h0_, h1_, h2_, h3_⟩
               have n0_ : Aside0 (Kd.R (Kd.int .i64) 3 w10 w.heap.size (fun _ => True) v108 y107) := ⟨h0_⟩
               have n1_ : Aside0 (w10.heap[gb105]? = some (.cells #[.slice A0_0 l0_0.length c0_0, .slice A0_1 l0_1.length c0_1, .slice A0_2 l0_2.length c0_2] 31 (0, 0))) := ⟨h1_⟩
               have n2_ : Aside0 (w10.heap[gb106]? = some (.cells #[.slice none 0 0, .slice none 0 0, .slice none 0 0] 31 (0, 0))) := ⟨h2_⟩
               have n3_ : Aside0 (Below w.heap.size w w10) := ⟨h3_⟩
               clear BK105
               clear BK106
               clear HB
               clear h0_ h1_ h2_ h3_
               have HO109 := n0_
               have BK105 := n1_
               have BK106 := n2_
               have HB := n3_
               clear n0_ n1_ n2_ n3_
               have hHeld : w10.cell? ⟨gb105, 0, none⟩ = some (.slice A0_0 l0_0.length c0_0) ∧ w10.cell? ⟨gb105, 1, none⟩ = some (.slice A0_1 l0_1.length c0_1) ∧ w10.cell? ⟨gb105, 2, none⟩ = some (.slice A0_2 l0_2.length c0_2) := hS_
               refine norm_ (a' := ?_) ?_ ?_
               rotate_left
               ·simp only [putAll, Act.put, List.setIfInBounds_toArray, List.set_cons_zero, List.set_cons_succ]
                rfl
               refine three_ (i := 3) (j := 4) (k := 8) (Ni := some 6) (Nj := some 7) (Nk := some 11) #[T_, T_, T_, T_, F_, T_, T_, F_, F_, T_, T_, F_, F_, F_] #[T_, T_, T_, F_, T_, T_, T_, F_, F_, T_, T_, F_, F_, F_] #[T_, T_, T_, F_, F_, T_, T_, F_, T_, T_, T_, F_, F_, F_] rfl rfl rfl rfl rfl rfl (three_of HT_.out (by kernel_rfl)) (by decide) (by decide) (by decide) (fun K hK => ?_) (fun K hK => ?_) (fun K hK => ?_)
               ·skip
                refine Kd.R_append_rows_step (Kd.int .i64) (w0 := w) w.heap.size (by rfl) (.tmp 3) (.tmp 5) 22 3 (.int .i64 0) 8 rfl Try.underlying22 info3 rfl (by decide) (by omega) v108 y107 l0_0 _ _ _ (fun _ => True) (fun _ => False) rfl rfl ?aO ?aR (fun _ _ h => h) (fun _ h => h.elim) ?aF ?aB ?aS ?aL ?_
                (case aR => exact uc (Kd.C_below HR0_0.out HB.out))
                (case aB => exact bl)
                (case aF => exact (fun _ _ => trivial))
                (case aO => exact (up HO109.out))
                (case aS => exact (below_size bl))
                (case aL => have := LMc2.out; omega)
                intro v111 w11 ho hb hg hat
                rw [← Ny110.out] at ho
                replace BK105 := mk (blk_grown (g := gb105) (o := .cells #[.slice A0_0 l0_0.length c0_0, .slice A0_1 l0_1.length c0_1, .slice A0_2 l0_2.length c0_2] 31 (0, 0)) (ub BK105.out) hg (Kd.R_ne HO109.out BK105.out (by decide)))
                replace BK106 := mk (blk_grown (g := gb106) (o := .cells #[.slice none 0 0, .slice none 0 0, .slice none 0 0] 31 (0, 0)) (ub BK106.out) hg (Kd.R_ne HO109.out BK106.out (by decide)))
                replace HB := mk hb
                have HO112 := mk ho
                clear HO109
                clear ho hb hg hat
                refine hK.out _ _ ⟨bc BK105 0, bc BK105 1, bc BK105 2⟩ (fun hHeld => ?_)
                clear hK K
                refine nm 6 ?_
                exact norm_ (by first | (simp only [putAll, Act.put, List.setIfInBounds_toArray, List.set_cons_zero, List.set_cons_succ]; done) | (simp only [putAll, Act.put, List.setIfInBounds_toArray, List.set_cons_zero, List.set_cons_succ]; rfl)) (hJ0_3 (v108, v111) _ ⟨hHeld, (up HO112.out), (ub BK105.out), (ub BK106.out), bl⟩)
               ·skip
                refine Kd.R_lit_step (Kd.int .i64) _ 3 ?hg (N := 7) ?hd (xs := ([] : List Int)) (inner := []) (ok := fun _ => True) (okp := fun _ => True) ?hr ?hp (fun _ hk => hk) trivial (Below.refl _ _) (Nat.le_refl _) (by simp) ?_; (case hd => rfl); (case hg => rfl); (case hr => first | (go_simp; done) | (go_simp; rfl)); (case hp => exact (Reps.none _ _))
                intro v114 w11 ho12 hb hg_ hnew_
                clear hg_ hnew_
                (first | rw [← Ny113.out] at ho12 | (simp only [Int.reduceToNat] at ho12; rw [← Ny113.out] at ho12))
                have HO115 := mk (Kd.R_lower (Kd.R_new' ho12 (Kd.R_lt (up HO109.out))) (below_size bl))
                replace HO109 := mk (Kd.R_elder' (up HO109.out) (Kd.R_base ho12) hb)
                replace BK105 := wb BK105 hb
                replace BK106 := wb BK106 hb
                replace HB := wh hb
                clear hb ho12
                refine hK.out _ _ ⟨bc BK105 0, bc BK105 1, bc BK105 2⟩ (fun hHeld => ?_)
                clear hK K
                refine nm 7 ?_
                exact norm_ (by first | (simp only [putAll, Act.put, List.setIfInBounds_toArray, List.set_cons_zero, List.set_cons_succ]; done) | (simp only [putAll, Act.put, List.setIfInBounds_toArray, List.set_cons_zero, List.set_cons_succ]; rfl)) (hJ0_4 (v108, v114) _ ⟨hHeld, (by exact up (Kd.R_mono HO109.out (fun _ hk => hk.2))), (by exact up (Kd.R_mono HO115.out (fun _ hk => hk.2))), (ub BK105.out), (ub BK106.out), bl⟩)
               ·skip
                refine Kd.R_lit_step k35 _ 35 ?hg (N := 11) ?hd (xs := ([] : List (S35))) (inner := []) (ok := fun _ => True) (okp := fun _ => True) ?hr ?hp (fun _ hk => hk) trivial (Below.refl _ _) (Nat.le_refl _) (by simp) ?_; (case hd => rfl); (case hg => rfl); (case hr => first | (go_simp; done) | (go_simp; rfl)); (case hp => exact (Reps.none _ _))
                intro v120 w11 ho12 hb hg_ hnew_
                clear hg_ hnew_
                (first | rw [← Ny119.out] at ho12 | (simp only [Int.reduceToNat] at ho12; rw [← Ny119.out] at ho12))
                replace HO109 := mk (Kd.R_below (up HO109.out) hb)
                have HO121 := mk (Kd.R_lower ho12 (below_size bl))
                replace BK105 := wb BK105 hb
                replace BK106 := wb BK106 hb
                replace HB := wh hb
                clear hb ho12
                refine hK.out _ _ ⟨bc BK105 0, bc BK105 1, bc BK105 2⟩ (fun hHeld => ?_)
                clear hK K
                refine nm 11 ?_
                exact norm_ (by first | (simp only [putAll, Act.put, List.setIfInBounds_toArray, List.set_cons_zero, List.set_cons_succ]; done) | (simp only [putAll, Act.put, List.setIfInBounds_toArray, List.set_cons_zero, List.set_cons_succ]; rfl)) (hJ0_8 (v108, v120) _ ⟨hHeld, (up HO109.out), (up HO121.out), (ub BK105.out), (ub BK106.out), bl⟩)
             ·skip
              rintro ⟨v114, v120⟩ w12 ⟨hS_, h0_, h1_, h2_, h3_, h4_⟩
              have n0_ : Aside0 (Kd.R (Kd.int .i64) 3 w12 w.heap.size (fun _ => True) v114 y113) := ⟨h0_⟩
              have n1_ : Aside0 (Kd.R k35 35 w12 w.heap.size (fun _ => True) v120 y119) := ⟨h1_⟩
              have n2_ : Aside0 (w12.heap[gb105]? = some (.cells #[.slice A0_0 l0_0.length c0_0, .slice A0_1 l0_1.length c0_1, .slice A0_2 l0_2.length c0_2] 31 (0, 0))) := ⟨h2_⟩
              have n3_ : Aside0 (w12.heap[gb106]? = some (.cells #[.slice none 0 0, .slice none 0 0, .slice none 0 0] 31 (0, 0))) := ⟨h3_⟩
              have n4_ : Aside0 (Below w.heap.size w w12) := ⟨h4_⟩
              clear BK105
              clear BK106
              clear HB
              clear h0_ h1_ h2_ h3_ h4_
              have HO115 := n0_
              have HO121 := n1_
              have BK105 := n2_
              have BK106 := n3_
              have HB := n4_
              clear n0_ n1_ n2_ n3_ n4_
              have hHeld : w12.cell? ⟨gb105, 0, none⟩ = some (.slice A0_0 l0_0.length c0_0) ∧ w12.cell? ⟨gb105, 1, none⟩ = some (.slice A0_1 l0_1.length c0_1) ∧ w12.cell? ⟨gb105, 2, none⟩ = some (.slice A0_2 l0_2.length c0_2) := hS_
              refine norm_ (a' := ?_) ?_ ?_
              rotate_left
              ·simp only [putAll, Act.put, List.setIfInBounds_toArray, List.set_cons_zero, List.set_cons_succ]
               rfl
              refine on 0 3 #[T_,T_,T_,F_,T_,T_,T_,F_,T_,T_,T_,F_,F_,F_] (fun K hK => ?_)
              refine Kd.R_lit_step (Kd.int .i64) _ 3 ?hg (N := 3) ?hd (xs := ([] : List Int)) (inner := []) (ok := fun _ => True) (okp := fun _ => True) ?hr ?hp (fun _ hk => hk) trivial (Below.refl _ _) (Nat.le_refl _) (by simp) ?_; (case hd => rfl); (case hg => rfl); (case hr => first | (go_simp; done) | (go_simp; rfl)); (case hp => exact (Reps.none _ _))
              intro v108 w13 ho14 hb hg_ hnew_
              clear hg_ hnew_
              (first | rw [← Ny107.out] at ho14 | (simp only [Int.reduceToNat] at ho14; rw [← Ny107.out] at ho14))
              replace HO121 := mk (Kd.R_below (up HO121.out) hb)
              have HO109 := mk (Kd.R_lower (Kd.R_new' ho14 (Kd.R_lt (up HO115.out))) (below_size bl))
              replace HO115 := mk (Kd.R_elder' (up HO115.out) (Kd.R_base ho14) hb)
              replace BK105 := wb BK105 hb
              replace BK106 := wb BK106 hb
              replace HB := wh hb
              clear hb ho14
              refine hK.out _ _ ⟨bc BK105 0, bc BK105 1, bc BK105 2⟩ (fun hHeld => ?_)
              clear hK K
              refine nm 3 ?_
              exact norm_ (by first | (simp only [putAll, Act.put, List.setIfInBounds_toArray, List.set_cons_zero, List.set_cons_succ]; done) | (simp only [putAll, Act.put, List.setIfInBounds_toArray, List.set_cons_zero, List.set_cons_succ]; rfl)) (hJ0_4_8 (v108, v114, v120) _ ⟨hHeld, (by exact up (Kd.R_mono HO109.out (fun _ hk => hk.2))), (by exact up (Kd.R_mono HO115.out (fun _ hk => hk.2))), (up HO121.out), (ub BK105.out), (ub BK106.out), bl⟩)
            ·skip
             rintro ⟨v108, v120⟩ w12 ⟨hS_, h0_, h1_, h2_, h3_, h4_⟩
             have n0_ : Aside0 (Kd.R (Kd.int .i64) 3 w12 w.heap.size (fun _ => True) v108 y107) := ⟨h0_⟩
             have n1_ : Aside0 (Kd.R k35 35 w12 w.heap.size (fun _ => True) v120 y119) := ⟨h1_⟩
             have n2_ : Aside0 (w12.heap[gb105]? = some (.cells #[.slice A0_0 l0_0.length c0_0, .slice A0_1 l0_1.length c0_1, .slice A0_2 l0_2.length c0_2] 31 (0, 0))) := ⟨h2_⟩
             have n3_ : Aside0 (w12.heap[gb106]? = some (.cells #[.slice none 0 0, .slice none 0 0, .slice none 0 0] 31 (0, 0))) := ⟨h3_⟩
             have n4_ : Aside0 (Below w.heap.size w w12) := ⟨h4_⟩
             clear BK105
             clear BK106
             clear HB
             clear h0_ h1_ h2_ h3_ h4_
             have HO109 := n0_
             have HO121 := n1_
             have BK105 := n2_
             have BK106 := n3_
             have HB := n4_
             clear n0_ n1_ n2_ n3_ n4_
             have hHeld : w12.cell? ⟨gb105, 0, none⟩ = some (.slice A0_0 l0_0.length c0_0) ∧ w12.cell? ⟨gb105, 1, none⟩ = some (.slice A0_1 l0_1.length c0_1) ∧ w12.cell? ⟨gb105, 2, none⟩ = some (.slice A0_2 l0_2.length c0_2) := hS_
             refine norm_ (a' := ?_) ?_ ?_
             rotate_left
             ·simp only [putAll, Act.put, List.setIfInBounds_toArray, List.set_cons_zero, List.set_cons_succ]
              rfl
             refine two_ (i := 3) (j := 4) (Ni := some 6) (Nj := some 7) #[T_, T_, T_, T_, F_, T_, T_, F_, T_, T_, T_, F_, F_, F_] #[T_, T_, T_, F_, T_, T_, T_, F_, T_, T_, T_, F_, F_, F_] rfl rfl rfl rfl (two_of HT_.out (by kernel_rfl)) (by decide) (by decide) (fun K hK => ?_) (fun K hK => ?_)
             ·skip
              refine Kd.R_append_rows_step (Kd.int .i64) (w0 := w) w.heap.size (by rfl) (.tmp 3) (.tmp 5) 22 3 (.int .i64 0) 8 rfl Try.underlying22 info3 rfl (by decide) (by omega) v108 y107 l0_0 _ _ _ (fun _ => True) (fun _ => False) rfl rfl ?aO ?aR (fun _ _ h => h) (fun _ h => h.elim) ?aF ?aB ?aS ?aL ?_
              (case aR => exact uc (Kd.C_below HR0_0.out HB.out))
              (case aB => exact bl)
              (case aF => exact (fun _ _ => trivial))
              (case aO => exact (up HO109.out))
              (case aS => exact (below_size bl))
              (case aL => have := LMc2.out; omega)
              intro v111 w13 ho hb hg hat
              rw [← Ny110.out] at ho
              replace BK105 := mk (blk_grown (g := gb105) (o := .cells #[.slice A0_0 l0_0.length c0_0, .slice A0_1 l0_1.length c0_1, .slice A0_2 l0_2.length c0_2] 31 (0, 0)) (ub BK105.out) hg (Kd.R_ne HO109.out BK105.out (by decide)))
              replace BK106 := mk (blk_grown (g := gb106) (o := .cells #[.slice none 0 0, .slice none 0 0, .slice none 0 0] 31 (0, 0)) (ub BK106.out) hg (Kd.R_ne HO109.out BK106.out (by decide)))
              replace HO121 := mk (Kd.R_over' (up HO121.out) (Kd.R_typed (up HO109.out)) (by decide) hg)
              replace HB := mk hb
              have HO112 := mk ho
              clear HO109
              clear ho hb hg hat
              refine hK.out _ _ ⟨bc BK105 0, bc BK105 1, bc BK105 2⟩ (fun hHeld => ?_)
              clear hK K
              refine nm 6 ?_
              exact norm_ (by first | (simp only [putAll, Act.put, List.setIfInBounds_toArray, List.set_cons_zero, List.set_cons_succ]; done) | (simp only [putAll, Act.put, List.setIfInBounds_toArray, List.set_cons_zero, List.set_cons_succ]; rfl)) (hJ0_3_8 (v108, v111, v120) _ ⟨hHeld, (up HO112.out), (up HO121.out), (ub BK105.out), (ub BK106.out), bl⟩)
             ·skip
              refine Kd.R_lit_step (Kd.int .i64) _ 3 ?hg (N := 7) ?hd (xs := ([] : List Int)) (inner := []) (ok := fun _ => True) (okp := fun _ => True) ?hr ?hp (fun _ hk => hk) trivial (Below.refl _ _) (Nat.le_refl _) (by simp) ?_; (case hd => rfl); (case hg => rfl); (case hr => first | (go_simp; done) | (go_simp; rfl)); (case hp => exact (Reps.none _ _))
              intro v114 w13 ho14 hb hg_ hnew_
              clear hg_ hnew_
              (first | rw [← Ny113.out] at ho14 | (simp only [Int.reduceToNat] at ho14; rw [← Ny113.out] at ho14))
              replace HO121 := mk (Kd.R_below (up HO121.out) hb)
              have HO115 := mk (Kd.R_lower (Kd.R_new' ho14 (Kd.R_lt (up HO109.out))) (below_size bl))
              replace HO109 := mk (Kd.R_elder' (up HO109.out) (Kd.R_base ho14) hb)
              replace BK105 := wb BK105 hb
              replace BK106 := wb BK106 hb
              replace HB := wh hb
              clear hb ho14
              refine hK.out _ _ ⟨bc BK105 0, bc BK105 1, bc BK105 2⟩ (fun hHeld => ?_)
              clear hK K
              refine nm 7 ?_
              exact norm_ (by first | (simp only [putAll, Act.put, List.setIfInBounds_toArray, List.set_cons_zero, List.set_cons_succ]; done) | (simp only [putAll, Act.put, List.setIfInBounds_toArray, List.set_cons_zero, List.set_cons_succ]; rfl)) (hJ0_4_8 (v108, v114, v120) _ ⟨hHeld, (by exact up (Kd.R_mono HO109.out (fun _ hk => hk.2))), (by exact up (Kd.R_mono HO115.out (fun _ hk => hk.2))), (up HO121.out), (ub BK105.out), (ub BK106.out), bl⟩)
           ·skip
            rintro ⟨v108, v114⟩ w12 ⟨hS_, h0_, h1_, h2_, h3_, h4_⟩
            have n0_ : Aside0 (Kd.R (Kd.int .i64) 3 w12 w.heap.size (fun k_ => some k_ ≠ (v114 : Value).ownBlock) v108 y107) := ⟨h0_⟩
            have n1_ : Aside0 (Kd.R (Kd.int .i64) 3 w12 w.heap.size (fun k_ => some k_ ≠ (v108 : Value).ownBlock) v114 y113) := ⟨h1_⟩
            have n2_ : Aside0 (w12.heap[gb105]? = some (.cells #[.slice A0_0 l0_0.length c0_0, .slice A0_1 l0_1.length c0_1, .slice A0_2 l0_2.length c0_2] 31 (0, 0))) := ⟨h2_⟩
            have n3_ : Aside0 (w12.heap[gb106]? = some (.cells #[.slice none 0 0, .slice none 0 0, .slice none 0 0] 31 (0, 0))) := ⟨h3_⟩
            have n4_ : Aside0 (Below w.heap.size w w12) := ⟨h4_⟩
            clear BK105
            clear BK106
            clear HB
            clear h0_ h1_ h2_ h3_ h4_
            have HO109 := n0_
            have HO115 := n1_
            have BK105 := n2_
            have BK106 := n3_
            have HB := n4_
            clear n0_ n1_ n2_ n3_ n4_
            have hHeld : w12.cell? ⟨gb105, 0, none⟩ = some (.slice A0_0 l0_0.length c0_0) ∧ w12.cell? ⟨gb105, 1, none⟩ = some (.slice A0_1 l0_1.length c0_1) ∧ w12.cell? ⟨gb105, 2, none⟩ = some (.slice A0_2 l0_2.length c0_2) := hS_
            refine norm_ (a' := ?_) ?_ ?_
            rotate_left
            ·simp only [putAll, Act.put, List.setIfInBounds_toArray, List.set_cons_zero, List.set_cons_succ]
             rfl
            refine two_ (i := 3) (j := 8) (Ni := some 6) (Nj := some 11) #[T_, T_, T_, T_, T_, T_, T_, F_, F_, T_, T_, F_, F_, F_] #[T_, T_, T_, F_, T_, T_, T_, F_, T_, T_, T_, F_, F_, F_] rfl rfl rfl rfl (two_of HT_.out (by kernel_rfl)) (by decide) (by decide) (fun K hK => ?_) (fun K hK => ?_)
            ·skip
             refine Kd.R_append_rows_step (Kd.int .i64) (w0 := w) w.heap.size (by rfl) (.tmp 3) (.tmp 5) 22 3 (.int .i64 0) 8 rfl Try.underlying22 info3 rfl (by decide) (by omega) v108 y107 l0_0 _ _ _ (fun k_ => some k_ ≠ (v114 : Value).ownBlock) (fun _ => False) rfl rfl ?aO ?aR (fun _ _ h => h) (fun _ h => h.elim) ?aF ?aB ?aS ?aL ?_
             (case aR => exact uc (Kd.C_below HR0_0.out HB.out))
             (case aB => exact bl)
             (case aF => exact (fun k_ hk => Kd.fresh' (Kd.R_lt (up HO115.out)) k_ hk))
             (case aO => exact (up HO109.out))
             (case aS => exact (below_size bl))
             (case aL => have := LMc2.out; omega)
             intro v111 w13 ho hb hg hat
             rw [← Ny110.out] at ho
             replace BK105 := mk (blk_grown (g := gb105) (o := .cells #[.slice A0_0 l0_0.length c0_0, .slice A0_1 l0_1.length c0_1, .slice A0_2 l0_2.length c0_2] 31 (0, 0)) (ub BK105.out) hg (Kd.R_ne HO109.out BK105.out (by decide)))
             replace BK106 := mk (blk_grown (g := gb106) (o := .cells #[.slice none 0 0, .slice none 0 0, .slice none 0 0] 31 (0, 0)) (ub BK106.out) hg (Kd.R_ne HO109.out BK106.out (by decide)))
             replace HO115 := mk (Kd.R_after (ok := (fun _ => True)) (by exact up (Kd.R_mono HO115.out (fun _ hk => ⟨trivial, hk⟩))) hg hat)
             replace HB := mk hb
             have HO112 := mk ho
             clear HO109
             clear ho hb hg hat
             refine hK.out _ _ ⟨bc BK105 0, bc BK105 1, bc BK105 2⟩ (fun hHeld => ?_)
             clear hK K
             refine nm 6 ?_
             exact norm_ (by first | (simp only [putAll, Act.put, List.setIfInBounds_toArray, List.set_cons_zero, List.set_cons_succ]; done) | (simp only [putAll, Act.put, List.setIfInBounds_toArray, List.set_cons_zero, List.set_cons_succ]; rfl)) (hJ0_3_4 (v108, v111, v114) _ ⟨hHeld, (up HO112.out), (by exact up (Kd.R_mono HO115.out (fun _ hk => hk.2))), (ub BK105.out), (ub BK106.out), bl⟩)
            ·skip
             refine Kd.R_lit_step k35 _ 35 ?hg (N := 11) ?hd (xs := ([] : List (S35))) (inner := []) (ok := fun _ => True) (okp := fun _ => True) ?hr ?hp (fun _ hk => hk) trivial (Below.refl _ _) (Nat.le_refl _) (by simp) ?_; (case hd => rfl); (case hg => rfl); (case hr => first | (go_simp; done) | (go_simp; rfl)); (case hp => exact (Reps.none _ _))
             intro v120 w13 ho14 hb hg_ hnew_
             clear hg_ hnew_
             (first | rw [← Ny119.out] at ho14 | (simp only [Int.reduceToNat] at ho14; rw [← Ny119.out] at ho14))
             replace HO109 := mk (Kd.R_below (up HO109.out) hb)
             replace HO115 := mk (Kd.R_below (up HO115.out) hb)
             have HO121 := mk (Kd.R_lower ho14 (below_size bl))
             replace BK105 := wb BK105 hb
             replace BK106 := wb BK106 hb
             replace HB := wh hb
             clear hb ho14
             refine hK.out _ _ ⟨bc BK105 0, bc BK105 1, bc BK105 2⟩ (fun hHeld => ?_)
             clear hK K
             refine nm 11 ?_
             exact norm_ (by first | (simp only [putAll, Act.put, List.setIfInBounds_toArray, List.set_cons_zero, List.set_cons_succ]; done) | (simp only [putAll, Act.put, List.setIfInBounds_toArray, List.set_cons_zero, List.set_cons_succ]; rfl)) (hJ0_4_8 (v108, v114, v120) _ ⟨hHeld, (up HO109.out), (up HO115.out), (up HO121.out), (ub BK105.out), (ub BK106.out), bl⟩)
          ·skip
           rintro ⟨v108, v111⟩ w11 ⟨hS_, h0_, h1_, h2_, h3_⟩
           have n0_ : Aside0 (Kd.R (Kd.int .i64) 3 w11 w.heap.size (fun _ => True) v111 y110) := ⟨h0_⟩
           have n1_ : Aside0 (w11.heap[gb105]? = some (.cells #[.slice A0_0 l0_0.length c0_0, .slice A0_1 l0_1.length c0_1, .slice A0_2 l0_2.length c0_2] 31 (0, 0))) := ⟨h1_⟩
           have n2_ : Aside0 (w11.heap[gb106]? = some (.cells #[.slice none 0 0, .slice none 0 0, .slice none 0 0] 31 (0, 0))) := ⟨h2_⟩
           have n3_ : Aside0 (Below w.heap.size w w11) := ⟨h3_⟩
           clear BK105
           clear BK106
           clear HB
           clear h0_ h1_ h2_ h3_
           have HO112 := n0_
           have BK105 := n1_
           have BK106 := n2_
           have HB := n3_
           clear n0_ n1_ n2_ n3_
           have hHeld : w11.cell? ⟨gb105, 0, none⟩ = some (.slice A0_0 l0_0.length c0_0) ∧ w11.cell? ⟨gb105, 1, none⟩ = some (.slice A0_1 l0_1.length c0_1) ∧ w11.cell? ⟨gb105, 2, none⟩ = some (.slice A0_2 l0_2.length c0_2) := hS_
           refine norm_ (a' := ?_) ?_ ?_
           rotate_left
           ·simp only [putAll, Act.put, List.setIfInBounds_toArray, List.set_cons_zero, List.set_cons_succ]
            rfl
           refine two_ (i := 4) (j := 8) (Ni := some 7) (Nj := some 11) #[T_, T_, T_, T_, T_, T_, T_, F_, F_, T_, T_, F_, F_, F_] #[T_, T_, T_, T_, F_, T_, T_, F_, T_, T_, T_, F_, F_, F_] rfl rfl rfl rfl (two_of HT_.out (by kernel_rfl)) (by decide) (by decide) (fun K hK => ?_) (fun K hK => ?_)
           ·skip
            refine Kd.R_lit_step (Kd.int .i64) _ 3 ?hg (N := 7) ?hd (xs := ([] : List Int)) (inner := []) (ok := fun _ => True) (okp := fun _ => True) ?hr ?hp (fun _ hk => hk) trivial (Below.refl _ _) (Nat.le_refl _) (by simp) ?_; (case hd => rfl); (case hg => rfl); (case hr => first | (go_simp; done) | (go_simp; rfl)); (case hp => exact (Reps.none _ _))
            intro v114 w12 ho13 hb hg_ hnew_
            clear hg_ hnew_
            (first | rw [← Ny113.out] at ho13 | (simp only [Int.reduceToNat] at ho13; rw [← Ny113.out] at ho13))
            have HO115 := mk (Kd.R_lower (Kd.R_new' ho13 (Kd.R_lt (up HO112.out))) (below_size bl))
            replace HO112 := mk (Kd.R_elder' (up HO112.out) (Kd.R_base ho13) hb)
            replace BK105 := wb BK105 hb
            replace BK106 := wb BK106 hb
            replace HB := wh hb
            clear hb ho13
            refine hK.out _ _ ⟨bc BK105 0, bc BK105 1, bc BK105 2⟩ (fun hHeld => ?_)
            clear hK K
            refine nm 7 ?_
            exact norm_ (by first | (simp only [putAll, Act.put, List.setIfInBounds_toArray, List.set_cons_zero, List.set_cons_succ]; done) | (simp only [putAll, Act.put, List.setIfInBounds_toArray, List.set_cons_zero, List.set_cons_succ]; rfl)) (hJ0_3_4 (v108, v111, v114) _ ⟨hHeld, (by exact up (Kd.R_mono HO112.out (fun _ hk => hk.2))), (by exact up (Kd.R_mono HO115.out (fun _ hk => hk.2))), (ub BK105.out), (ub BK106.out), bl⟩)
           ·skip
            refine Kd.R_lit_step k35 _ 35 ?hg (N := 11) ?hd (xs := ([] : List (S35))) (inner := []) (ok := fun _ => True) (okp := fun _ => True) ?hr ?hp (fun _ hk => hk) trivial (Below.refl _ _) (Nat.le_refl _) (by simp) ?_; (case hd => rfl); (case hg => rfl); (case hr => first | (go_simp; done) | (go_simp; rfl)); (case hp => exact (Reps.none _ _))
            intro v120 w12 ho13 hb hg_ hnew_
            clear hg_ hnew_
            (first | rw [← Ny119.out] at ho13 | (simp only [Int.reduceToNat] at ho13; rw [← Ny119.out] at ho13))
            replace HO112 := mk (Kd.R_below (up HO112.out) hb)
            have HO121 := mk (Kd.R_lower ho13 (below_size bl))
            replace BK105 := wb BK105 hb
            replace BK106 := wb BK106 hb
            replace HB := wh hb
            clear hb ho13
            refine hK.out _ _ ⟨bc BK105 0, bc BK105 1, bc BK105 2⟩ (fun hHeld => ?_)
            clear hK K
            refine nm 11 ?_
            exact norm_ (by first | (simp only [putAll, Act.put, List.setIfInBounds_toArray, List.set_cons_zero, List.set_cons_succ]; done) | (simp only [putAll, Act.put, List.setIfInBounds_toArray, List.set_cons_zero, List.set_cons_succ]; rfl)) (hJ0_3_8 (v108, v111, v120) _ ⟨hHeld, (up HO112.out), (up HO121.out), (ub BK105.out), (ub BK106.out), bl⟩)
         ·skip
          rintro ⟨v108, v114, v120⟩ w14 ⟨hS_, h0_, h1_, h2_, h3_, h4_, h5_⟩
          have n0_ : Aside0 (Kd.R (Kd.int .i64) 3 w14 w.heap.size (fun k_ => some k_ ≠ (v114 : Value).ownBlock) v108 y107) := ⟨h0_⟩
          have n1_ : Aside0 (Kd.R (Kd.int .i64) 3 w14 w.heap.size (fun k_ => some k_ ≠ (v108 : Value).ownBlock) v114 y113) := ⟨h1_⟩
          have n2_ : Aside0 (Kd.R k35 35 w14 w.heap.size (fun _ => True) v120 y119) := ⟨h2_⟩
          have n3_ : Aside0 (w14.heap[gb105]? = some (.cells #[.slice A0_0 l0_0.length c0_0, .slice A0_1 l0_1.length c0_1, .slice A0_2 l0_2.length c0_2] 31 (0, 0))) := ⟨h3_⟩
          have n4_ : Aside0 (w14.heap[gb106]? = some (.cells #[.slice none 0 0, .slice none 0 0, .slice none 0 0] 31 (0, 0))) := ⟨h4_⟩
          have n5_ : Aside0 (Below w.heap.size w w14) := ⟨h5_⟩
          clear BK105
          clear BK106
          clear HB
          clear h0_ h1_ h2_ h3_ h4_ h5_
          have HO109 := n0_
          have HO115 := n1_
          have HO121 := n2_
          have BK105 := n3_
          have BK106 := n4_
          have HB := n5_
          clear n0_ n1_ n2_ n3_ n4_ n5_
          have hHeld : w14.cell? ⟨gb105, 0, none⟩ = some (.slice A0_0 l0_0.length c0_0) ∧ w14.cell? ⟨gb105, 1, none⟩ = some (.slice A0_1 l0_1.length c0_1) ∧ w14.cell? ⟨gb105, 2, none⟩ = some (.slice A0_2 l0_2.length c0_2) := hS_
          refine norm_ (a' := ?_) ?_ ?_
          rotate_left
          ·simp only [putAll, Act.put, List.setIfInBounds_toArray, List.set_cons_zero, List.set_cons_succ]
           rfl
          refine on 3 6 #[T_,T_,T_,T_,T_,T_,T_,F_,T_,T_,T_,F_,F_,F_] (fun K hK => ?_)
          refine Kd.R_append_rows_step (Kd.int .i64) (w0 := w) w.heap.size (by rfl) (.tmp 3) (.tmp 5) 22 3 (.int .i64 0) 8 rfl Try.underlying22 info3 rfl (by decide) (by omega) v108 y107 l0_0 _ _ _ (fun k_ => some k_ ≠ (v114 : Value).ownBlock) (fun _ => False) rfl rfl ?aO ?aR (fun _ _ h => h) (fun _ h => h.elim) ?aF ?aB ?aS ?aL ?_
          (case aR => exact uc (Kd.C_below HR0_0.out HB.out))
          (case aB => exact bl)
          (case aF => exact (fun k_ hk => Kd.fresh' (Kd.R_lt (up HO115.out)) k_ hk))
          (case aO => exact (up HO109.out))
          (case aS => exact (below_size bl))
          (case aL => have := LMc2.out; omega)
          intro v111 w15 ho hb hg hat
          rw [← Ny110.out] at ho
          replace BK105 := mk (blk_grown (g := gb105) (o := .cells #[.slice A0_0 l0_0.length c0_0, .slice A0_1 l0_1.length c0_1, .slice A0_2 l0_2.length c0_2] 31 (0, 0)) (ub BK105.out) hg (Kd.R_ne HO109.out BK105.out (by decide)))
          replace BK106 := mk (blk_grown (g := gb106) (o := .cells #[.slice none 0 0, .slice none 0 0, .slice none 0 0] 31 (0, 0)) (ub BK106.out) hg (Kd.R_ne HO109.out BK106.out (by decide)))
          replace HO115 := mk (Kd.R_after (ok := (fun _ => True)) (by exact up (Kd.R_mono HO115.out (fun _ hk => ⟨trivial, hk⟩))) hg hat)
          replace HO121 := mk (Kd.R_over' (up HO121.out) (Kd.R_typed (up HO109.out)) (by decide) hg)
          replace HB := mk hb
          have HO112 := mk ho
          clear HO109
          clear ho hb hg hat
          refine hK.out _ _ ⟨bc BK105 0, bc BK105 1, bc BK105 2⟩ (fun hHeld => ?_)
          clear hK K
          refine nm 6 ?_
          exact norm_ (by first | (simp only [putAll, Act.put, List.setIfInBounds_toArray, List.set_cons_zero, List.set_cons_succ]; done) | (simp only [putAll, Act.put, List.setIfInBounds_toArray, List.set_cons_zero, List.set_cons_succ]; rfl)) (hJ0_3_4_8 (v108, v111, v114, v120) _ ⟨hHeld, (up HO112.out), (by exact up (Kd.R_mono HO115.out (fun _ hk => hk.2))), (up HO121.out), (ub BK105.out), (ub BK106.out), bl⟩)
        ·skip
         rintro ⟨v108, v111, v120⟩ w13 ⟨hS_, h0_, h1_, h2_, h3_, h4_⟩
         have n0_ : Aside0 (Kd.R (Kd.int .i64) 3 w13 w.heap.size (fun _ => True) v111 y110) := ⟨h0_⟩
         have n1_ : Aside0 (Kd.R k35 35 w13 w.heap.size (fun _ => True) v120 y119) := ⟨h1_⟩
         have n2_ : Aside0 (w13.heap[gb105]? = some (.cells #[.slice A0_0 l0_0.length c0_0, .slice A0_1 l0_1.length c0_1, .slice A0_2 l0_2.length c0_2] 31 (0, 0))) := ⟨h2_⟩
         have n3_ : Aside0 (w13.heap[gb106]? = some (.cells #[.slice none 0 0, .slice none 0 0, .slice none 0 0] 31 (0, 0))) := ⟨h3_⟩
         have n4_ : Aside0 (Below w.heap.size w w13) := ⟨h4_⟩
         clear BK105
         clear BK106
         clear HB
         clear h0_ h1_ h2_ h3_ h4_
         have HO112 := n0_
         have HO121 := n1_
         have BK105 := n2_
         have BK106 := n3_
         have HB := n4_
         clear n0_ n1_ n2_ n3_ n4_
         have hHeld : w13.cell? ⟨gb105, 0, none⟩ = some (.slice A0_0 l0_0.length c0_0) ∧ w13.cell? ⟨gb105, 1, none⟩ = some (.slice A0_1 l0_1.length c0_1) ∧ w13.cell? ⟨gb105, 2, none⟩ = some (.slice A0_2 l0_2.length c0_2) := hS_
         refine norm_ (a' := ?_) ?_ ?_
         rotate_left
         ·simp only [putAll, Act.put, List.setIfInBounds_toArray, List.set_cons_zero, List.set_cons_succ]
          rfl
         refine on 4 7 #[T_,T_,T_,T_,T_,T_,T_,F_,T_,T_,T_,F_,F_,F_] (fun K hK => ?_)
         refine Kd.R_lit_step (Kd.int .i64) _ 3 ?hg (N := 7) ?hd (xs := ([] : List Int)) (inner := []) (ok := fun _ => True) (okp := fun _ => True) ?hr ?hp (fun _ hk => hk) trivial (Below.refl _ _) (Nat.le_refl _) (by simp) ?_; (case hd => rfl); (case hg => rfl); (case hr => first | (go_simp; done) | (go_simp; rfl)); (case hp => exact (Reps.none _ _))
         intro v114 w14 ho15 hb hg_ hnew_
         clear hg_ hnew_
         (first | rw [← Ny113.out] at ho15 | (simp only [Int.reduceToNat] at ho15; rw [← Ny113.out] at ho15))
         replace HO121 := mk (Kd.R_below (up HO121.out) hb)
         have HO115 := mk (Kd.R_lower (Kd.R_new' ho15 (Kd.R_lt (up HO112.out))) (below_size bl))
         replace HO112 := mk (Kd.R_elder' (up HO112.out) (Kd.R_base ho15) hb)
         replace BK105 := wb BK105 hb
         replace BK106 := wb BK106 hb
         replace HB := wh hb
         clear hb ho15
         refine hK.out _ _ ⟨bc BK105 0, bc BK105 1, bc BK105 2⟩ (fun hHeld => ?_)
         clear hK K
         refine nm 7 ?_
         exact norm_ (by first | (simp only [putAll, Act.put, List.setIfInBounds_toArray, List.set_cons_zero, List.set_cons_succ]; done) | (simp only [putAll, Act.put, List.setIfInBounds_toArray, List.set_cons_zero, List.set_cons_succ]; rfl)) (hJ0_3_4_8 (v108, v111, v114, v120) _ ⟨hHeld, (by exact up (Kd.R_mono HO112.out (fun _ hk => hk.2))), (by exact up (Kd.R_mono HO115.out (fun _ hk => hk.2))), (up HO121.out), (ub BK105.out), (ub BK106.out), bl⟩)
       ·skip
        rintro ⟨v108, v111, v114⟩ w13 ⟨hS_, h0_, h1_, h2_, h3_, h4_⟩
        have n0_ : Aside0 (Kd.R (Kd.int .i64) 3 w13 w.heap.size (fun k_ => some k_ ≠ (v114 : Value).ownBlock) v111 y110) := ⟨h0_⟩
        have n1_ : Aside0 (Kd.R (Kd.int .i64) 3 w13 w.heap.size (fun k_ => some k_ ≠ (v111 : Value).ownBlock) v114 y113) := ⟨h1_⟩
        have n2_ : Aside0 (w13.heap[gb105]? = some (.cells #[.slice A0_0 l0_0.length c0_0, .slice A0_1 l0_1.length c0_1, .slice A0_2 l0_2.length c0_2] 31 (0, 0))) := ⟨h2_⟩
        have n3_ : Aside0 (w13.heap[gb106]? = some (.cells #[.slice none 0 0, .slice none 0 0, .slice none 0 0] 31 (0, 0))) := ⟨h3_⟩
        have n4_ : Aside0 (Below w.heap.size w w13) := ⟨h4_⟩
        clear BK105
        clear BK106
        clear HB
        clear h0_ h1_ h2_ h3_ h4_
        have HO112 := n0_
        have HO115 := n1_
        have BK105 := n2_
        have BK106 := n3_
        have HB := n4_
        clear n0_ n1_ n2_ n3_ n4_
        have hHeld : w13.cell? ⟨gb105, 0, none⟩ = some (.slice A0_0 l0_0.length c0_0) ∧ w13.cell? ⟨gb105, 1, none⟩ = some (.slice A0_1 l0_1.length c0_1) ∧ w13.cell? ⟨gb105, 2, none⟩ = some (.slice A0_2 l0_2.length c0_2) := hS_
        refine norm_ (a' := ?_) ?_ ?_
        rotate_left
        ·simp only [putAll, Act.put, List.setIfInBounds_toArray, List.set_cons_zero, List.set_cons_succ]
         rfl
        refine two_ (i := 7) (j := 8) (Ni := some 10) (Nj := some 11) #[T_, T_, T_, T_, T_, T_, T_, T_, F_, T_, T_, F_, F_, F_] #[T_, T_, T_, T_, T_, T_, T_, F_, T_, T_, T_, F_, F_, F_] rfl rfl rfl rfl (two_of HT_.out (by kernel_rfl)) (by decide) (by decide) (fun K hK => ?_) (fun K hK => ?_)
        ·skip
         refine Kd.R_append_rows_step (Kd.int .i64) (w0 := w) w.heap.size (by rfl) (.tmp 7) (.tmp 9) 22 3 (.int .i64 0) 8 rfl Try.underlying22 info3 rfl (by decide) (by omega) v114 y113 l0_1 _ _ _ (fun k_ => some k_ ≠ (v111 : Value).ownBlock) (fun _ => False) rfl rfl ?aO ?aR (fun _ _ h => h) (fun _ h => h.elim) ?aF ?aB ?aS ?aL ?_
         (case aR => exact uc (Kd.C_below HR0_1.out HB.out))
         (case aB => exact bl)
         (case aF => exact (fun k_ hk => Kd.fresh' (Kd.R_lt (up HO112.out)) k_ hk))
         (case aO => exact (up HO115.out))
         (case aS => exact (below_size bl))
         (case aL => have := LMc3.out; omega)
         intro v117 w14 ho hb hg hat
         rw [← Ny116.out] at ho
         replace BK105 := mk (blk_grown (g := gb105) (o := .cells #[.slice A0_0 l0_0.length c0_0, .slice A0_1 l0_1.length c0_1, .slice A0_2 l0_2.length c0_2] 31 (0, 0)) (ub BK105.out) hg (Kd.R_ne HO115.out BK105.out (by decide)))
         replace BK106 := mk (blk_grown (g := gb106) (o := .cells #[.slice none 0 0, .slice none 0 0, .slice none 0 0] 31 (0, 0)) (ub BK106.out) hg (Kd.R_ne HO115.out BK106.out (by decide)))
         replace HO112 := mk (Kd.R_after (ok := (fun _ => True)) (by exact up (Kd.R_mono HO112.out (fun _ hk => ⟨trivial, hk⟩))) hg hat)
         replace HB := mk hb
         have HO118 := mk ho
         clear HO115
         clear ho hb hg hat
         refine hK.out _ _ ⟨bc BK105 0, bc BK105 1, bc BK105 2⟩ (fun hHeld => ?_)
         clear hK K
         refine nm 10 ?_
         exact norm_ (by first | (simp only [putAll, Act.put, List.setIfInBounds_toArray, List.set_cons_zero, List.set_cons_succ]; done) | (simp only [putAll, Act.put, List.setIfInBounds_toArray, List.set_cons_zero, List.set_cons_succ]; rfl)) (hJ0_3_4_7 (v108, v111, v114, v117) _ ⟨hHeld, (by exact up (Kd.R_mono HO112.out (fun _ hk => hk.2))), (up HO118.out), (ub BK105.out), (ub BK106.out), bl⟩)
        ·skip
         refine Kd.R_lit_step k35 _ 35 ?hg (N := 11) ?hd (xs := ([] : List (S35))) (inner := []) (ok := fun _ => True) (okp := fun _ => True) ?hr ?hp (fun _ hk => hk) trivial (Below.refl _ _) (Nat.le_refl _) (by simp) ?_; (case hd => rfl); (case hg => rfl); (case hr => first | (go_simp; done) | (go_simp; rfl)); (case hp => exact (Reps.none _ _))
         intro v120 w14 ho15 hb hg_ hnew_
         clear hg_ hnew_
         (first | rw [← Ny119.out] at ho15 | (simp only [Int.reduceToNat] at ho15; rw [← Ny119.out] at ho15))
         replace HO112 := mk (Kd.R_below (up HO112.out) hb)
         replace HO115 := mk (Kd.R_below (up HO115.out) hb)
         have HO121 := mk (Kd.R_lower ho15 (below_size bl))
         replace BK105 := wb BK105 hb
         replace BK106 := wb BK106 hb
         replace HB := wh hb
         clear hb ho15
         refine hK.out _ _ ⟨bc BK105 0, bc BK105 1, bc BK105 2⟩ (fun hHeld => ?_)
         clear hK K
         refine nm 11 ?_
         exact norm_ (by first | (simp only [putAll, Act.put, List.setIfInBounds_toArray, List.set_cons_zero, List.set_cons_succ]; done) | (simp only [putAll, Act.put, List.setIfInBounds_toArray, List.set_cons_zero, List.set_cons_succ]; rfl)) (hJ0_3_4_8 (v108, v111, v114, v120) _ ⟨hHeld, (up HO112.out), (up HO115.out), (up HO121.out), (ub BK105.out), (ub BK106.out), bl⟩)
      ·skip
       rintro ⟨v108, v111, v114, v120⟩ w15 ⟨hS_, h0_, h1_, h2_, h3_, h4_, h5_⟩
       have n0_ : Aside0 (Kd.R (Kd.int .i64) 3 w15 w.heap.size (fun k_ => some k_ ≠ (v114 : Value).ownBlock) v111 y110) := ⟨h0_⟩
       have n1_ : Aside0 (Kd.R (Kd.int .i64) 3 w15 w.heap.size (fun k_ => some k_ ≠ (v111 : Value).ownBlock) v114 y113) := ⟨h1_⟩
       have n2_ : Aside0 (Kd.R k35 35 w15 w.heap.size (fun _ => True) v120 y119) := ⟨h2_⟩
       have n3_ : Aside0 (w15.heap[gb105]? = some (.cells #[.slice A0_0 l0_0.length c0_0, .slice A0_1 l0_1.length c0_1, .slice A0_2 l0_2.length c0_2] 31 (0, 0))) := ⟨h3_⟩
       have n4_ : Aside0 (w15.heap[gb106]? = some (.cells #[.slice none 0 0, .slice none 0 0, .slice none 0 0] 31 (0, 0))) := ⟨h4_⟩
       have n5_ : Aside0 (Below w.heap.size w w15) := ⟨h5_⟩
       clear BK105
       clear BK106
       clear HB
       clear h0_ h1_ h2_ h3_ h4_ h5_
       have HO112 := n0_
       have HO115 := n1_
       have HO121 := n2_
       have BK105 := n3_
       have BK106 := n4_
       have HB := n5_
       clear n0_ n1_ n2_ n3_ n4_ n5_
       have hHeld : w15.cell? ⟨gb105, 0, none⟩ = some (.slice A0_0 l0_0.length c0_0) ∧ w15.cell? ⟨gb105, 1, none⟩ = some (.slice A0_1 l0_1.length c0_1) ∧ w15.cell? ⟨gb105, 2, none⟩ = some (.slice A0_2 l0_2.length c0_2) := hS_
       refine norm_ (a' := ?_) ?_ ?_
       rotate_left
       ·simp only [putAll, Act.put, List.setIfInBounds_toArray, List.set_cons_zero, List.set_cons_succ]
        rfl
       refine on 7 10 (tf 11 3) (fun K hK => ?_)
       refine Kd.R_append_rows_step (Kd.int .i64) (w0 := w) w.heap.size (by rfl) (.tmp 7) (.tmp 9) 22 3 (.int .i64 0) 8 rfl Try.underlying22 info3 rfl (by decide) (by omega) v114 y113 l0_1 _ _ _ (fun k_ => some k_ ≠ (v111 : Value).ownBlock) (fun _ => False) rfl rfl ?aO ?aR (fun _ _ h => h) (fun _ h => h.elim) ?aF ?aB ?aS ?aL ?_
       (case aR => exact uc (Kd.C_below HR0_1.out HB.out))
       (case aB => exact bl)
       (case aF => exact (fun k_ hk => Kd.fresh' (Kd.R_lt (up HO112.out)) k_ hk))
       (case aO => exact (up HO115.out))
       (case aS => exact (below_size bl))
       (case aL => have := LMc3.out; omega)
       intro v117 w16 ho hb hg hat
       rw [← Ny116.out] at ho
       replace BK105 := mk (blk_grown (g := gb105) (o := .cells #[.slice A0_0 l0_0.length c0_0, .slice A0_1 l0_1.length c0_1, .slice A0_2 l0_2.length c0_2] 31 (0, 0)) (ub BK105.out) hg (Kd.R_ne HO115.out BK105.out (by decide)))
       replace BK106 := mk (blk_grown (g := gb106) (o := .cells #[.slice none 0 0, .slice none 0 0, .slice none 0 0] 31 (0, 0)) (ub BK106.out) hg (Kd.R_ne HO115.out BK106.out (by decide)))
       replace HO112 := mk (Kd.R_after (ok := (fun _ => True)) (by exact up (Kd.R_mono HO112.out (fun _ hk => ⟨trivial, hk⟩))) hg hat)
       replace HO121 := mk (Kd.R_over' (up HO121.out) (Kd.R_typed (up HO115.out)) (by decide) hg)
       replace HB := mk hb
       have HO118 := mk ho
       clear HO115
       clear ho hb hg hat
       refine hK.out _ _ ⟨bc BK105 0, bc BK105 1, bc BK105 2⟩ (fun hHeld => ?_)
       clear hK K
       refine nm 10 ?_
       exact norm_ (by first | (simp only [putAll, Act.put, List.setIfInBounds_toArray, List.set_cons_zero, List.set_cons_succ]; done) | (simp only [putAll, Act.put, List.setIfInBounds_toArray, List.set_cons_zero, List.set_cons_succ]; rfl)) (hJ0_3_4_7_8 (v108, v111, v114, v117, v120) _ ⟨hHeld, (by exact up (Kd.R_mono HO112.out (fun _ hk => hk.2))), (up HO118.out), (up HO121.out), (ub BK105.out), (ub BK106.out), bl⟩)
     ·skip
      rintro ⟨v108, v111, v114, v117⟩ w14 ⟨hS_, h0_, h1_, h2_, h3_, h4_⟩
      have n0_ : Aside0 (Kd.R (Kd.int .i64) 3 w14 w.heap.size (fun k_ => some k_ ≠ (v117 : Value).ownBlock) v111 y110) := ⟨h0_⟩
      have n1_ : Aside0 (Kd.R (Kd.int .i64) 3 w14 w.heap.size (fun k_ => some k_ ≠ (v111 : Value).ownBlock) v117 y116) := ⟨h1_⟩
      have n2_ : Aside0 (w14.heap[gb105]? = some (.cells #[.slice A0_0 l0_0.length c0_0, .slice A0_1 l0_1.length c0_1, .slice A0_2 l0_2.length c0_2] 31 (0, 0))) := ⟨h2_⟩
      have n3_ : Aside0 (w14.heap[gb106]? = some (.cells #[.slice none 0 0, .slice none 0 0, .slice none 0 0] 31 (0, 0))) := ⟨h3_⟩
      have n4_ : Aside0 (Below w.heap.size w w14) := ⟨h4_⟩
      clear BK105
      clear BK106
      clear HB
      clear h0_ h1_ h2_ h3_ h4_
      have HO112 := n0_
      have HO118 := n1_
      have BK105 := n2_
      have BK106 := n3_
      have HB := n4_
      clear n0_ n1_ n2_ n3_ n4_
      have hHeld : w14.cell? ⟨gb105, 0, none⟩ = some (.slice A0_0 l0_0.length c0_0) ∧ w14.cell? ⟨gb105, 1, none⟩ = some (.slice A0_1 l0_1.length c0_1) ∧ w14.cell? ⟨gb105, 2, none⟩ = some (.slice A0_2 l0_2.length c0_2) := hS_
      refine norm_ (a' := ?_) ?_ ?_
      rotate_left
      ·simp only [putAll, Act.put, List.setIfInBounds_toArray, List.set_cons_zero, List.set_cons_succ]
       rfl
      refine on 8 11 (tf 11 3) (fun K hK => ?_)
      refine Kd.R_lit_step k35 _ 35 ?hg (N := 11) ?hd (xs := ([] : List (S35))) (inner := []) (ok := fun _ => True) (okp := fun _ => True) ?hr ?hp (fun _ hk => hk) trivial (Below.refl _ _) (Nat.le_refl _) (by simp) ?_; (case hd => rfl); (case hg => rfl); (case hr => first | (go_simp; done) | (go_simp; rfl)); (case hp => exact (Reps.none _ _))
      intro v120 w15 ho16 hb hg_ hnew_
      clear hg_ hnew_
      (first | rw [← Ny119.out] at ho16 | (simp only [Int.reduceToNat] at ho16; rw [← Ny119.out] at ho16))
      replace HO112 := mk (Kd.R_below (up HO112.out) hb)
      replace HO118 := mk (Kd.R_below (up HO118.out) hb)
      have HO121 := mk (Kd.R_lower ho16 (below_size bl))
      replace BK105 := wb BK105 hb
      replace BK106 := wb BK106 hb
      replace HB := wh hb
      clear hb ho16
      refine hK.out _ _ ⟨bc BK105 0, bc BK105 1, bc BK105 2⟩ (fun hHeld => ?_)
      clear hK K
      refine nm 11 ?_
      exact norm_ (by first | (simp only [putAll, Act.put, List.setIfInBounds_toArray, List.set_cons_zero, List.set_cons_succ]; done) | (simp only [putAll, Act.put, List.setIfInBounds_toArray, List.set_cons_zero, List.set_cons_succ]; rfl)) (hJ0_3_4_7_8 (v108, v111, v114, v117, v120) _ ⟨hHeld, (up HO112.out), (up HO118.out), (up HO121.out), (ub BK105.out), (ub BK106.out), bl⟩)
    rintro ⟨v108, v111, v114, v117, v120⟩ w16 ⟨hS_, h0_, h1_, h2_, h3_, h4_, h5_⟩
    have n0_ : Aside0 (Kd.R (Kd.int .i64) 3 w16 w.heap.size (fun k_ => some k_ ≠ (v117 : Value).ownBlock) v111 y110) := ⟨h0_⟩
    have n1_ : Aside0 (Kd.R (Kd.int .i64) 3 w16 w.heap.size (fun k_ => some k_ ≠ (v111 : Value).ownBlock) v117 y116) := ⟨h1_⟩
    have n2_ : Aside0 (Kd.R k35 35 w16 w.heap.size (fun _ => True) v120 y119) := ⟨h2_⟩
    have n3_ : Aside0 (w16.heap[gb105]? = some (.cells #[.slice A0_0 l0_0.length c0_0, .slice A0_1 l0_1.length c0_1, .slice A0_2 l0_2.length c0_2] 31 (0, 0))) := ⟨h3_⟩
    have n4_ : Aside0 (w16.heap[gb106]? = some (.cells #[.slice none 0 0, .slice none 0 0, .slice none 0 0] 31 (0, 0))) := ⟨h4_⟩
    have n5_ : Aside0 (Below w.heap.size w w16) := ⟨h5_⟩
    clear BK105
    clear BK106
    clear HB
    clear h0_ h1_ h2_ h3_ h4_ h5_
    have HO112 := n0_
    have HO118 := n1_
    have HO121 := n2_
    have BK105 := n3_
    have BK106 := n4_
    have HB := n5_
    clear n0_ n1_ n2_ n3_ n4_ n5_
    have hHeld : w16.cell? ⟨gb105, 0, none⟩ = some (.slice A0_0 l0_0.length c0_0) ∧ w16.cell? ⟨gb105, 1, none⟩ = some (.slice A0_1 l0_1.length c0_1) ∧ w16.cell? ⟨gb105, 2, none⟩ = some (.slice A0_2 l0_2.length c0_2) := hS_
    refine norm_ (a' := ?_) ?_ ?_
    rotate_left
    ·simp only [putAll, Act.put, List.setIfInBounds_toArray, List.set_cons_zero, List.set_cons_succ]
     rfl
    refine on 11 14 (tf 12 2) (fun K hK => ?_)
    refine Kd.R_append_rows_step k35 (w0 := w) w.heap.size (by rfl) (.tmp 11) (.tmp 13) 29 35 (.agg #[(.int .i64 0), (.int .i64 0)]) 16 rfl Try.underlying29 info35 rfl (by decide) (by omega) v120 y119 l0_2 _ _ _ (fun _ => True) (fun _ => False) rfl rfl ?aO ?aR (fun _ _ h => h) (fun _ h => h.elim) ?aF ?aB ?aS ?aL ?_
    (case aR => exact uc (Kd.C_below HR0_2.out HB.out))
    (case aB => exact bl)
    (case aF => exact (fun _ _ => trivial))
    (case aO => exact (up HO121.out))
    (case aS => exact (below_size bl))
    (case aL => have := LMc4.out; omega)
    intro v123 w17 ho hb hg hat
    rw [← Ny122.out] at ho
    replace BK105 := mk (blk_grown (g := gb105) (o := .cells #[.slice A0_0 l0_0.length c0_0, .slice A0_1 l0_1.length c0_1, .slice A0_2 l0_2.length c0_2] 31 (0, 0)) (ub BK105.out) hg (Kd.R_ne HO121.out BK105.out (by decide)))
    replace BK106 := mk (blk_grown (g := gb106) (o := .cells #[.slice none 0 0, .slice none 0 0, .slice none 0 0] 31 (0, 0)) (ub BK106.out) hg (Kd.R_ne HO121.out BK106.out (by decide)))
    replace HO112 := mk (Kd.R_over' (up HO112.out) (Kd.R_typed (up HO121.out)) (by decide) hg)
    replace HO118 := mk (Kd.R_over' (up HO118.out) (Kd.R_typed (up HO121.out)) (by decide) hg)
    replace HB := mk hb
    have HO124 := mk ho
    clear HO121
    clear ho hb hg hat
    obtain ⟨Ao18, co18, eo18⟩ := Kd.R_slice HO124.out
    (first | subst eo18 | (injection eo18 with f1_ f2_ f3_; have f4_ := f1_.symm; have f5_ := f3_.symm; clear f1_ f2_ f3_; subst f4_; subst f5_))
    obtain ⟨Ao19, co19, eo19⟩ := Kd.R_slice HO118.out
    (first | subst eo19 | (injection eo19 with f1_ f2_ f3_; have f4_ := f1_.symm; have f5_ := f3_.symm; clear f1_ f2_ f3_; subst f4_; subst f5_))
    obtain ⟨Ao20, co20, eo20⟩ := Kd.R_slice HO112.out
    (first | subst eo20 | (injection eo20 with f1_ f2_ f3_; have f4_ := f1_.symm; have f5_ := f3_.symm; clear f1_ f2_ f3_; subst f4_; subst f5_))
    refine hK.out _ _ ⟨bc BK105 0, bc BK105 1, bc BK105 2⟩ (fun hHeld => ?_)
    clear hK K
    refine nm 14 ?_
    refine pu 12 15 (tf 13 1) ?_
    refine one_ (i := 13) (N := none) #[T_, T_, T_, T_, T_, T_, T_, T_, T_, T_, T_, T_, T_, T_] rfl rfl (one_of HT_.out (by kernel_rfl)) (by decide) (fun K hK => ?_)
    have hs21 : w17.cell? ⟨gb106, 0, none⟩ = some (.slice none 0 0) := (blk_cell BK106.out 0).trans rfl
    have hfs21 := blk_frozen BK106.out 0
    have hns21_0 := NB105_106.out
    have hms21_0 := NB106_105.out
    have hs22 : w17.cell? ⟨gb106, 1, none⟩ = some (.slice none 0 0) := (blk_cell BK106.out 1).trans rfl
    have hfs22 := blk_frozen BK106.out 1
    have hns22_0 := NB105_106.out
    have hms22_0 := NB106_105.out
    have hs23 : w17.cell? ⟨gb106, 2, none⟩ = some (.slice none 0 0) := (blk_cell BK106.out 2).trans rfl
    have hfs23 := blk_frozen BK106.out 2
    have hns23_0 := NB105_106.out
    have hms23_0 := NB106_105.out
    refine skip_ (w1 := ?_) (by rfl) rfl ?_ ?_
    rotate_left
    ·go_simp
     rfl
    refine hK.out _ _ ⟨((cell_far (p := ⟨gb106, _, none⟩) NB105_106.out _).trans (((cell_far (p := ⟨gb106, _, none⟩) NB105_106.out _).trans (((cell_far (p := ⟨gb106, _, none⟩) NB105_106.out _).trans (hHeld.1)))))), ((cell_far (p := ⟨gb106, _, none⟩) NB105_106.out _).trans (((cell_far (p := ⟨gb106, _, none⟩) NB105_106.out _).trans (((cell_far (p := ⟨gb106, _, none⟩) NB105_106.out _).trans (hHeld.2.1)))))), ((cell_far (p := ⟨gb106, _, none⟩) NB105_106.out _).trans (((cell_far (p := ⟨gb106, _, none⟩) NB105_106.out _).trans (((cell_far (p := ⟨gb106, _, none⟩) NB105_106.out _).trans (hHeld.2.2))))))⟩ (fun hHeld => ?_)
    clear hK K
    refine done_ (done_of HT_.out (by kernel_rfl)) ?_
    try go_wp2
    refine bodyPost_ret (results_cell_row rfl _ _ gb106 31 #[.slice Ao20 y110.length co20, .slice Ao19 y116.length co19, .slice Ao18 y122.length co18] (0, 0) _ rfl bq Try.underlying31 rfl (by kernel_rfl)) rfl ?_
    exact ⟨_, _, _, by first | rfl | (simp [errW_none, errW_some] <;> rfl) | (simp [*, errW_none, errW_some] <;> rfl), (by exact rm (rs1 HO112 BK106)), (by exact rm (rs1 HO118 BK106)), (by exact rm (rs1 HO124 BK106)), bl⟩
   ·rw [if_neg c4] at H
    exact absurd H (by simp)
  ·rw [if_neg c3] at H
   exact absurd H (by simp)
 ·rw [if_neg c2] at H
  exact absurd H (by simp)

end Go.Proofs.Ytmliclopdbkbeaa.PFnExactAddPivot
