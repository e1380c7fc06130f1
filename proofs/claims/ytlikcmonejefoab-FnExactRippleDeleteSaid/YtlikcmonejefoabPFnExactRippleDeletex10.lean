-- printed by a program of this session, a turned copy of the print of the kit
import Derived.Test.YtlikcmonejefoabSq
import Derived.Test.YtlikcmonejefoabPFnExactRippleDeletex0
import Derived.Test.YtlikcmonejefoabPFnExactRippleDeletex9
namespace Go.Proofs.Ytlikcmonejefoab.PFnExactRippleDelete
open Go.RowKit Go.Proofs.YtlikcmonejefoabW.PrintWords Go.Proofs.YtlikcmonejefoabW.PrintLast Go.Proofs.YtlikcmonejefoabW.PrintMore Go.Proofs.Ytlikcmonejefoab.Sq
attribute [local go_sem] max2_int min2_int max_two min_two max_three min_three max_four min_four Giv.cell_twice   -- for this text's walks alone
set_option linter.unusedVariables false
set_option linter.unusedSimpArgs false

/-! ### laws_eqPivotS: function 35 -/
def laws_eqPivotS.l0 : Nat → List (S50) → List (S50) → Int → Option (Bool)
  | 0, _, _, _ => none
  | k + 1, x0, x1, x5 => if x5 < (x0.length : Int) then (if 0 ≤ x5 then (if x5 < (x1.length : Int) then ((laws_eqPivot.f ((rd_T50 x0 x5).f0) ((rd_T50 x0 x5).f1) ((rd_T50 x1 x5).f0) ((rd_T50 x1 x5).f1)).bind fun z8 => (if z8 = true then (laws_eqPivotS.l0 k x0 x1 (wrap64 (x5 + 1))) else (some false))) else (none)) else (none)) else (some true)
def laws_eqPivotS.f (k : Nat) (l0 : List (S50)) (l1 : List (S50)) : Option (Bool) := if (l0.length : Int) = (l1.length : Int) then (laws_eqPivotS.l0 k l0 l1 0) else (some false)
theorem laws_eqPivotS.mono_l : ∀ k, (∀ y0 y1 y2, LeO (laws_eqPivotS.l0 k y0 y1 y2) (laws_eqPivotS.l0 (k + 1) y0 y1 y2))
  | 0 => fun _ _ _ r h => by simp [laws_eqPivotS.l0] at h
  | k + 1 => by
    have ih0 := laws_eqPivotS.mono_l k
    · intro y0 y1 y2
      unfold laws_eqPivotS.l0
      repeat' first
      | (with_reducible exact ih0 _ _ _)
      | (with_reducible exact LeO.refl _)
      | (with_reducible exact LeO.none _)
      | (with_reducible refine LeO.ite ?_ ?_)
      | (with_reducible refine LeO.bind ?_ (fun _ => ?_))
      | exact ih0 _ _ _
      | exact LeO.none _
      | refine LeO.ite ?_ ?_
      | refine LeO.bind ?_ (fun _ => ?_)
theorem laws_eqPivotS.mono : ∀ a0 a1 k, LeO (laws_eqPivotS.f k a0 a1) (laws_eqPivotS.f (k + 1) a0 a1) := by
  intro a0 a1 k
  have ih0:= laws_eqPivotS.mono_l k
  unfold laws_eqPivotS.f
  repeat' first
     |(with_reducible exact ih0 _ _ _)
     |(with_reducible exact LeO.refl _)
     |(with_reducible exact LeO.none _)
     |(with_reducible refine LeO.ite ?_ ?_)
     |(with_reducible refine LeO.bind ?_ (fun _ => ?_))
     |exact ih0 _ _ _
     |exact LeO.none _
     |refine LeO.ite ?_ ?_
     |refine LeO.bind ?_ (fun _ => ?_)
def laws_eqPivotS.T6 : Bool × List (List Nat × List Nat) := (true, [([], []), ([], []), ([0, 1], [0, 1]), ([2], [2]), ([], []), ([], []), ([4, 5], [4, 5]), ([6], [6]), ([3, 7], [3, 7]), ([8], [8])])
def laws_eqPivotS.B6 : List Nat := [0, 0, 3, 7, 0, 0, 48, 112, 255, 511]
theorem laws_eqPivotS.tab6 : rtab .any (opsOf Try.f35 6) = laws_eqPivotS.T6 := by kernel_rfl
theorem laws_eqPivotS.bits6 : waitsOk laws_eqPivotS.T6.2 laws_eqPivotS.B6 = true := by kernel_rfl
set_option maxHeartbeats 8000000 in
set_option maxRecDepth 100000 in
theorem laws_eqPivotS.calls (k : Nat) (A0 : Option Addr) (c0 : Nat) (l0 : List (S50)) (A1 : Option Addr) (c1 : Nat) (l1 : List (S50)) (r : Bool) (w : World) (hr0 : Kd.C k50 w A0 l0.length l0) (hc0 : l0.length ≤ c0) (hr1 : Kd.C k50 w A1 l1.length l1) (hc1 : l1.length ≤ c1) (h : laws_eqPivotS.f k l0 l1 = some r) :
    Calls Try.prog 35 #[.slice A0 l0.length c0, .slice A1 l1.length c1] w fun e w' => e = .returned (.bool r) ∧ Below w.heap.size w w' := by
  have hu50:= Try.underlying50
  have HR0:= mk hr0
  have HC0:= mk hc0
  clear hr0 hc0
  have HR1:= mk hr1
  have HC1:= mk hc1
  clear hr1 hc1
  have HB:= mk (Below.refl w.heap.size w)
  have H : (if (l0.length : Int) = (l1.length : Int) then (laws_eqPivotS.l0 k l0 l1 0) else (some false)) = some r:= h
  clear h
  by_cases c3 : (l0.length : Int) = (l1.length : Int)
  · rw [if_pos c3] at H
    have o5 : ((l0.length : Int) == (l1.length : Int)) = true:= beq_iff_eq.mpr c3
    have ka5 : ((l0.length : Int) != (l1.length : Int)) = false:= bne_eq_false_iff_eq.mpr c3
    have ja5 : (l0.length == l1.length) = true:= by first|simpa using c3|(simp at c3 ⊢;omega)
    clear c3
    have H':= mk H
    clear H
    go_enter Try.func35,Try.ntmps35
    go_wp2
    go_loopg [5] k (fun kq v5 w' => ∃ (b0 : Int),v5 = .int .i64 b0 ∧ Aside0 (laws_eqPivotS.l0 kq l0 l1 b0 = some r) ∧ Aside0 (kq ≤ k) ∧ Aside0 (Below w.heap.size w w'))
    case atStart => exact ⟨(0),(by first|rfl|(simp;done)|(simp [*];done)),H',⟨Nat.le_refl _⟩,⟨by repeat (first|(with_reducible first|exact HB.out|apply below_alloc|apply pw_below_drewN|apply below_drew1)|exact HB.out)⟩⟩
    case round =>
      clear H'
      try clear c1
      try clear p2
      try clear c3
      try clear o5
      try clear ka5
      try clear ja5
      obtain ⟨b0,rfl,HA,HK1,HB⟩:= hrel
      cases gk with
     |zero => exact absurd HA.out (by simp [laws_eqPivotS.l0])
     |succ k1 =>
        have H:= HA.out
        clear HA
        simp only [laws_eqPivotS.l0] at H
        by_cases c4 : b0 < (l0.length : Int)
        · rw [if_pos c4] at H
          have a9 : decide (b0 < (l0.length : Int)) = true:= decide_eq_true c4
          clear c4
          by_cases c5 : 0 ≤ b0
          · rw [if_pos c5] at H
            have ga5 : decide (0 ≤ b0) = true:= decide_eq_true c5
            clear c5
            by_cases c6 : b0 < (l1.length : Int)
            · rw [if_pos c6] at H
              have ba7 : decide (b0 < (l1.length : Int)) = true:= decide_eq_true c6
              clear c6
              replace H:= Option.bind_eq_some_iff.mp H
              obtain ⟨z8,A70,H⟩:= H
              replace H : (if z8 = true then (laws_eqPivotS.l0 k1 l0 l1 (wrap64 (b0 + 1))) else (some false)) = some r:= H
              have A7:= mk A70
              clear A70
              by_cases c8 : z8 = true
              · subst c8
                have H1 : (laws_eqPivotS.l0 k1 l0 l1 (wrap64 (b0 + 1))) = some r:= by rw [if_pos rfl] at H;exact H
                clear H
                have H:= H1
                clear H1
                have H':= mk H
                clear H
                try go_wp2
                have n0_:= mk (below_drew1 HB.out)
                clear HB
                have HB:= n0_
                clear n0_
                have d6 : 0 ≤ (b0 : Int):= of_decide_eq_true (by first|(with_reducible assumption)|assumption)
                have z5 : b0 < (l0.length : Int):= of_decide_eq_true (by first|(with_reducible assumption)|assumption)
                obtain ⟨d4,ka4,j1,g1⟩:= at_T50 HR0.out b0 d6 z5
                have hw282_1:= g1
                have hw282_0:= j1
                cases ka4
                replace j1:= (HB.out.cell (World.block_lt_of_cell? w _ j1)).trans j1
                replace g1:= (HB.out.cell (World.block_lt_of_cell? w _ g1)).trans g1
                replace d6:= eq_true d6
                replace z5:= eq_true z5
                have b6 : 0 ≤ (b0 : Int):= of_decide_eq_true (by first|(with_reducible assumption)|assumption)
                have y5 : b0 < (l1.length : Int):= of_decide_eq_true (by first|(with_reducible assumption)|assumption)
                obtain ⟨b4,ja4,d1,b1⟩:= at_T50 HR1.out b0 b6 y5
                have hw283_1:= b1
                have hw283_0:= d1
                cases ja4
                replace d1:= (HB.out.cell (World.block_lt_of_cell? w _ d1)).trans d1
                replace b1:= (HB.out.cell (World.block_lt_of_cell? w _ b1)).trans b1
                replace b6:= eq_true b6
                replace y5:= eq_true y5
                refine start_ (n:= 10) (S:= fun w' => w'.cell? (d4.add ((b0).toNat * 2)) = some (.int .i64 ((rd_T50 l0 b0).f0)) ∧ w'.cell? ⟨(d4.add ((b0).toNat * 2)).block,(d4.add ((b0).toNat * 2)).off + 1,none⟩ = some (.int .i64 ((rd_T50 l0 b0).f1)) ∧ w'.cell? (b4.add ((b0).toNat * 2)) = some (.int .i64 ((rd_T50 l1 b0).f0)) ∧ w'.cell? ⟨(b4.add ((b0).toNat * 2)).block,(b4.add ((b0).toNat * 2)).off + 1,none⟩ = some (.int .i64 ((rd_T50 l1 b0).f1))) (ds:= []) #[false,false,false,false,false,false,false,false,false,false] (by kernel_rfl) rfl rfl ⟨((HB.out.cell (World.block_lt_of_cell? w _ hw282_0)).trans hw282_0),((HB.out.cell (World.block_lt_of_cell? w _ hw282_1)).trans hw282_1),((HB.out.cell (World.block_lt_of_cell? w _ hw283_0)).trans hw283_0),((HB.out.cell (World.block_lt_of_cell? w _ hw283_1)).trans hw283_1)⟩ (fun hHeld => ?_);refine with_tabW laws_eqPivotS.tab6 laws_eqPivotS.bits6 (fun HT_ HW_ => ?_)
                generalize wr.drew = w9 at HB j1 g1 d1 b1 hHeld ⊢
                refine pure_ (i:= 0) (N:= some 17) (v:= ?_) (a':= ?_) #[true,false,false,false,false,false,false,false,false,false] rfl rfl (any_of HT_.out (by kernel_rfl)) (fun _ _ _ h => h) (Or.inl ⟨by rfl,?_⟩) ?_ ?_
                rotate_left
                · intro w'
                  go_simp
                  with_reducible rfl
                rotate_left
                · simp only [sp,i64_w,i32_w]
                  rfl
                refine pure_ (i:= 1) (N:= some 18) (v:= ?_) (a':= ?_) #[true,true,false,false,false,false,false,false,false,false] rfl rfl (any_of HT_.out (by kernel_rfl)) (fun _ _ _ h => h) (Or.inl ⟨by rfl,?_⟩) ?_ ?_
                rotate_left
                · intro w'
                  go_simp
                  with_reducible rfl
                rotate_left
                · simp only [sp,i64_w,i32_w]
                  rfl
                refine pure_ (i:= 2) (N:= some 19) (v:= ?_) (a':= ?_) #[true,true,true,false,false,false,false,false,false,false] rfl rfl (any_of HT_.out (by kernel_rfl)) (fun _ _ _ h => h) (Or.inl ⟨by rfl,?_⟩) ?_ ?_
                rotate_left
                · intro w'
                  go_simp
                  with_reducible rfl
                rotate_left
                · simp only [sp,i64_w,i32_w]
                  rfl
                refine pure_ (i:= 4) (N:= some 21) (v:= ?_) (a':= ?_) #[true,true,true,false,true,false,false,false,false,false] rfl rfl (any_of HT_.out (by kernel_rfl)) (fun _ _ _ h => h) (Or.inl ⟨by rfl,?_⟩) ?_ ?_
                rotate_left
                · intro w'
                  go_simp
                  with_reducible rfl
                rotate_left
                · simp only [sp,i64_w,i32_w]
                  rfl
                refine pure_ (i:= 5) (N:= some 22) (v:= ?_) (a':= ?_) #[true,true,true,false,true,true,false,false,false,false] rfl rfl (any_of HT_.out (by kernel_rfl)) (fun _ _ _ h => h) (Or.inl ⟨by rfl,?_⟩) ?_ ?_
                rotate_left
                · intro w'
                  go_simp
                  with_reducible rfl
                rotate_left
                · simp only [sp,i64_w,i32_w]
                  rfl
                refine pure_ (i:= 6) (N:= some 23) (v:= ?_) (a':= ?_) #[true,true,true,false,true,true,true,false,false,false] rfl rfl (any_of HT_.out (by kernel_rfl)) (fun _ _ _ h => h) (Or.inl ⟨by rfl,?_⟩) ?_ ?_
                rotate_left
                · intro w'
                  go_simp
                  with_reducible rfl
                rotate_left
                · simp only [sp,i64_w,i32_w]
                  rfl
                refine take_ (i:= 3) (N:= some 20) (v:= ?_) (a':= ?_) #[true,true,true,true,true,true,true,false,false,false] rfl rfl (take_ofW HT_.out HW_.out (by kernel_rfl)) (fun _ _ _ h => h) (Or.inl ⟨by rfl,?_⟩) hHeld ?_ ?_
                rotate_left
                · rintro w' ⟨s0,s1,s2,s3⟩
                  go_simp
                  with_reducible rfl
                rotate_left
                · simp only [sp,i64_w,i32_w]
                  rfl
                refine take_ (i:= 7) (N:= some 24) (v:= ?_) (a':= ?_) #[true,true,true,true,true,true,true,true,false,false] rfl rfl (take_ofW HT_.out HW_.out (by kernel_rfl)) (fun _ _ _ h => h) (Or.inl ⟨by rfl,?_⟩) hHeld ?_ ?_
                rotate_left
                · rintro w' ⟨s0,s1,s2,s3⟩
                  go_simp
                  with_reducible rfl
                rotate_left
                · simp only [sp,i64_w,i32_w]
                  rfl
                refine one_ (i:= 8) (N:= some 25) #[true,true,true,true,true,true,true,true,true,false] rfl rfl (one_of HT_.out (by kernel_rfl)) (by decide) (fun K hK => ?_)
                refine goes_ Try.func61 (by kernel_rfl) rfl #[.agg #[.int .i64 ((rd_T50 l0 b0).f0),.int .i64 ((rd_T50 l0 b0).f1)],.agg #[.int .i64 ((rd_T50 l1 b0).f0),.int .i64 ((rd_T50 l1 b0).f1)]] (by rfl) rfl rfl (by (try simp only [List.map_toArray,List.map_cons,List.map_nil]);first|done|rfl|(simp only [List.length_drop,List.length_take];rfl)) ?_
                with_reducible refine (laws_eqPivot.calls ((rd_T50 l0 b0).f0) ((rd_T50 l0 b0).f1) ((rd_T50 l1 b0).f0) ((rd_T50 l1 b0).f1) true _ A7.out).mono ?_
                rintro e w10 ⟨rfl,hb⟩
                refine ⟨_,rfl,?_⟩
                have n0_:= mk (below_step (by repeat (first|(with_reducible first|exact HB.out|apply below_alloc|apply pw_below_drewN|apply below_drew1)|exact HB.out)) hb)
                clear HB
                have HB:= n0_
                clear n0_
                (try clear hb)
                (try clear hb2)
                (try clear hk)
                (try clear hi)
                refine hK.out _ _ ⟨((HB.out.cell (World.block_lt_of_cell? w _ hw282_0)).trans hw282_0),((HB.out.cell (World.block_lt_of_cell? w _ hw282_1)).trans hw282_1),((HB.out.cell (World.block_lt_of_cell? w _ hw283_0)).trans hw283_0),((HB.out.cell (World.block_lt_of_cell? w _ hw283_1)).trans hw283_1)⟩ (fun hHeld => ?_)
                clear hK K
                refine norm_ (a':= ?_) ?_ ?_
                rotate_left
                · show Act.put _ (some 25) _ = _
                  simp only [sp,i64_w,i32_w]
                  rfl
                refine pure_ (i:= 9) (N:= some 26) (v:= ?_) (a':= ?_) #[true,true,true,true,true,true,true,true,true,true] rfl rfl (any_of HT_.out (by kernel_rfl)) (fun _ _ _ h => h) (Or.inl ⟨by rfl,?_⟩) ?_ ?_
                rotate_left
                · intro w'
                  go_simp
                  with_reducible rfl
                rotate_left
                · simp only [sp,i64_w,i32_w]
                  rfl
                refine done_ (done_of HT_.out (by kernel_rfl)) ?_
                try go_wp2
                go_roundg k1
                case measure => have:= HK1.out;omega
                case rel => exact ⟨(wrap64 (b0 + 1)),(by first|rfl|(simp;done)|(simp [*];done)),H',⟨by have:= HK1.out;omega⟩,⟨by repeat (first|(with_reducible first|exact HB.out|apply below_alloc|apply pw_below_drewN|apply below_drew1)|exact HB.out)⟩⟩
              · replace c8:= Bool.eq_false_iff.mpr c8
                subst c8
                have H1 : (some false) = some r:= by rw [if_neg (show ¬ (false = true) by decide)] at H;exact H
                clear H
                have H:= H1
                clear H1
                obtain rfl:= Option.some.inj H
                try go_wp2
                have n0_:= mk (below_drew1 HB.out)
                clear HB
                have HB:= n0_
                clear n0_
                have d6 : 0 ≤ (b0 : Int):= of_decide_eq_true (by first|(with_reducible assumption)|assumption)
                have z5 : b0 < (l0.length : Int):= of_decide_eq_true (by first|(with_reducible assumption)|assumption)
                obtain ⟨d4,ka4,j1,g1⟩:= at_T50 HR0.out b0 d6 z5
                have hw282_1:= g1
                have hw282_0:= j1
                cases ka4
                replace j1:= (HB.out.cell (World.block_lt_of_cell? w _ j1)).trans j1
                replace g1:= (HB.out.cell (World.block_lt_of_cell? w _ g1)).trans g1
                replace d6:= eq_true d6
                replace z5:= eq_true z5
                have b6 : 0 ≤ (b0 : Int):= of_decide_eq_true (by first|(with_reducible assumption)|assumption)
                have y5 : b0 < (l1.length : Int):= of_decide_eq_true (by first|(with_reducible assumption)|assumption)
                obtain ⟨b4,ja4,d1,b1⟩:= at_T50 HR1.out b0 b6 y5
                have hw283_1:= b1
                have hw283_0:= d1
                cases ja4
                replace d1:= (HB.out.cell (World.block_lt_of_cell? w _ d1)).trans d1
                replace b1:= (HB.out.cell (World.block_lt_of_cell? w _ b1)).trans b1
                replace b6:= eq_true b6
                replace y5:= eq_true y5
                refine start_ (n:= 10) (S:= fun w' => w'.cell? (d4.add ((b0).toNat * 2)) = some (.int .i64 ((rd_T50 l0 b0).f0)) ∧ w'.cell? ⟨(d4.add ((b0).toNat * 2)).block,(d4.add ((b0).toNat * 2)).off + 1,none⟩ = some (.int .i64 ((rd_T50 l0 b0).f1)) ∧ w'.cell? (b4.add ((b0).toNat * 2)) = some (.int .i64 ((rd_T50 l1 b0).f0)) ∧ w'.cell? ⟨(b4.add ((b0).toNat * 2)).block,(b4.add ((b0).toNat * 2)).off + 1,none⟩ = some (.int .i64 ((rd_T50 l1 b0).f1))) (ds:= []) #[false,false,false,false,false,false,false,false,false,false] (by kernel_rfl) rfl rfl ⟨((HB.out.cell (World.block_lt_of_cell? w _ hw282_0)).trans hw282_0),((HB.out.cell (World.block_lt_of_cell? w _ hw282_1)).trans hw282_1),((HB.out.cell (World.block_lt_of_cell? w _ hw283_0)).trans hw283_0),((HB.out.cell (World.block_lt_of_cell? w _ hw283_1)).trans hw283_1)⟩ (fun hHeld => ?_);refine with_tabW laws_eqPivotS.tab6 laws_eqPivotS.bits6 (fun HT_ HW_ => ?_)
                generalize wr.drew = w11 at HB j1 g1 d1 b1 hHeld ⊢
                refine pure_ (i:= 0) (N:= some 17) (v:= ?_) (a':= ?_) #[true,false,false,false,false,false,false,false,false,false] rfl rfl (any_of HT_.out (by kernel_rfl)) (fun _ _ _ h => h) (Or.inl ⟨by rfl,?_⟩) ?_ ?_
                rotate_left
                · intro w'
                  go_simp
                  with_reducible rfl
                rotate_left
                · simp only [sp,i64_w,i32_w]
                  rfl
                refine pure_ (i:= 1) (N:= some 18) (v:= ?_) (a':= ?_) #[true,true,false,false,false,false,false,false,false,false] rfl rfl (any_of HT_.out (by kernel_rfl)) (fun _ _ _ h => h) (Or.inl ⟨by rfl,?_⟩) ?_ ?_
                rotate_left
                · intro w'
                  go_simp
                  with_reducible rfl
                rotate_left
                · simp only [sp,i64_w,i32_w]
                  rfl
                refine pure_ (i:= 2) (N:= some 19) (v:= ?_) (a':= ?_) #[true,true,true,false,false,false,false,false,false,false] rfl rfl (any_of HT_.out (by kernel_rfl)) (fun _ _ _ h => h) (Or.inl ⟨by rfl,?_⟩) ?_ ?_
                rotate_left
                · intro w'
                  go_simp
                  with_reducible rfl
                rotate_left
                · simp only [sp,i64_w,i32_w]
                  rfl
                refine pure_ (i:= 4) (N:= some 21) (v:= ?_) (a':= ?_) #[true,true,true,false,true,false,false,false,false,false] rfl rfl (any_of HT_.out (by kernel_rfl)) (fun _ _ _ h => h) (Or.inl ⟨by rfl,?_⟩) ?_ ?_
                rotate_left
                · intro w'
                  go_simp
                  with_reducible rfl
                rotate_left
                · simp only [sp,i64_w,i32_w]
                  rfl
                refine pure_ (i:= 5) (N:= some 22) (v:= ?_) (a':= ?_) #[true,true,true,false,true,true,false,false,false,false] rfl rfl (any_of HT_.out (by kernel_rfl)) (fun _ _ _ h => h) (Or.inl ⟨by rfl,?_⟩) ?_ ?_
                rotate_left
                · intro w'
                  go_simp
                  with_reducible rfl
                rotate_left
                · simp only [sp,i64_w,i32_w]
                  rfl
                refine pure_ (i:= 6) (N:= some 23) (v:= ?_) (a':= ?_) #[true,true,true,false,true,true,true,false,false,false] rfl rfl (any_of HT_.out (by kernel_rfl)) (fun _ _ _ h => h) (Or.inl ⟨by rfl,?_⟩) ?_ ?_
                rotate_left
                · intro w'
                  go_simp
                  with_reducible rfl
                rotate_left
                · simp only [sp,i64_w,i32_w]
                  rfl
                refine take_ (i:= 3) (N:= some 20) (v:= ?_) (a':= ?_) #[true,true,true,true,true,true,true,false,false,false] rfl rfl (take_ofW HT_.out HW_.out (by kernel_rfl)) (fun _ _ _ h => h) (Or.inl ⟨by rfl,?_⟩) hHeld ?_ ?_
                rotate_left
                · rintro w' ⟨s0,s1,s2,s3⟩
                  go_simp
                  with_reducible rfl
                rotate_left
                · simp only [sp,i64_w,i32_w]
                  rfl
                refine take_ (i:= 7) (N:= some 24) (v:= ?_) (a':= ?_) #[true,true,true,true,true,true,true,true,false,false] rfl rfl (take_ofW HT_.out HW_.out (by kernel_rfl)) (fun _ _ _ h => h) (Or.inl ⟨by rfl,?_⟩) hHeld ?_ ?_
                rotate_left
                · rintro w' ⟨s0,s1,s2,s3⟩
                  go_simp
                  with_reducible rfl
                rotate_left
                · simp only [sp,i64_w,i32_w]
                  rfl
                refine one_ (i:= 8) (N:= some 25) #[true,true,true,true,true,true,true,true,true,false] rfl rfl (one_of HT_.out (by kernel_rfl)) (by decide) (fun K hK => ?_)
                refine goes_ Try.func61 (by kernel_rfl) rfl #[.agg #[.int .i64 ((rd_T50 l0 b0).f0),.int .i64 ((rd_T50 l0 b0).f1)],.agg #[.int .i64 ((rd_T50 l1 b0).f0),.int .i64 ((rd_T50 l1 b0).f1)]] (by rfl) rfl rfl (by (try simp only [List.map_toArray,List.map_cons,List.map_nil]);first|done|rfl|(simp only [List.length_drop,List.length_take];rfl)) ?_
                with_reducible refine (laws_eqPivot.calls ((rd_T50 l0 b0).f0) ((rd_T50 l0 b0).f1) ((rd_T50 l1 b0).f0) ((rd_T50 l1 b0).f1) false _ A7.out).mono ?_
                rintro e w12 ⟨rfl,hb⟩
                refine ⟨_,rfl,?_⟩
                have n0_:= mk (below_step (by repeat (first|(with_reducible first|exact HB.out|apply below_alloc|apply pw_below_drewN|apply below_drew1)|exact HB.out)) hb)
                clear HB
                have HB:= n0_
                clear n0_
                (try clear hb)
                (try clear hb2)
                (try clear hk)
                (try clear hi)
                refine hK.out _ _ ⟨((HB.out.cell (World.block_lt_of_cell? w _ hw282_0)).trans hw282_0),((HB.out.cell (World.block_lt_of_cell? w _ hw282_1)).trans hw282_1),((HB.out.cell (World.block_lt_of_cell? w _ hw283_0)).trans hw283_0),((HB.out.cell (World.block_lt_of_cell? w _ hw283_1)).trans hw283_1)⟩ (fun hHeld => ?_)
                clear hK K
                refine norm_ (a':= ?_) ?_ ?_
                rotate_left
                · show Act.put _ (some 25) _ = _
                  simp only [sp,i64_w,i32_w]
                  rfl
                refine pure_ (i:= 9) (N:= some 26) (v:= ?_) (a':= ?_) #[true,true,true,true,true,true,true,true,true,true] rfl rfl (any_of HT_.out (by kernel_rfl)) (fun _ _ _ h => h) (Or.inl ⟨by rfl,?_⟩) ?_ ?_
                rotate_left
                · intro w'
                  go_simp
                  with_reducible rfl
                rotate_left
                · simp only [sp,i64_w,i32_w]
                  rfl
                refine done_ (done_of HT_.out (by kernel_rfl)) ?_
                try go_wp2
                go_ret
                exact ⟨by first|rfl|(simp [errW_none,errW_some] <;> rfl)|(simp [*,errW_none,errW_some] <;> rfl),by repeat (first|(with_reducible first|exact HB.out|apply below_alloc|apply pw_below_drewN|apply below_drew1)|exact HB.out)⟩
            · rw [if_neg c6] at H
              exact absurd H (by simp)
          · rw [if_neg c5] at H
            exact absurd H (by simp)
        · rw [if_neg c4] at H
          have a9 : decide (b0 < (l0.length : Int)) = false:= decide_eq_false c4
          clear c4
          obtain rfl:= Option.some.inj H
          go_wp2
          go_ret
          exact ⟨by first|rfl|(simp [errW_none,errW_some] <;> rfl)|(simp [*,errW_none,errW_some] <;> rfl),by repeat (first|(with_reducible first|exact HB.out|apply below_alloc|apply pw_below_drewN|apply below_drew1)|exact HB.out)⟩
  · rw [if_neg c3] at H
    have o5 : ((l0.length : Int) == (l1.length : Int)) = false:= beq_eq_false_iff_ne.mpr c3
    have ka5 : ((l0.length : Int) != (l1.length : Int)) = true:= bne_iff_ne.mpr c3
    have ja5 : (l0.length == l1.length) = false:= by first|simpa using c3|(simp at c3 ⊢;omega)
    obtain rfl:= Option.some.inj H
    go_enter Try.func35,Try.ntmps35
    go_wp2
    go_ret
    exact ⟨by first|rfl|(simp [errW_none,errW_some] <;> rfl)|(simp [*,errW_none,errW_some] <;> rfl),by repeat (first|(with_reducible first|exact HB.out|apply below_alloc|apply pw_below_drewN|apply below_drew1)|exact HB.out)⟩

/-! ### laws_eqCracker: function 10 -/
def laws_eqCracker.f (k : Nat) (z0 : List Int) (q0 : List Int) (v0 : List (S50)) (g3 : List Int) (d3 : List Int) (b3 : List (S50)) : Option (Bool) := (laws_eqIntS.f k z0 g3).bind fun k7 => (if k7 = true then ((laws_eqIntS.f k q0 d3).bind fun z4 => (if z4 = true then ((laws_eqPivotS.f k v0 b3).bind fun j4 => (if j4 = true then (some true) else (some false))) else (some false))) else (some false))
theorem laws_eqCracker.mono : ∀ a0 a1 a2 a3 a4 a5 k, LeO (laws_eqCracker.f k a0 a1 a2 a3 a4 a5) (laws_eqCracker.f (k + 1) a0 a1 a2 a3 a4 a5) := by
  intro a0 a1 a2 a3 a4 a5 k
  unfold laws_eqCracker.f
  repeat' first
     |(with_reducible exact laws_eqIntS.mono _ _ _)
     |(with_reducible exact laws_eqPivotS.mono _ _ _)
     |(with_reducible exact LeO.refl _)
     |(with_reducible exact LeO.none _)
     |(with_reducible refine LeO.ite ?_ ?_)
     |(with_reducible refine LeO.bind ?_ (fun _ => ?_))
     |exact laws_eqIntS.mono _ _ _
     |exact laws_eqPivotS.mono _ _ _
     |exact LeO.none _
     |refine LeO.ite ?_ ?_
     |refine LeO.bind ?_ (fun _ => ?_)
set_option maxHeartbeats 8000000 in
set_option maxRecDepth 100000 in
theorem laws_eqCracker.calls (k : Nat) (q2 : Option Addr) (o2 : Nat) (z0 : List Int) (z2 : Option Addr) (v2 : Nat) (q0 : List Int) (k3 : Option Addr) (j3 : Nat) (v0 : List (S50)) (y3 : Option Addr) (v3 : Nat) (g3 : List Int) (g4 : Option Addr) (z3 : Nat) (d3 : List Int) (m4 : Option Addr) (k4 : Nat) (b3 : List (S50)) (r : Bool) (w : World) (z7 : Kd.C (Kd.int .i64) w q2 z0.length z0) (hc0_0 : z0.length ≤ o2) (y7 : Kd.C (Kd.int .i64) w z2 q0.length q0) (hc0_1 : q0.length ≤ v2) (v7 : Kd.C k50 w k3 v0.length v0) (hc0_2 : v0.length ≤ j3) (s7 : Kd.C (Kd.int .i64) w y3 g3.length g3) (hc1_0 : g3.length ≤ v3) (q7 : Kd.C (Kd.int .i64) w g4 d3.length d3) (hc1_1 : d3.length ≤ z3) (o7 : Kd.C k50 w m4 b3.length b3) (hc1_2 : b3.length ≤ k4) (h : laws_eqCracker.f k z0 q0 v0 g3 d3 b3 = some r) :
    Calls Try.prog 10 #[.agg #[.slice q2 z0.length o2, .slice z2 q0.length v2, .slice k3 v0.length j3], .agg #[.slice y3 g3.length v3, .slice g4 d3.length z3, .slice m4 b3.length k4]] w fun e w' => e = .returned (.bool r) ∧ Below w.heap.size w w' := by
  have hu29:= Try.underlying29
  have d5:= mk z7
  have j5:= mk hc0_0
  clear z7 hc0_0
  have a7:= mk y7
  have d7:= mk hc0_1
  clear y7 hc0_1
  have m8:= mk v7
  have q8:= mk hc0_2
  clear v7 hc0_2
  have b5:= mk s7
  have g5:= mk hc1_0
  clear s7 hc1_0
  have z6:= mk q7
  have b7:= mk hc1_1
  clear q7 hc1_1
  have k8:= mk o7
  have o8:= mk hc1_2
  clear o7 hc1_2
  have HB:= mk (Below.refl w.heap.size w)
  have H : ((laws_eqIntS.f k z0 g3).bind fun k7 => (if k7 = true then ((laws_eqIntS.f k q0 d3).bind fun z4 => (if z4 = true then ((laws_eqPivotS.f k v0 b3).bind fun j4 => (if j4 = true then (some true) else (some false))) else (some false))) else (some false))) = some r:= h
  clear h
  replace H:= Option.bind_eq_some_iff.mp H
  obtain ⟨k7,A30,H⟩:= H
  replace H : (if k7 = true then ((laws_eqIntS.f k q0 d3).bind fun z4 => (if z4 = true then ((laws_eqPivotS.f k v0 b3).bind fun j4 => (if j4 = true then (some true) else (some false))) else (some false))) else (some false)) = some r:= H
  have A3:= mk A30
  clear A30
  by_cases c4 : k7 = true
  · subst c4
    have H1 : ((laws_eqIntS.f k q0 d3).bind fun z4 => (if z4 = true then ((laws_eqPivotS.f k v0 b3).bind fun j4 => (if j4 = true then (some true) else (some false))) else (some false))) = some r:= by rw [if_pos rfl] at H;exact H
    clear H
    have H:= H1
    clear H1
    replace H:= Option.bind_eq_some_iff.mp H
    obtain ⟨z4,A50,H⟩:= H
    replace H : (if z4 = true then ((laws_eqPivotS.f k v0 b3).bind fun j4 => (if j4 = true then (some true) else (some false))) else (some false)) = some r:= H
    have A5:= mk A50
    clear A50
    by_cases c6 : z4 = true
    · subst c6
      have H1 : ((laws_eqPivotS.f k v0 b3).bind fun j4 => (if j4 = true then (some true) else (some false))) = some r:= by rw [if_pos rfl] at H;exact H
      clear H
      have H:= H1
      clear H1
      replace H:= Option.bind_eq_some_iff.mp H
      obtain ⟨j4,A70,H⟩:= H
      replace H : (if j4 = true then (some true) else (some false)) = some r:= H
      have A7:= mk A70
      clear A70
      by_cases c8 : j4 = true
      · subst c8
        have H1 : (some true) = some r:= by rw [if_pos rfl] at H;exact H
        clear H
        have H:= H1
        clear H1
        obtain rfl:= Option.some.inj H
        go_enter Try.func10,Try.ntmps10
        go_wp2_with (first|((with_reducible refine gate_dst (N:= 2) rfl ?_);refine box_event ?hg (N:= 2) ?hd (cs:= #[.slice q2 z0.length o2,.slice z2 q0.length v2,.slice k3 v0.length j3]) (t:= 29) ?hr ?_;(case hd => rfl);(case hg => rfl);(case hr => first|(go_simp;done)|(go_simp;rfl));intro g0 hg w9 hbox hb;have n0_:= mk (below_step (by repeat (first|(with_reducible first|exact HB.out|apply below_alloc|apply pw_below_drewN|apply below_drew1)|exact HB.out)) hb);have n1_:= mk (hbox);have n2_:= mk ((by rw [hg];exact (below_size (by repeat (first|(with_reducible first|exact HB.out|apply below_alloc|apply pw_below_drewN|apply below_drew1)|exact HB.out))) : w.heap.size ≤ g0));have n3_:= mk ((by rw [hg];exact (below_size (by repeat (first|(with_reducible first|exact HB.out|apply below_alloc|apply pw_below_drewN|apply below_drew1)|exact HB.out))) : w.heap.size ≤ g0));clear HB;have HB:= n0_;have d0:= n1_;have j7:= n2_;have m0:= n3_;clear n0_ n1_ n2_ n3_;clear hb hbox hg)|((with_reducible refine gate_dst (N:= 3) rfl ?_);refine box_event ?hg (N:= 3) ?hd (cs:= #[.slice y3 g3.length v3,.slice g4 d3.length z3,.slice m4 b3.length k4]) (t:= 29) ?hr ?_;(case hd => rfl);(case hg => rfl);(case hr => first|(go_simp;done)|(go_simp;rfl));intro j0 hg w10 hbox hb;have n0_:= mk (blk_below (g:= g0) (o:= .cells #[.slice q2 z0.length o2,.slice z2 q0.length v2,.slice k3 v0.length j3] 29 (0,0)) (ub d0.out) hb);have n1_:= mk (below_step (by repeat (first|(with_reducible first|exact HB.out|apply below_alloc|apply pw_below_drewN|apply below_drew1|refine below_set ?_ m0.out)|exact HB.out)) hb);have n2_:= mk (hbox);have n3_:= mk ((by rw [hg];exact (below_size (by repeat (first|(with_reducible first|exact HB.out|apply below_alloc|apply pw_below_drewN|apply below_drew1|refine below_set ?_ m0.out)|exact HB.out))) : w.heap.size ≤ j0));have n4_:= mk ((by rw [hg];exact (below_size (by repeat (first|(with_reducible first|exact HB.out|apply below_alloc|apply pw_below_drewN|apply below_drew1|refine below_set ?_ m0.out)|exact HB.out))) : w.heap.size ≤ j0));have n5_:= mk ((by rw [hg];exact Nat.ne_of_lt (blk_lt (g:= g0) (o:= .cells #[.slice q2 z0.length o2,.slice z2 q0.length v2,.slice k3 v0.length j3] 29 (0,0)) (ub d0.out)) : g0 ≠ j0));have n6_:= mk ((by rw [hg];exact Nat.ne_of_gt (blk_lt (g:= g0) (o:= .cells #[.slice q2 z0.length o2,.slice z2 q0.length v2,.slice k3 v0.length j3] 29 (0,0)) (ub d0.out)) : j0 ≠ g0));clear d0;clear HB;have d0:= n0_;have HB:= n1_;have k0:= n2_;have g7:= n3_;have b2:= n4_;have q1:= n5_;have o1:= n6_;clear n0_ n1_ n2_ n3_ n4_ n5_ n6_;clear hb hbox hg;have ja6:= q1.out;have aa6:= o1.out;have v6 : w10.cell? ⟨g0,0,none⟩ = some (.slice q2 z0.length o2):= (blk_cell d0.out 0).trans rfl;have s6 : w10.cell? ⟨g0,1,none⟩ = some (.slice z2 q0.length v2):= (blk_cell d0.out 1).trans rfl;have o6 : w10.cell? ⟨g0,2,none⟩ = some (.slice k3 v0.length j3):= (blk_cell d0.out 2).trans rfl;have m6:= blk_frozen d0.out 0;have k6:= blk_frozen d0.out 1;have j6:= blk_frozen d0.out 2;have sa3 : w10.cell? ⟨j0,0,none⟩ = some (.slice y3 g3.length v3):= (blk_cell k0.out 0).trans rfl;have qa3 : w10.cell? ⟨j0,1,none⟩ = some (.slice g4 d3.length z3):= (blk_cell k0.out 1).trans rfl;have oa3 : w10.cell? ⟨j0,2,none⟩ = some (.slice m4 b3.length k4):= (blk_cell k0.out 2).trans rfl;have ja1:= blk_frozen k0.out 0;have ga1:= blk_frozen k0.out 1;have da1:= blk_frozen k0.out 2)|((with_reducible refine gate_callee (f:= 34) rfl ?_);refine goesL_ (some 9) rfl rfl Try.func34 (by kernel_rfl) rfl #[.slice q2 z0.length o2,.slice y3 g3.length v3] rfl (by (try simp only [List.map_toArray,List.map_cons,List.map_nil]);first|done|rfl|(simp only [List.length_drop,List.length_take];rfl)) ?_;(with_reducible refine (laws_eqIntS.calls k _ _ z0 _ _ g3 true _ ?side1 ?side2 ?side3 ?side4 A3.out).mono ?_);(case side1 => exact uc (Kd.C_below d5.out HB.out));(case side2 => exact j5.out);(case side3 => exact uc (Kd.C_below b5.out HB.out));(case side4 => exact g5.out);rintro e w' ⟨rfl,⟨nd,rfl⟩⟩;refine ⟨_,rfl,?_⟩)|((with_reducible refine gate_callee (f:= 34) rfl ?_);refine goesL_ (some 15) rfl rfl Try.func34 (by kernel_rfl) rfl #[.slice z2 q0.length v2,.slice g4 d3.length z3] rfl (by (try simp only [List.map_toArray,List.map_cons,List.map_nil]);first|done|rfl|(simp only [List.length_drop,List.length_take];rfl)) ?_;(with_reducible refine (laws_eqIntS.calls k _ _ q0 _ _ d3 true _ ?side1 ?side2 ?side3 ?side4 A5.out).mono ?_);(case side1 => exact uc (Kd.C_below a7.out (by repeat (first|(with_reducible first|exact HB.out|apply below_alloc|apply pw_below_drewN|apply below_drew1|refine below_set ?_ m0.out|refine below_set ?_ b2.out)|exact HB.out))));(case side2 => exact d7.out);(case side3 => exact uc (Kd.C_below z6.out (by repeat (first|(with_reducible first|exact HB.out|apply below_alloc|apply pw_below_drewN|apply below_drew1|refine below_set ?_ m0.out|refine below_set ?_ b2.out)|exact HB.out))));(case side4 => exact b7.out);rintro e w' ⟨rfl,⟨nd,rfl⟩⟩;refine ⟨_,rfl,?_⟩)|((with_reducible refine gate_callee (f:= 35) rfl ?_);refine goesL_ (some 21) rfl rfl Try.func35 (by kernel_rfl) rfl #[.slice k3 v0.length j3,.slice m4 b3.length k4] rfl (by (try simp only [List.map_toArray,List.map_cons,List.map_nil]);first|done|rfl|(simp only [List.length_drop,List.length_take];rfl)) ?_;(with_reducible refine (laws_eqPivotS.calls k _ _ v0 _ _ b3 true _ ?side1 ?side2 ?side3 ?side4 A7.out).mono ?_);(case side1 => exact uc (Kd.C_below m8.out (by repeat (first|(with_reducible first|exact HB.out|apply below_alloc|apply pw_below_drewN|apply below_drew1|refine below_set ?_ m0.out|refine below_set ?_ b2.out)|exact HB.out))));(case side2 => exact q8.out);(case side3 => exact uc (Kd.C_below k8.out (by repeat (first|(with_reducible first|exact HB.out|apply below_alloc|apply pw_below_drewN|apply below_drew1|refine below_set ?_ m0.out|refine below_set ?_ b2.out)|exact HB.out))));(case side4 => exact o8.out);rintro e w14 ⟨rfl,hb⟩;refine ⟨_,rfl,?_⟩;have n0_:= mk (blk_below (g:= g0) (o:= .cells #[.slice q2 z0.length o2,.slice z2 q0.length v2,.slice k3 v0.length j3] 29 (0,0)) (ub d0.out) hb);have n1_:= mk (blk_below (g:= j0) (o:= .cells #[.slice y3 g3.length v3,.slice g4 d3.length z3,.slice m4 b3.length k4] 29 (0,0)) (ub k0.out) hb);have n2_:= mk (below_step (by repeat (first|(with_reducible first|exact HB.out|apply below_alloc|apply pw_below_drewN|apply below_drew1|refine below_set ?_ m0.out|refine below_set ?_ b2.out)|exact HB.out)) hb);clear d0;clear k0;clear HB;have d0:= n0_;have k0:= n1_;have HB:= n2_;clear n0_ n1_ n2_;(try clear hb);(try clear hb2);(try clear hk);(try clear hi)))
        go_ret
        exact ⟨by first|rfl|(simp [errW_none,errW_some] <;> rfl)|(simp [*,errW_none,errW_some] <;> rfl),by repeat (first|(with_reducible first|exact HB.out|apply below_alloc|apply pw_below_drewN|apply below_drew1|refine below_set ?_ m0.out|refine below_set ?_ b2.out)|exact HB.out)⟩
      · replace c8:= Bool.eq_false_iff.mpr c8
        subst c8
        have H1 : (some false) = some r:= by rw [if_neg (show ¬ (false = true) by decide)] at H;exact H
        clear H
        have H:= H1
        clear H1
        obtain rfl:= Option.some.inj H
        go_enter Try.func10,Try.ntmps10
        go_wp2_with (first|((with_reducible refine gate_dst (N:= 2) rfl ?_);refine box_event ?hg (N:= 2) ?hd (cs:= #[.slice q2 z0.length o2,.slice z2 q0.length v2,.slice k3 v0.length j3]) (t:= 29) ?hr ?_;(case hd => rfl);(case hg => rfl);(case hr => first|(go_simp;done)|(go_simp;rfl));intro g0 hg w15 hbox hb;have n0_:= mk (below_step (by repeat (first|(with_reducible first|exact HB.out|apply below_alloc|apply pw_below_drewN|apply below_drew1)|exact HB.out)) hb);have n1_:= mk (hbox);have n2_:= mk ((by rw [hg];exact (below_size (by repeat (first|(with_reducible first|exact HB.out|apply below_alloc|apply pw_below_drewN|apply below_drew1)|exact HB.out))) : w.heap.size ≤ g0));have n3_:= mk ((by rw [hg];exact (below_size (by repeat (first|(with_reducible first|exact HB.out|apply below_alloc|apply pw_below_drewN|apply below_drew1)|exact HB.out))) : w.heap.size ≤ g0));clear HB;have HB:= n0_;have d0:= n1_;have j7:= n2_;have m0:= n3_;clear n0_ n1_ n2_ n3_;clear hb hbox hg)|((with_reducible refine gate_dst (N:= 3) rfl ?_);refine box_event ?hg (N:= 3) ?hd (cs:= #[.slice y3 g3.length v3,.slice g4 d3.length z3,.slice m4 b3.length k4]) (t:= 29) ?hr ?_;(case hd => rfl);(case hg => rfl);(case hr => first|(go_simp;done)|(go_simp;rfl));intro j0 hg w16 hbox hb;have n0_:= mk (blk_below (g:= g0) (o:= .cells #[.slice q2 z0.length o2,.slice z2 q0.length v2,.slice k3 v0.length j3] 29 (0,0)) (ub d0.out) hb);have n1_:= mk (below_step (by repeat (first|(with_reducible first|exact HB.out|apply below_alloc|apply pw_below_drewN|apply below_drew1|refine below_set ?_ m0.out)|exact HB.out)) hb);have n2_:= mk (hbox);have n3_:= mk ((by rw [hg];exact (below_size (by repeat (first|(with_reducible first|exact HB.out|apply below_alloc|apply pw_below_drewN|apply below_drew1|refine below_set ?_ m0.out)|exact HB.out))) : w.heap.size ≤ j0));have n4_:= mk ((by rw [hg];exact (below_size (by repeat (first|(with_reducible first|exact HB.out|apply below_alloc|apply pw_below_drewN|apply below_drew1|refine below_set ?_ m0.out)|exact HB.out))) : w.heap.size ≤ j0));have n5_:= mk ((by rw [hg];exact Nat.ne_of_lt (blk_lt (g:= g0) (o:= .cells #[.slice q2 z0.length o2,.slice z2 q0.length v2,.slice k3 v0.length j3] 29 (0,0)) (ub d0.out)) : g0 ≠ j0));have n6_:= mk ((by rw [hg];exact Nat.ne_of_gt (blk_lt (g:= g0) (o:= .cells #[.slice q2 z0.length o2,.slice z2 q0.length v2,.slice k3 v0.length j3] 29 (0,0)) (ub d0.out)) : j0 ≠ g0));clear d0;clear HB;have d0:= n0_;have HB:= n1_;have k0:= n2_;have g7:= n3_;have b2:= n4_;have q1:= n5_;have o1:= n6_;clear n0_ n1_ n2_ n3_ n4_ n5_ n6_;clear hb hbox hg;have ga6:= q1.out;have za5:= o1.out;have ga3 : w16.cell? ⟨g0,0,none⟩ = some (.slice q2 z0.length o2):= (blk_cell d0.out 0).trans rfl;have da3 : w16.cell? ⟨g0,1,none⟩ = some (.slice z2 q0.length v2):= (blk_cell d0.out 1).trans rfl;have ba3 : w16.cell? ⟨g0,2,none⟩ = some (.slice k3 v0.length j3):= (blk_cell d0.out 2).trans rfl;have ya0:= blk_frozen d0.out 0;have va0:= blk_frozen d0.out 1;have sa0:= blk_frozen d0.out 2;have aa3 : w16.cell? ⟨j0,0,none⟩ = some (.slice y3 g3.length v3):= (blk_cell k0.out 0).trans rfl;have za2 : w16.cell? ⟨j0,1,none⟩ = some (.slice g4 d3.length z3):= (blk_cell k0.out 1).trans rfl;have ya2 : w16.cell? ⟨j0,2,none⟩ = some (.slice m4 b3.length k4):= (blk_cell k0.out 2).trans rfl;have qa0:= blk_frozen k0.out 0;have oa0:= blk_frozen k0.out 1;have ma0:= blk_frozen k0.out 2)|((with_reducible refine gate_callee (f:= 34) rfl ?_);refine goesL_ (some 9) rfl rfl Try.func34 (by kernel_rfl) rfl #[.slice q2 z0.length o2,.slice y3 g3.length v3] rfl (by (try simp only [List.map_toArray,List.map_cons,List.map_nil]);first|done|rfl|(simp only [List.length_drop,List.length_take];rfl)) ?_;(with_reducible refine (laws_eqIntS.calls k _ _ z0 _ _ g3 true _ ?side1 ?side2 ?side3 ?side4 A3.out).mono ?_);(case side1 => exact uc (Kd.C_below d5.out HB.out));(case side2 => exact j5.out);(case side3 => exact uc (Kd.C_below b5.out HB.out));(case side4 => exact g5.out);rintro e w' ⟨rfl,⟨nd,rfl⟩⟩;refine ⟨_,rfl,?_⟩)|((with_reducible refine gate_callee (f:= 34) rfl ?_);refine goesL_ (some 15) rfl rfl Try.func34 (by kernel_rfl) rfl #[.slice z2 q0.length v2,.slice g4 d3.length z3] rfl (by (try simp only [List.map_toArray,List.map_cons,List.map_nil]);first|done|rfl|(simp only [List.length_drop,List.length_take];rfl)) ?_;(with_reducible refine (laws_eqIntS.calls k _ _ q0 _ _ d3 true _ ?side1 ?side2 ?side3 ?side4 A5.out).mono ?_);(case side1 => exact uc (Kd.C_below a7.out (by repeat (first|(with_reducible first|exact HB.out|apply below_alloc|apply pw_below_drewN|apply below_drew1|refine below_set ?_ m0.out|refine below_set ?_ b2.out)|exact HB.out))));(case side2 => exact d7.out);(case side3 => exact uc (Kd.C_below z6.out (by repeat (first|(with_reducible first|exact HB.out|apply below_alloc|apply pw_below_drewN|apply below_drew1|refine below_set ?_ m0.out|refine below_set ?_ b2.out)|exact HB.out))));(case side4 => exact b7.out);rintro e w' ⟨rfl,⟨nd,rfl⟩⟩;refine ⟨_,rfl,?_⟩)|((with_reducible refine gate_callee (f:= 35) rfl ?_);refine goesL_ (some 21) rfl rfl Try.func35 (by kernel_rfl) rfl #[.slice k3 v0.length j3,.slice m4 b3.length k4] rfl (by (try simp only [List.map_toArray,List.map_cons,List.map_nil]);first|done|rfl|(simp only [List.length_drop,List.length_take];rfl)) ?_;(with_reducible refine (laws_eqPivotS.calls k _ _ v0 _ _ b3 false _ ?side1 ?side2 ?side3 ?side4 A7.out).mono ?_);(case side1 => exact uc (Kd.C_below m8.out (by repeat (first|(with_reducible first|exact HB.out|apply below_alloc|apply pw_below_drewN|apply below_drew1|refine below_set ?_ m0.out|refine below_set ?_ b2.out)|exact HB.out))));(case side2 => exact q8.out);(case side3 => exact uc (Kd.C_below k8.out (by repeat (first|(with_reducible first|exact HB.out|apply below_alloc|apply pw_below_drewN|apply below_drew1|refine below_set ?_ m0.out|refine below_set ?_ b2.out)|exact HB.out))));(case side4 => exact o8.out);rintro e w20 ⟨rfl,hb⟩;refine ⟨_,rfl,?_⟩;have n0_:= mk (blk_below (g:= g0) (o:= .cells #[.slice q2 z0.length o2,.slice z2 q0.length v2,.slice k3 v0.length j3] 29 (0,0)) (ub d0.out) hb);have n1_:= mk (blk_below (g:= j0) (o:= .cells #[.slice y3 g3.length v3,.slice g4 d3.length z3,.slice m4 b3.length k4] 29 (0,0)) (ub k0.out) hb);have n2_:= mk (below_step (by repeat (first|(with_reducible first|exact HB.out|apply below_alloc|apply pw_below_drewN|apply below_drew1|refine below_set ?_ m0.out|refine below_set ?_ b2.out)|exact HB.out)) hb);clear d0;clear k0;clear HB;have d0:= n0_;have k0:= n1_;have HB:= n2_;clear n0_ n1_ n2_;(try clear hb);(try clear hb2);(try clear hk);(try clear hi)))
        go_ret
        exact ⟨by first|rfl|(simp [errW_none,errW_some] <;> rfl)|(simp [*,errW_none,errW_some] <;> rfl),by repeat (first|(with_reducible first|exact HB.out|apply below_alloc|apply pw_below_drewN|apply below_drew1|refine below_set ?_ m0.out|refine below_set ?_ b2.out)|exact HB.out)⟩
    · replace c6:= Bool.eq_false_iff.mpr c6
      subst c6
      have H1 : (some false) = some r:= by rw [if_neg (show ¬ (false = true) by decide)] at H;exact H
      clear H
      have H:= H1
      clear H1
      obtain rfl:= Option.some.inj H
      go_enter Try.func10,Try.ntmps10
      go_wp2_with (first|((with_reducible refine gate_dst (N:= 2) rfl ?_);refine box_event ?hg (N:= 2) ?hd (cs:= #[.slice q2 z0.length o2,.slice z2 q0.length v2,.slice k3 v0.length j3]) (t:= 29) ?hr ?_;(case hd => rfl);(case hg => rfl);(case hr => first|(go_simp;done)|(go_simp;rfl));intro g0 hg w21 hbox hb;have n0_:= mk (below_step (by repeat (first|(with_reducible first|exact HB.out|apply below_alloc|apply pw_below_drewN|apply below_drew1)|exact HB.out)) hb);have n1_:= mk (hbox);have n2_:= mk ((by rw [hg];exact (below_size (by repeat (first|(with_reducible first|exact HB.out|apply below_alloc|apply pw_below_drewN|apply below_drew1)|exact HB.out))) : w.heap.size ≤ g0));have n3_:= mk ((by rw [hg];exact (below_size (by repeat (first|(with_reducible first|exact HB.out|apply below_alloc|apply pw_below_drewN|apply below_drew1)|exact HB.out))) : w.heap.size ≤ g0));clear HB;have HB:= n0_;have d0:= n1_;have j7:= n2_;have m0:= n3_;clear n0_ n1_ n2_ n3_;clear hb hbox hg)|((with_reducible refine gate_dst (N:= 3) rfl ?_);refine box_event ?hg (N:= 3) ?hd (cs:= #[.slice y3 g3.length v3,.slice g4 d3.length z3,.slice m4 b3.length k4]) (t:= 29) ?hr ?_;(case hd => rfl);(case hg => rfl);(case hr => first|(go_simp;done)|(go_simp;rfl));intro j0 hg w22 hbox hb;have n0_:= mk (blk_below (g:= g0) (o:= .cells #[.slice q2 z0.length o2,.slice z2 q0.length v2,.slice k3 v0.length j3] 29 (0,0)) (ub d0.out) hb);have n1_:= mk (below_step (by repeat (first|(with_reducible first|exact HB.out|apply below_alloc|apply pw_below_drewN|apply below_drew1|refine below_set ?_ m0.out)|exact HB.out)) hb);have n2_:= mk (hbox);have n3_:= mk ((by rw [hg];exact (below_size (by repeat (first|(with_reducible first|exact HB.out|apply below_alloc|apply pw_below_drewN|apply below_drew1|refine below_set ?_ m0.out)|exact HB.out))) : w.heap.size ≤ j0));have n4_:= mk ((by rw [hg];exact (below_size (by repeat (first|(with_reducible first|exact HB.out|apply below_alloc|apply pw_below_drewN|apply below_drew1|refine below_set ?_ m0.out)|exact HB.out))) : w.heap.size ≤ j0));have n5_:= mk ((by rw [hg];exact Nat.ne_of_lt (blk_lt (g:= g0) (o:= .cells #[.slice q2 z0.length o2,.slice z2 q0.length v2,.slice k3 v0.length j3] 29 (0,0)) (ub d0.out)) : g0 ≠ j0));have n6_:= mk ((by rw [hg];exact Nat.ne_of_gt (blk_lt (g:= g0) (o:= .cells #[.slice q2 z0.length o2,.slice z2 q0.length v2,.slice k3 v0.length j3] 29 (0,0)) (ub d0.out)) : j0 ≠ g0));clear d0;clear HB;have d0:= n0_;have HB:= n1_;have k0:= n2_;have g7:= n3_;have b2:= n4_;have q1:= n5_;have o1:= n6_;clear n0_ n1_ n2_ n3_ n4_ n5_ n6_;clear hb hbox hg;have da6:= q1.out;have ya5:= o1.out;have va2 : w22.cell? ⟨g0,0,none⟩ = some (.slice q2 z0.length o2):= (blk_cell d0.out 0).trans rfl;have sa2 : w22.cell? ⟨g0,1,none⟩ = some (.slice z2 q0.length v2):= (blk_cell d0.out 1).trans rfl;have qa2 : w22.cell? ⟨g0,2,none⟩ = some (.slice k3 v0.length j3):= (blk_cell d0.out 2).trans rfl;have ka0:= blk_frozen d0.out 0;have ja0:= blk_frozen d0.out 1;have ga0:= blk_frozen d0.out 2;have oa2 : w22.cell? ⟨j0,0,none⟩ = some (.slice y3 g3.length v3):= (blk_cell k0.out 0).trans rfl;have ma2 : w22.cell? ⟨j0,1,none⟩ = some (.slice g4 d3.length z3):= (blk_cell k0.out 1).trans rfl;have ka2 : w22.cell? ⟨j0,2,none⟩ = some (.slice m4 b3.length k4):= (blk_cell k0.out 2).trans rfl;have da0:= blk_frozen k0.out 0;have ba0:= blk_frozen k0.out 1;have aa0:= blk_frozen k0.out 2)|((with_reducible refine gate_callee (f:= 34) rfl ?_);refine goesL_ (some 9) rfl rfl Try.func34 (by kernel_rfl) rfl #[.slice q2 z0.length o2,.slice y3 g3.length v3] rfl (by (try simp only [List.map_toArray,List.map_cons,List.map_nil]);first|done|rfl|(simp only [List.length_drop,List.length_take];rfl)) ?_;(with_reducible refine (laws_eqIntS.calls k _ _ z0 _ _ g3 true _ ?side1 ?side2 ?side3 ?side4 A3.out).mono ?_);(case side1 => exact uc (Kd.C_below d5.out HB.out));(case side2 => exact j5.out);(case side3 => exact uc (Kd.C_below b5.out HB.out));(case side4 => exact g5.out);rintro e w' ⟨rfl,⟨nd,rfl⟩⟩;refine ⟨_,rfl,?_⟩)|((with_reducible refine gate_callee (f:= 34) rfl ?_);refine goesL_ (some 15) rfl rfl Try.func34 (by kernel_rfl) rfl #[.slice z2 q0.length v2,.slice g4 d3.length z3] rfl (by (try simp only [List.map_toArray,List.map_cons,List.map_nil]);first|done|rfl|(simp only [List.length_drop,List.length_take];rfl)) ?_;(with_reducible refine (laws_eqIntS.calls k _ _ q0 _ _ d3 false _ ?side1 ?side2 ?side3 ?side4 A5.out).mono ?_);(case side1 => exact uc (Kd.C_below a7.out (by repeat (first|(with_reducible first|exact HB.out|apply below_alloc|apply pw_below_drewN|apply below_drew1|refine below_set ?_ m0.out|refine below_set ?_ b2.out)|exact HB.out))));(case side2 => exact d7.out);(case side3 => exact uc (Kd.C_below z6.out (by repeat (first|(with_reducible first|exact HB.out|apply below_alloc|apply pw_below_drewN|apply below_drew1|refine below_set ?_ m0.out|refine below_set ?_ b2.out)|exact HB.out))));(case side4 => exact b7.out);rintro e w' ⟨rfl,⟨nd,rfl⟩⟩;refine ⟨_,rfl,?_⟩))
      go_ret
      exact ⟨by first|rfl|(simp [errW_none,errW_some] <;> rfl)|(simp [*,errW_none,errW_some] <;> rfl),by repeat (first|(with_reducible first|exact HB.out|apply below_alloc|apply pw_below_drewN|apply below_drew1|refine below_set ?_ m0.out|refine below_set ?_ b2.out)|exact HB.out)⟩
  · replace c4:= Bool.eq_false_iff.mpr c4
    subst c4
    have H1 : (some false) = some r:= by rw [if_neg (show ¬ (false = true) by decide)] at H;exact H
    clear H
    have H:= H1
    clear H1
    obtain rfl:= Option.some.inj H
    go_enter Try.func10,Try.ntmps10
    go_wp2_with (first|((with_reducible refine gate_dst (N:= 2) rfl ?_);refine box_event ?hg (N:= 2) ?hd (cs:= #[.slice q2 z0.length o2,.slice z2 q0.length v2,.slice k3 v0.length j3]) (t:= 29) ?hr ?_;(case hd => rfl);(case hg => rfl);(case hr => first|(go_simp;done)|(go_simp;rfl));intro g0 hg w26 hbox hb;have n0_:= mk (below_step (by repeat (first|(with_reducible first|exact HB.out|apply below_alloc|apply pw_below_drewN|apply below_drew1)|exact HB.out)) hb);have n1_:= mk (hbox);have n2_:= mk ((by rw [hg];exact (below_size (by repeat (first|(with_reducible first|exact HB.out|apply below_alloc|apply pw_below_drewN|apply below_drew1)|exact HB.out))) : w.heap.size ≤ g0));have n3_:= mk ((by rw [hg];exact (below_size (by repeat (first|(with_reducible first|exact HB.out|apply below_alloc|apply pw_below_drewN|apply below_drew1)|exact HB.out))) : w.heap.size ≤ g0));clear HB;have HB:= n0_;have d0:= n1_;have j7:= n2_;have m0:= n3_;clear n0_ n1_ n2_ n3_;clear hb hbox hg)|((with_reducible refine gate_dst (N:= 3) rfl ?_);refine box_event ?hg (N:= 3) ?hd (cs:= #[.slice y3 g3.length v3,.slice g4 d3.length z3,.slice m4 b3.length k4]) (t:= 29) ?hr ?_;(case hd => rfl);(case hg => rfl);(case hr => first|(go_simp;done)|(go_simp;rfl));intro j0 hg w27 hbox hb;have n0_:= mk (blk_below (g:= g0) (o:= .cells #[.slice q2 z0.length o2,.slice z2 q0.length v2,.slice k3 v0.length j3] 29 (0,0)) (ub d0.out) hb);have n1_:= mk (below_step (by repeat (first|(with_reducible first|exact HB.out|apply below_alloc|apply pw_below_drewN|apply below_drew1|refine below_set ?_ m0.out)|exact HB.out)) hb);have n2_:= mk (hbox);have n3_:= mk ((by rw [hg];exact (below_size (by repeat (first|(with_reducible first|exact HB.out|apply below_alloc|apply pw_below_drewN|apply below_drew1|refine below_set ?_ m0.out)|exact HB.out))) : w.heap.size ≤ j0));have n4_:= mk ((by rw [hg];exact (below_size (by repeat (first|(with_reducible first|exact HB.out|apply below_alloc|apply pw_below_drewN|apply below_drew1|refine below_set ?_ m0.out)|exact HB.out))) : w.heap.size ≤ j0));have n5_:= mk ((by rw [hg];exact Nat.ne_of_lt (blk_lt (g:= g0) (o:= .cells #[.slice q2 z0.length o2,.slice z2 q0.length v2,.slice k3 v0.length j3] 29 (0,0)) (ub d0.out)) : g0 ≠ j0));have n6_:= mk ((by rw [hg];exact Nat.ne_of_gt (blk_lt (g:= g0) (o:= .cells #[.slice q2 z0.length o2,.slice z2 q0.length v2,.slice k3 v0.length j3] 29 (0,0)) (ub d0.out)) : j0 ≠ g0));clear d0;clear HB;have d0:= n0_;have HB:= n1_;have k0:= n2_;have g7:= n3_;have b2:= n4_;have q1:= n5_;have o1:= n6_;clear n0_ n1_ n2_ n3_ n4_ n5_ n6_;clear hb hbox hg;have ba6:= q1.out;have va5:= o1.out;have ja2 : w27.cell? ⟨g0,0,none⟩ = some (.slice q2 z0.length o2):= (blk_cell d0.out 0).trans rfl;have ga2 : w27.cell? ⟨g0,1,none⟩ = some (.slice z2 q0.length v2):= (blk_cell d0.out 1).trans rfl;have da2 : w27.cell? ⟨g0,2,none⟩ = some (.slice k3 v0.length j3):= (blk_cell d0.out 2).trans rfl;have z9:= blk_frozen d0.out 0;have y9:= blk_frozen d0.out 1;have v9:= blk_frozen d0.out 2;have ba2 : w27.cell? ⟨j0,0,none⟩ = some (.slice y3 g3.length v3):= (blk_cell k0.out 0).trans rfl;have aa2 : w27.cell? ⟨j0,1,none⟩ = some (.slice g4 d3.length z3):= (blk_cell k0.out 1).trans rfl;have za1 : w27.cell? ⟨j0,2,none⟩ = some (.slice m4 b3.length k4):= (blk_cell k0.out 2).trans rfl;have s9:= blk_frozen k0.out 0;have q9:= blk_frozen k0.out 1;have o9:= blk_frozen k0.out 2)|((with_reducible refine gate_callee (f:= 34) rfl ?_);refine goesL_ (some 9) rfl rfl Try.func34 (by kernel_rfl) rfl #[.slice q2 z0.length o2,.slice y3 g3.length v3] rfl (by (try simp only [List.map_toArray,List.map_cons,List.map_nil]);first|done|rfl|(simp only [List.length_drop,List.length_take];rfl)) ?_;(with_reducible refine (laws_eqIntS.calls k _ _ z0 _ _ g3 false _ ?side1 ?side2 ?side3 ?side4 A3.out).mono ?_);(case side1 => exact uc (Kd.C_below d5.out HB.out));(case side2 => exact j5.out);(case side3 => exact uc (Kd.C_below b5.out HB.out));(case side4 => exact g5.out);rintro e w' ⟨rfl,⟨nd,rfl⟩⟩;refine ⟨_,rfl,?_⟩))
    go_ret
    exact ⟨by first|rfl|(simp [errW_none,errW_some] <;> rfl)|(simp [*,errW_none,errW_some] <;> rfl),by repeat (first|(with_reducible first|exact HB.out|apply below_alloc|apply pw_below_drewN|apply below_drew1|refine below_set ?_ m0.out|refine below_set ?_ b2.out)|exact HB.out)⟩

/-! ### laws_markIntS: function 36 -/
def laws_markIntS.l0 : Nat → List Int → Int → Int → Option (Int × List Int)
  | 0, _, _, _ => none
  | k + 1, x0, x1, x5 => if x5 < (x0.length : Int) then (if 0 ≤ x5 then (laws_markIntS.l0 k (x0.set (x5 : Int).toNat x1) (wrap64 (x1 + 1)) (wrap64 (x5 + 1))) else (none)) else (some (x1, x0))
def laws_markIntS.f (k : Nat) (l0 : List Int) (a1 : Int) : Option (Int × List Int) := laws_markIntS.l0 k l0 a1 0
theorem laws_markIntS.mono_l : ∀ k, (∀ y0 y1 y2, LeO (laws_markIntS.l0 k y0 y1 y2) (laws_markIntS.l0 (k + 1) y0 y1 y2))
  | 0 => fun _ _ _ r h => by simp [laws_markIntS.l0] at h
  | k + 1 => by
    have ih0 := laws_markIntS.mono_l k
    · intro y0 y1 y2
      unfold laws_markIntS.l0
      repeat' first
      | (with_reducible exact ih0 _ _ _)
      | (with_reducible exact LeO.refl _)
      | (with_reducible exact LeO.none _)
      | (with_reducible refine LeO.ite ?_ ?_)
      | (with_reducible refine LeO.bind ?_ (fun _ => ?_))
      | exact ih0 _ _ _
      | exact LeO.none _
      | refine LeO.ite ?_ ?_
      | refine LeO.bind ?_ (fun _ => ?_)
theorem laws_markIntS.mono : ∀ a0 a1 k, LeO (laws_markIntS.f k a0 a1) (laws_markIntS.f (k + 1) a0 a1) := by
  intro a0 a1 k
  have ih0:= laws_markIntS.mono_l k
  unfold laws_markIntS.f
  repeat' first
     |(with_reducible exact ih0 _ _ _)
     |(with_reducible exact LeO.refl _)
     |(with_reducible exact LeO.none _)
     |(with_reducible refine LeO.ite ?_ ?_)
     |(with_reducible refine LeO.bind ?_ (fun _ => ?_))
     |exact ih0 _ _ _
     |exact LeO.none _
     |refine LeO.ite ?_ ?_
     |refine LeO.bind ?_ (fun _ => ?_)
set_option maxHeartbeats 8000000 in
set_option maxRecDepth 100000 in
theorem laws_markIntS.calls (k : Nat) (P0_ : Nat → Prop) (u9000_ : Value) (l0 : List Int) (a1 : Int) (r1 : Int) (r2 : List Int) (w0 w : World) (hB : Below w0.heap.size w0 w) (ho0 : Kd.R (Kd.int .i64) 3 w w0.heap.size P0_ u9000_ l0) (h : laws_markIntS.f k l0 a1 = some (r1, r2)) :
    Calls Try.prog 36 #[u9000_, .int .i64 a1] w fun e w' => e = .returned (.int .i64 r1) ∧ Kd.R (Kd.int .i64) 3 w' w0.heap.size (fun k_ => (P0_ k_ ∨ w.heap.size ≤ k_)) u9000_ r2 ∧ Below w0.heap.size w0 w' ∧ Kept w w' (fun k_ => P0_ k_) := by
  have HO0:= mk (show Kd.R (Kd.int .i64) 3 w w0.heap.size (fun k_ => (P0_ k_ ∨ w.heap.size ≤ k_)) u9000_ l0 from Kd.R_mono ho0 (fun k_ hk => (.inl hk)))
  have HK:= mk (Kept.refl w (fun k_ => P0_ k_))
  have HW0:= mk hB.size
  have HB:= mk hB
  clear hB
  have H : (laws_markIntS.l0 k l0 a1 0) = some (r1,r2):= h
  clear h
  have H':= mk H
  clear H
  go_enter Try.func36,Try.ntmps36
  go_wp2
  go_loopg [1,5] k (fun kq v1 v5 w' => ∃ (k2 : List Int) (j2 : Int) (b0 : Int),v1 = .int .i64 j2 ∧ v5 = .int .i64 b0 ∧ Aside0 (laws_markIntS.l0 kq k2 j2 b0 = some (r1,r2)) ∧ Aside0 (kq ≤ k) ∧ Aside0 (Kd.R (Kd.int .i64) 3 w' w0.heap.size (fun k_ => (P0_ k_ ∨ w.heap.size ≤ k_)) u9000_ k2) ∧ Aside0 (Kept w w' (fun k_ => P0_ k_)) ∧ Aside0 (Below w0.heap.size w0 w'))
  case atStart => exact ⟨(l0),(a1),(0),(by first|rfl|(simp;done)|(simp [*];done)),(by first|rfl|(simp;done)|(simp [*];done)),H',⟨Nat.le_refl _⟩,⟨up HO0.out⟩,⟨by repeat (first|(with_reducible first|exact HK.out|apply Kept.alloc|apply Kept.drewN|apply Kept.drew)|exact HK.out)⟩,⟨by repeat (first|(with_reducible first|exact HB.out|apply below_alloc|apply pw_below_drewN|apply below_drew1)|exact HB.out)⟩⟩
  case round =>
    clear H'
    try clear p2
    obtain ⟨k2,j2,b0,rfl,rfl,HA,HK1,m2,HK,HB⟩:= hrel
    cases gk with
   |zero => exact absurd HA.out (by simp [laws_markIntS.l0])
   |succ k1 =>
      have H:= HA.out
      clear HA
      simp only [laws_markIntS.l0] at H
      by_cases c3 : b0 < (k2.length : Int)
      · rw [if_pos c3] at H
        have o5 : decide (b0 < (k2.length : Int)) = true:= decide_eq_true c3
        clear c3
        by_cases c4 : 0 ≤ b0
        · rw [if_pos c4] at H
          have a9 : decide (0 ≤ b0) = true:= decide_eq_true c4
          clear c4
          obtain ⟨d9,v4⟩ : ∃ y_ : List Int,y_ = (k2.set (b0 : Int).toNat j2):= ⟨_,rfl⟩
          replace H : (laws_markIntS.l0 k1 d9 (wrap64 (j2 + 1)) (wrap64 (b0 + 1))) = some (r1,r2):= by first|(rw [v4];with_reducible exact H)|(have H2_:= (Option.bind_some _ _).symm.trans H;rw [v4];with_reducible exact H2_)|(have H2_:= (Option.bind_some _ _).symm.trans H;with_reducible exact H2_)|with_reducible exact H|(rw [v4];exact H)|exact H
          have sa4:= mk v4
          clear v4
          have H':= mk H
          clear H
          obtain ⟨Ao6,co6,eo6⟩:= Kd.R_slice m2.out
          subst eo6
          have p5 : 0 ≤ (b0 : Int):= of_decide_eq_true (by first|(with_reducible assumption)|assumption)
          have q5 : (b0 : Int) < ((k2.length : Int) : Int):= of_decide_eq_true (by first|(with_reducible assumption)|assumption)
          obtain ⟨go5,co5,eo5,gb5,gl5,cl5,HG5⟩:= Kd.R_form m2.out (by omega)
          (first|cases eo5|(injection eo5 with ea_ en_ ec_;(first|subst ea_|(injection ea_ with ea_;subst ea_));subst ec_;clear en_))
          have GB5:= mk gb5
          have GG5:= mk HG5
          clear gb5 gl5 HG5
          have HMgo5:= mk (show (P0_ go5 ∨ w.heap.size ≤ go5) from (m2.out.1 _ rfl))
          obtain ⟨k9,ya1⟩:= Kd.R_celln 0 m2.out (b0 : Int) p5 q5
          replace p5:= eq_true p5
          replace q5:= eq_true q5
          have HP7:= Kd.R_putg m2.out (b0 : Int) j2
          go_wp2_with (first|((with_reducible refine gate_store (t:= 3) (p:= 15) rfl ?_);refine store_event (t:= 3) (p:= 15) (v:= ?vo_w8) (w1:= (wr.setCell ⟨go5,(b0 : Int).toNat,none⟩ (.int .i64 j2))) ?hg ?ho ?hn ?hr ?_;(case ho => rfl);(case hg => rfl);(case hn => rfl);(case hr => first|(go_simp;done)|(go_simp;rfl));intro w8 hw;have hg : wr.grownBy w8 (some go5):= (by rw [hw];exact HP7.2);have hp_ : Kd.R (Kd.int .i64) 3 w8 w0.heap.size (fun k_ => (P0_ k_ ∨ w.heap.size ≤ k_)) (.slice (some ⟨go5,0,none⟩) k2.length co6) d9:= (by rw [hw,sa4.out];exact HP7.1);clear HP7;have n0_:= mk (hp_);have n1_:= mk ((by rw [hw];exact below_set (HB.out) GB5.out : Below w0.heap.size w0 w8));have n2_:= mk (Kept.of_grown (S:= (fun k_ => P0_ k_)) hg (by repeat (first|(with_reducible first|exact HK.out|apply Kept.alloc|apply Kept.drewN|apply Kept.drew)|exact HK.out)) (fun k_ e_ => (m2.out.1 k_ e_)));clear m2;clear HB;clear HK;have m2:= n0_;have HB:= n1_;have HK:= n2_;clear n0_ n1_ n2_;clear hg hw hp_))
          go_roundg k1
          case measure => have:= HK1.out;omega
          case rel => exact ⟨(d9),(wrap64 (j2 + 1)),(wrap64 (b0 + 1)),(by first|rfl|(simp;done)|(simp [*];done)),(by first|rfl|(simp;done)|(simp [*];done)),H',⟨by have:= HK1.out;omega⟩,⟨up m2.out⟩,⟨by repeat (first|(with_reducible first|exact HK.out|apply Kept.alloc|apply Kept.drewN|apply Kept.drew)|exact HK.out)⟩,⟨by repeat (first|(with_reducible first|exact HB.out|apply below_alloc|apply pw_below_drewN|apply below_drew1)|exact HB.out)⟩⟩
        · rw [if_neg c4] at H
          exact absurd H (by simp)
      · rw [if_neg c3] at H
        have o5 : decide (b0 < (k2.length : Int)) = false:= decide_eq_false c3
        clear c3
        simp only [Option.some.injEq,Prod.mk.injEq] at H
        obtain ⟨rfl,rfl⟩:= H
        obtain ⟨Ao9,co9,eo9⟩:= Kd.R_slice m2.out
        subst eo9
        go_wp2
        go_ret
        exact ⟨by first|rfl|(simp [errW_none,errW_some] <;> rfl)|(simp [*,errW_none,errW_some] <;> rfl),up m2.out,by repeat (first|(with_reducible first|exact HB.out|apply below_alloc|apply pw_below_drewN|apply below_drew1)|exact HB.out),by repeat (first|(with_reducible first|exact HK.out|apply Kept.alloc|apply Kept.drewN|apply Kept.drew)|exact HK.out)⟩

/-! ### laws_markPivotS: function 37 -/
def laws_markPivotS.l0 : Nat → List (S50) → Int → Int → Option (Int × (List (S50)))
  | 0, _, _, _ => none
  | k + 1, x0, x1, x5 => if x5 < (x0.length : Int) then (if 0 ≤ x5 then ((some (x0.set (x5 : Int).toNat (⟨x1, (rd_T50 x0 x5).f1⟩ : S50) : List (S50))).bind fun o4 => (laws_markPivotS.l0 k (o4.set (x5 : Int).toNat (⟨(rd_T50 o4 x5).f0, wrap64 (x1 + 1)⟩ : S50)) (wrap64 ((wrap64 (x1 + 1)) + 1)) (wrap64 (x5 + 1)))) else (none)) else (some (x1, x0))
def laws_markPivotS.f (k : Nat) (l0 : List (S50)) (a1 : Int) : Option (Int × (List (S50))) := laws_markPivotS.l0 k l0 a1 0
theorem laws_markPivotS.mono_l : ∀ k, (∀ y0 y1 y2, LeO (laws_markPivotS.l0 k y0 y1 y2) (laws_markPivotS.l0 (k + 1) y0 y1 y2))
  | 0 => fun _ _ _ r h => by simp [laws_markPivotS.l0] at h
  | k + 1 => by
    have ih0 := laws_markPivotS.mono_l k
    · intro y0 y1 y2
      unfold laws_markPivotS.l0
      repeat' first
      | (with_reducible exact ih0 _ _ _)
      | (with_reducible exact LeO.refl _)
      | (with_reducible exact LeO.none _)
      | (with_reducible refine LeO.ite ?_ ?_)
      | (with_reducible refine LeO.bind ?_ (fun _ => ?_))
      | exact ih0 _ _ _
      | exact LeO.none _
      | refine LeO.ite ?_ ?_
      | refine LeO.bind ?_ (fun _ => ?_)
theorem laws_markPivotS.mono : ∀ a0 a1 k, LeO (laws_markPivotS.f k a0 a1) (laws_markPivotS.f (k + 1) a0 a1) := by
  intro a0 a1 k
  have ih0:= laws_markPivotS.mono_l k
  unfold laws_markPivotS.f
  repeat' first
     |(with_reducible exact ih0 _ _ _)
     |(with_reducible exact LeO.refl _)
     |(with_reducible exact LeO.none _)
     |(with_reducible refine LeO.ite ?_ ?_)
     |(with_reducible refine LeO.bind ?_ (fun _ => ?_))
     |exact ih0 _ _ _
     |exact LeO.none _
     |refine LeO.ite ?_ ?_
     |refine LeO.bind ?_ (fun _ => ?_)
set_option maxHeartbeats 8000000 in
set_option maxRecDepth 100000 in
theorem laws_markPivotS.calls (k : Nat) (P0_ : Nat → Prop) (u9000_ : Value) (l0 : List (S50)) (a1 : Int) (r1 : Int) (r2 : List (S50)) (w0 w : World) (hB : Below w0.heap.size w0 w) (ho0 : Kd.R k50 50 w w0.heap.size P0_ u9000_ l0) (h : laws_markPivotS.f k l0 a1 = some (r1, r2)) :
    Calls Try.prog 37 #[u9000_, .int .i64 a1] w fun e w' => e = .returned (.int .i64 r1) ∧ Kd.R k50 50 w' w0.heap.size (fun k_ => (P0_ k_ ∨ w.heap.size ≤ k_)) u9000_ r2 ∧ Below w0.heap.size w0 w' ∧ Kept w w' (fun k_ => P0_ k_) := by
  have HO0:= mk (show Kd.R k50 50 w w0.heap.size (fun k_ => (P0_ k_ ∨ w.heap.size ≤ k_)) u9000_ l0 from Kd.R_mono ho0 (fun k_ hk => (.inl hk)))
  have HK:= mk (Kept.refl w (fun k_ => P0_ k_))
  have HW0:= mk hB.size
  have HB:= mk hB
  clear hB
  have H : (laws_markPivotS.l0 k l0 a1 0) = some (r1,r2):= h
  clear h
  have H':= mk H
  clear H
  go_enter Try.func37,Try.ntmps37
  go_wp2
  go_loopg [1,5] k (fun kq v1 v5 w' => ∃ (k2 : List (S50)) (j2 : Int) (b0 : Int),v1 = .int .i64 j2 ∧ v5 = .int .i64 b0 ∧ Aside0 (laws_markPivotS.l0 kq k2 j2 b0 = some (r1,r2)) ∧ Aside0 (kq ≤ k) ∧ Aside0 (Kd.R k50 50 w' w0.heap.size (fun k_ => (P0_ k_ ∨ w.heap.size ≤ k_)) u9000_ k2) ∧ Aside0 (Kept w w' (fun k_ => P0_ k_)) ∧ Aside0 (Below w0.heap.size w0 w'))
  case atStart => exact ⟨(l0),(a1),(0),(by first|rfl|(simp;done)|(simp [*];done)),(by first|rfl|(simp;done)|(simp [*];done)),H',⟨Nat.le_refl _⟩,⟨up HO0.out⟩,⟨by repeat (first|(with_reducible first|exact HK.out|apply Kept.alloc|apply Kept.drewN|apply Kept.drew)|exact HK.out)⟩,⟨by repeat (first|(with_reducible first|exact HB.out|apply below_alloc|apply pw_below_drewN|apply below_drew1)|exact HB.out)⟩⟩
  case round =>
    clear H'
    try clear p2
    obtain ⟨k2,j2,b0,rfl,rfl,HA,HK1,m2,HK,HB⟩:= hrel
    cases gk with
   |zero => exact absurd HA.out (by simp [laws_markPivotS.l0])
   |succ k1 =>
      have H:= HA.out
      clear HA
      simp only [laws_markPivotS.l0] at H
      by_cases c3 : b0 < (k2.length : Int)
      · rw [if_pos c3] at H
        have o5 : decide (b0 < (k2.length : Int)) = true:= decide_eq_true c3
        clear c3
        by_cases c4 : 0 ≤ b0
        · rw [if_pos c4] at H
          have a9 : decide (0 ≤ b0) = true:= decide_eq_true c4
          clear c4
          obtain ⟨o4,s4⟩ : ∃ y_ : List (S50),y_ = (k2.set (b0 : Int).toNat (⟨j2,(rd_T50 k2 b0).f1⟩ : S50)):= ⟨_,rfl⟩
          replace H : (laws_markPivotS.l0 k1 (o4.set (b0 : Int).toNat (⟨(rd_T50 o4 b0).f0,wrap64 (j2 + 1)⟩ : S50)) (wrap64 ((wrap64 (j2 + 1)) + 1)) (wrap64 (b0 + 1))) = some (r1,r2):= by first|(rw [s4];with_reducible exact H)|(have H2_:= (Option.bind_some _ _).symm.trans H;rw [s4];with_reducible exact H2_)|(have H2_:= (Option.bind_some _ _).symm.trans H;with_reducible exact H2_)|with_reducible exact H|(rw [s4];exact H)|exact H
          have qa4:= mk s4
          clear s4
          obtain ⟨b9,q4⟩ : ∃ y_ : List (S50),y_ = (o4.set (b0 : Int).toNat (⟨(rd_T50 o4 b0).f0,wrap64 (j2 + 1)⟩ : S50)):= ⟨_,rfl⟩
          replace H : (laws_markPivotS.l0 k1 b9 (wrap64 ((wrap64 (j2 + 1)) + 1)) (wrap64 (b0 + 1))) = some (r1,r2):= by first|(rw [q4];with_reducible exact H)|(have H2_:= (Option.bind_some _ _).symm.trans H;rw [q4];with_reducible exact H2_)|(have H2_:= (Option.bind_some _ _).symm.trans H;with_reducible exact H2_)|with_reducible exact H|(rw [q4];exact H)|exact H
          have oa4:= mk q4
          clear q4
          have H':= mk H
          clear H
          obtain ⟨Ao7,co7,eo7⟩:= Kd.R_slice m2.out
          subst eo7
          have p5 : 0 ≤ (b0 : Int):= of_decide_eq_true (by first|(with_reducible assumption)|assumption)
          have q5 : (b0 : Int) < ((k2.length : Int) : Int):= of_decide_eq_true (by first|(with_reducible assumption)|assumption)
          obtain ⟨go5,co5,eo5,gb5,gl5,cl5,HG5⟩:= Kd.R_form m2.out (by omega)
          (first|cases eo5|(injection eo5 with ea_ en_ ec_;(first|subst ea_|(injection ea_ with ea_;subst ea_));subst ec_;clear en_))
          have GB5:= mk gb5
          have GG5:= mk HG5
          clear gb5 gl5 HG5
          have HMgo5:= mk (show (P0_ go5 ∨ w.heap.size ≤ go5) from (m2.out.1 _ rfl))
          obtain ⟨ce5,sa6,hM5,da4,sa1⟩:= Kd.R_elem m2.out z50 (b0 : Int) p5 q5
          obtain rfl:= k50_openM hM5
          have k9 : wr.cell? ⟨go5,(b0 : Int).toNat * 2,none⟩ = some (.int .i64 ((rd_T50 k2 b0).f0)):= da4 0 _ rfl
          have sa5 : wr.cell? ⟨go5,(b0 : Int).toNat * 2 + 1,none⟩ = some (.int .i64 ((rd_T50 k2 b0).f1)):= da4 1 _ rfl
          have ya1 : wr.frozen? ⟨go5,(b0 : Int).toNat * 2,none⟩ = false:= sa1 0
          have oa6 : wr.frozen? ⟨go5,(b0 : Int).toNat * 2 + 1,none⟩ = false:= sa1 1
          clear sa6 da4 sa1 hM5
          replace p5:= eq_true p5
          replace q5:= eq_true q5
          have HX8:= mk (show Kd.R k50 50 wr w0.heap.size (fun k_ => (P0_ k_ ∨ w.heap.size ≤ k_)) (.slice (some ⟨go5,0,none⟩) k2.length co7) k2 from (up m2.out))
          obtain ⟨ce8,ba5,hM8,aa4,aa5⟩:= Kd.R_elem HX8.out z50 (b0 : Int) (of_decide_eq_true (by first|(with_reducible assumption)|assumption)) (by have h_ : (b0 : Int) < ((k2.length : Int) : Int):= of_decide_eq_true (by first|(with_reducible assumption)|assumption);first|exact h_|(have e_:= (Kd.R_reads' m2.out).1;omega)|simpa using h_)
          obtain rfl:= k50_openM hM8
          have HP8:= Kd.R_seg HX8.out (b0 : Int) (of_decide_eq_true (by first|(with_reducible assumption)|assumption)) (by have h_ : (b0 : Int) < ((k2.length : Int) : Int):= of_decide_eq_true (by first|(with_reducible assumption)|assumption);first|exact h_|(have e_:= (Kd.R_reads' m2.out).1;omega)|simpa using h_) (seg:= [.int .i64 j2]) (j:= 0) ba5 aa4 (show 1 ≤ 2 from by decide) (x':= (⟨j2,(rd_T50 k2 b0).f1⟩ : S50)) (k50_mkM _ _ _ (⟨j2,(rd_T50 k2 b0).f1⟩ : S50) ) (fun _ hk => hk)
          have j9:= aa4 0 _ rfl
          (try simp only [show (k50).sz = 2 from rfl,Nat.mul_one,Nat.add_zero] at j9)
          have va1:= aa5 0
          (try simp only [show (k50).sz = 2 from rfl,Nat.mul_one,Nat.add_zero] at va1)
          clear ba5 aa4 aa5 hM8
          go_wp2_with (first|((with_reducible refine gate_store (t:= 3) (p:= 16) rfl ?_);refine store_event (t:= 3) (p:= 16) (v:= ?vo_w9) (w1:= (wr.setCell ⟨go5,(b0 : Int).toNat * 2,none⟩ (.int .i64 j2))) ?hg ?ho ?hn ?hr ?_;(case ho => rfl);(case hg => rfl);(case hn => rfl);(case hr => first|(go_simp;done)|(go_simp;rfl));intro w9 hw;have hg : wr.grownBy w9 (some go5):= (by rw [hw];exact HP8.2);have hp_ : Kd.R k50 50 w9 w0.heap.size (fun k_ => (P0_ k_ ∨ w.heap.size ≤ k_)) (.slice (some ⟨go5,0,none⟩) k2.length co7) o4:= (by rw [hw,qa4.out];exact HP8.1);clear HP8;have n0_:= mk (hp_);have n1_:= mk ((by rw [hw];exact below_set (HB.out) GB5.out : Below w0.heap.size w0 w9));have n2_:= mk (Kept.of_grown (S:= (fun k_ => P0_ k_)) hg (by repeat (first|(with_reducible first|exact HK.out|apply Kept.alloc|apply Kept.drewN|apply Kept.drew)|exact HK.out)) (fun k_ e_ => (m2.out.1 k_ e_)));clear m2;clear HB;clear HK;have m2:= n0_;have HB:= n1_;have HK:= n2_;clear n0_ n1_ n2_;clear hg hw hp_;have p6 : 0 ≤ (b0 : Int):= of_decide_eq_true (by first|(with_reducible assumption)|assumption);have q6 : (b0 : Int) < ((k2.length : Int) : Int):= of_decide_eq_true (by first|(with_reducible assumption)|assumption);obtain ⟨ce6,qa6,hM6,ba4,qa1⟩:= Kd.R_elem m2.out z50 (b0 : Int) p6 q6;obtain rfl:= k50_openM hM6;have qa5 : w9.cell? ⟨go5,(b0 : Int).toNat * 2,none⟩ = some (.int .i64 ((rd_T50 o4 b0).f0)):= ba4 0 _ rfl;have oa5 : w9.cell? ⟨go5,(b0 : Int).toNat * 2 + 1,none⟩ = some (.int .i64 ((rd_T50 o4 b0).f1)):= ba4 1 _ rfl;have ma6 : w9.frozen? ⟨go5,(b0 : Int).toNat * 2,none⟩ = false:= qa1 0;have ka6 : w9.frozen? ⟨go5,(b0 : Int).toNat * 2 + 1,none⟩ = false:= qa1 1;clear qa6 ba4 qa1 hM6;replace p6:= eq_true p6;replace q6:= eq_true q6;have ma5:= mk (show Kd.R k50 50 w9 w0.heap.size (fun k_ => (P0_ k_ ∨ w.heap.size ≤ k_)) (.slice (some ⟨go5,0,none⟩) k2.length co7) o4 from (up m2.out));obtain ⟨aa7,j8,da5,y6,d8⟩:= Kd.R_elem ma5.out z50 (b0 : Int) (of_decide_eq_true (by first|(with_reducible assumption)|assumption)) (by have h_ : (b0 : Int) < ((k2.length : Int) : Int):= of_decide_eq_true (by first|(with_reducible assumption)|assumption);first|exact h_|(have e_:= (Kd.R_reads' m2.out).1;omega)|simpa using h_);obtain rfl:= k50_openM da5;have va4:= Kd.R_seg ma5.out (b0 : Int) (of_decide_eq_true (by first|(with_reducible assumption)|assumption)) (by have h_ : (b0 : Int) < ((k2.length : Int) : Int):= of_decide_eq_true (by first|(with_reducible assumption)|assumption);first|exact h_|(have e_:= (Kd.R_reads' m2.out).1;omega)|simpa using h_) (seg:= [.int .i64 (wrap64 (j2 + 1))]) (j:= 1) j8 y6 (show 2 ≤ 2 from by decide) (x':= (⟨(rd_T50 o4 b0).f0,wrap64 (j2 + 1)⟩ : S50)) (k50_mkM _ _ _ (⟨(rd_T50 o4 b0).f0,wrap64 (j2 + 1)⟩ : S50) ) (fun _ hk => hk);have m7:= y6 1 _ rfl;(try simp only [show (k50).sz = 2 from rfl,Nat.mul_one,Nat.add_zero] at m7);have g8:= d8 1;(try simp only [show (k50).sz = 2 from rfl,Nat.mul_one,Nat.add_zero] at g8);clear j8 y6 d8 da5)|((with_reducible refine gate_store (t:= 3) (p:= 23) rfl ?_);refine store_event (t:= 3) (p:= 23) (v:= ?vo_w11) (w1:= (w9.setCell ⟨go5,(b0 : Int).toNat * 2 + 1,none⟩ (.int .i64 (wrap64 (j2 + 1))))) ?hg ?ho ?hn ?hr ?_;(case ho => rfl);(case hg => rfl);(case hn => rfl);(case hr => first|(go_simp;done)|(go_simp;rfl));intro w11 hw;have hg : w9.grownBy w11 (some go5):= (by rw [hw];exact va4.2);have hp_ : Kd.R k50 50 w11 w0.heap.size (fun k_ => (P0_ k_ ∨ w.heap.size ≤ k_)) (.slice (some ⟨go5,0,none⟩) k2.length co7) b9:= (by rw [hw,oa4.out];exact va4.1);clear va4;have n0_:= mk (hp_);have n1_:= mk ((by rw [hw];exact below_set (HB.out) GB5.out : Below w0.heap.size w0 w11));have n2_:= mk (Kept.of_grown (S:= (fun k_ => P0_ k_)) hg (by repeat (first|(with_reducible first|exact HK.out|apply Kept.alloc|apply Kept.drewN|apply Kept.drew)|exact HK.out)) (fun k_ e_ => (m2.out.1 k_ e_)));clear m2;clear HB;clear HK;have m2:= n0_;have HB:= n1_;have HK:= n2_;clear n0_ n1_ n2_;clear hg hw hp_))
          go_roundg k1
          case measure => have:= HK1.out;omega
          case rel => exact ⟨(b9),(wrap64 ((wrap64 (j2 + 1)) + 1)),(wrap64 (b0 + 1)),(by first|rfl|(simp;done)|(simp [*];done)),(by first|rfl|(simp;done)|(simp [*];done)),H',⟨by have:= HK1.out;omega⟩,⟨up m2.out⟩,⟨by repeat (first|(with_reducible first|exact HK.out|apply Kept.alloc|apply Kept.drewN|apply Kept.drew)|exact HK.out)⟩,⟨by repeat (first|(with_reducible first|exact HB.out|apply below_alloc|apply pw_below_drewN|apply below_drew1)|exact HB.out)⟩⟩
        · rw [if_neg c4] at H
          exact absurd H (by simp)
      · rw [if_neg c3] at H
        have o5 : decide (b0 < (k2.length : Int)) = false:= decide_eq_false c3
        clear c3
        simp only [Option.some.injEq,Prod.mk.injEq] at H
        obtain ⟨rfl,rfl⟩:= H
        obtain ⟨da7,za6,va6⟩:= Kd.R_slice m2.out
        subst va6
        go_wp2
        go_ret
        exact ⟨by first|rfl|(simp [errW_none,errW_some] <;> rfl)|(simp [*,errW_none,errW_some] <;> rfl),up m2.out,by repeat (first|(with_reducible first|exact HB.out|apply below_alloc|apply pw_below_drewN|apply below_drew1)|exact HB.out),by repeat (first|(with_reducible first|exact HK.out|apply Kept.alloc|apply Kept.drewN|apply Kept.drew)|exact HK.out)⟩

/-! ### laws_markCracker: function 11 -/
def laws_markCracker.f (k : Nat) (z0 : List Int) (q0 : List Int) (v0 : List (S50)) (a1 : Int) : Option (Int × List Int × List Int × (List (S50))) := (laws_markIntS.f k z0 a1).bind fun y4 => ((laws_markIntS.f k q0 y4.1).bind fun q3 => ((laws_markPivotS.f k v0 q3.1).bind fun o3 => (some (o3.1, y4.2, q3.2, o3.2))))
theorem laws_markCracker.mono : ∀ a0 a1 a2 a3 k, LeO (laws_markCracker.f k a0 a1 a2 a3) (laws_markCracker.f (k + 1) a0 a1 a2 a3) := by
  intro a0 a1 a2 a3 k
  unfold laws_markCracker.f
  repeat' first
     |(with_reducible exact laws_markIntS.mono _ _ _)
     |(with_reducible exact laws_markPivotS.mono _ _ _)
     |(with_reducible exact LeO.refl _)
     |(with_reducible exact LeO.none _)
     |(with_reducible refine LeO.ite ?_ ?_)
     |(with_reducible refine LeO.bind ?_ (fun _ => ?_))
     |exact laws_markIntS.mono _ _ _
     |exact laws_markPivotS.mono _ _ _
     |exact LeO.none _
     |refine LeO.ite ?_ ?_
     |refine LeO.bind ?_ (fun _ => ?_)
set_option maxHeartbeats 8000000 in
set_option maxRecDepth 100000 in
theorem laws_markCracker.calls (k : Nat) (P0_0_ : Nat → Prop) (u9000_ : Value) (z0 : List Int) (P0_1_ : Nat → Prop) (u9001_ : Value) (q0 : List Int) (P0_2_ : Nat → Prop) (u9002_ : Value) (v0 : List (S50)) (a1 : Int) (r1 : Int) (r2 : List Int) (r3 : List Int) (r4 : List (S50)) (w0 w : World) (hB : Below w0.heap.size w0 w) (b8 : Kd.R (Kd.int .i64) 3 w w0.heap.size P0_0_ u9000_ z0) (hp0_0_0_1 : ∀ k_, P0_0_ k_ → ¬ P0_1_ k_) (a8 : Kd.R (Kd.int .i64) 3 w w0.heap.size P0_1_ u9001_ q0) (hp0_1_0_0 : ∀ k_, P0_1_ k_ → ¬ P0_0_ k_) (m9 : Kd.R k50 50 w w0.heap.size P0_2_ u9002_ v0) (h : laws_markCracker.f k z0 q0 v0 a1 = some (r1, r2, r3, r4)) :
    Calls Try.prog 11 #[.agg #[u9000_, u9001_, u9002_], .int .i64 a1] w fun e w' => e = .returned (.int .i64 r1) ∧ Kd.R (Kd.int .i64) 3 w' w0.heap.size (fun k_ => ((P0_0_ k_ ∨ P0_1_ k_ ∨ P0_2_ k_) ∨ w.heap.size ≤ k_)) u9000_ r2 ∧ Kd.R (Kd.int .i64) 3 w' w0.heap.size (fun k_ => ((P0_0_ k_ ∨ P0_1_ k_ ∨ P0_2_ k_) ∨ w.heap.size ≤ k_)) u9001_ r3 ∧ Kd.R k50 50 w' w0.heap.size (fun k_ => ((P0_0_ k_ ∨ P0_1_ k_ ∨ P0_2_ k_) ∨ w.heap.size ≤ k_)) u9002_ r4 ∧ Below w0.heap.size w0 w' ∧ Kept w w' (fun k_ => P0_0_ k_ ∨ P0_1_ k_ ∨ P0_2_ k_) := by
  have hu29:= Try.underlying29
  have g2:= mk (show Kd.R (Kd.int .i64) 3 w w0.heap.size (fun k_ => ((P0_0_ k_ ∨ P0_1_ k_ ∨ P0_2_ k_) ∨ w.heap.size ≤ k_) ∧ some k_ ≠ (u9001_ : Value).ownBlock) u9000_ z0 from Kd.R_mono b8 (fun k_ hk => ⟨(.inl (.inl hk)),fun e_ => hp0_0_0_1 k_ hk (a8.1 k_ e_.symm)⟩))
  have d2:= mk (show Kd.R (Kd.int .i64) 3 w w0.heap.size (fun k_ => ((P0_0_ k_ ∨ P0_1_ k_ ∨ P0_2_ k_) ∨ w.heap.size ≤ k_) ∧ some k_ ≠ (u9000_ : Value).ownBlock) u9001_ q0 from Kd.R_mono a8 (fun k_ hk => ⟨(.inl (.inr (.inl hk))),fun e_ => hp0_1_0_0 k_ hk (b8.1 k_ e_.symm)⟩))
  have z1:= mk (show Kd.R k50 50 w w0.heap.size (fun k_ => ((P0_0_ k_ ∨ P0_1_ k_ ∨ P0_2_ k_) ∨ w.heap.size ≤ k_)) u9002_ v0 from Kd.R_mono m9 (fun k_ hk => (.inl (.inr (.inr hk)))))
  have HK:= mk (Kept.refl w (fun k_ => P0_0_ k_ ∨ P0_1_ k_ ∨ P0_2_ k_))
  have HW0:= mk hB.size
  have HB:= mk hB
  clear hB
  have H : ((laws_markIntS.f k z0 a1).bind fun y4 => ((laws_markIntS.f k q0 y4.1).bind fun q3 => ((laws_markPivotS.f k v0 q3.1).bind fun o3 => (some (o3.1,y4.2,q3.2,o3.2))))) = some (r1,r2,r3,r4):= h
  clear h
  replace H:= Option.bind_eq_some_iff.mp H
  obtain ⟨⟨y8,v8⟩,A30,H⟩:= H
  replace H : ((laws_markIntS.f k q0 y8).bind fun q3 => ((laws_markPivotS.f k v0 q3.1).bind fun o3 => (some (o3.1,v8,q3.2,o3.2)))) = some (r1,r2,r3,r4):= H
  have A3:= mk A30
  clear A30
  replace H:= Option.bind_eq_some_iff.mp H
  obtain ⟨⟨s8,g9⟩,A40,H⟩:= H
  replace H : ((laws_markPivotS.f k v0 s8).bind fun o3 => (some (o3.1,v8,g9,o3.2))) = some (r1,r2,r3,r4):= H
  have A4:= mk A40
  clear A40
  replace H:= Option.bind_eq_some_iff.mp H
  obtain ⟨⟨za4,ya4⟩,A50,H⟩:= H
  replace H : (some (za4,v8,g9,ya4)) = some (r1,r2,r3,r4):= H
  have A5:= mk A50
  clear A50
  simp only [Option.some.injEq,Prod.mk.injEq] at H
  obtain ⟨rfl,rfl,rfl,rfl⟩:= H
  obtain ⟨Ao6,co6,eo6⟩:= Kd.R_slice g2.out
  subst eo6
  obtain ⟨Ao7,co7,eo7⟩:= Kd.R_slice d2.out
  subst eo7
  obtain ⟨Ao8,co8,eo8⟩:= Kd.R_slice z1.out
  subst eo8
  go_enter Try.func11,Try.ntmps11
  go_wp2_with (first|((with_reducible refine gate_dst (N:= 2) rfl ?_);refine box_event ?hg (N:= 2) ?hd (cs:= #[.slice Ao6 z0.length co6,.slice Ao7 q0.length co7,.slice Ao8 v0.length co8]) (t:= 29) ?hr ?_;(case hd => rfl);(case hg => rfl);(case hr => first|(go_simp;done)|(go_simp;rfl));intro m3 hg w9 hbox hb;have n0_:= mk (Kd.R_below (up g2.out) hb);have n1_:= mk (Kd.R_below (up d2.out) hb);have n2_:= mk (Kd.R_below (up z1.out) hb);have n3_:= mk (Kept.below (S:= (fun k_ => P0_0_ k_ ∨ P0_1_ k_ ∨ P0_2_ k_)) (by repeat (first|(with_reducible first|exact HK.out|apply Kept.alloc|apply Kept.drewN|apply Kept.drew)|exact HK.out)) hb);have n4_:= mk (below_step (by repeat (first|(with_reducible first|exact HB.out|apply below_alloc|apply pw_below_drewN|apply below_drew1)|exact HB.out)) hb);have n5_:= mk (hbox);have n6_:= mk ((by rw [hg];exact (by first|exact HK.out.1|exact (show Kept w _ (fun k_ => P0_0_ k_ ∨ P0_1_ k_ ∨ P0_2_ k_) from by repeat (first|(with_reducible first|exact HK.out|apply Kept.alloc|apply Kept.drewN|apply Kept.drew)|exact HK.out)).1) : w.heap.size ≤ m3));have n7_:= mk ((by rw [hg];exact (below_size (by repeat (first|(with_reducible first|exact HB.out|apply below_alloc|apply pw_below_drewN|apply below_drew1)|exact HB.out))) : w0.heap.size ≤ m3));clear g2;clear d2;clear z1;clear HK;clear HB;have g2:= n0_;have d2:= n1_;have z1:= n2_;have HK:= n3_;have HB:= n4_;have o0:= n5_;have k5:= n6_;have m5:= n7_;clear n0_ n1_ n2_ n3_ n4_ n5_ n6_ n7_;clear hb hbox hg;have za3 : w9.cell? ⟨m3,0,none⟩ = some (.slice Ao6 z0.length co6):= (blk_cell o0.out 0).trans rfl;have ya3 : w9.cell? ⟨m3,1,none⟩ = some (.slice Ao7 q0.length co7):= (blk_cell o0.out 1).trans rfl;have va3 : w9.cell? ⟨m3,2,none⟩ = some (.slice Ao8 v0.length co8):= (blk_cell o0.out 2).trans rfl;have oa1:= blk_frozen o0.out 0;have ma1:= blk_frozen o0.out 1;have ka1:= blk_frozen o0.out 2)|((with_reducible refine gate_callee (f:= 36) rfl ?_);refine goesL_ (some 8) rfl rfl Try.func36 (by kernel_rfl) rfl #[.slice Ao6 z0.length co6,.int .i64 a1] rfl (by (try simp only [List.map_toArray,List.map_cons,List.map_nil]);first|done|rfl|(simp only [List.length_drop,List.length_take];rfl)) ?_;(with_reducible refine (laws_markIntS.calls k (fun k_ => some k_ = (.slice Ao6 z0.length co6 : Value).ownBlock) (.slice Ao6 z0.length co6) z0 a1 y8 v8 w0 _ ?side1 ?side2 A3.out).mono ?_);(case side1 => repeat (first|(with_reducible first|exact HB.out|apply below_alloc|apply pw_below_drewN|apply below_drew1|refine below_set ?_ m5.out)|exact HB.out));(case side2 => exact Kd.R_tight rfl g2.out);rintro e w11 ⟨rfl,hy0,hb,hkp⟩;refine ⟨_,rfl,?_⟩;have n0_:= mk (Kd.R_reok rfl hy0 (fun k_ e_ => g2.out.1 k_ e_));have n1_:= mk (Kd.R_mono (ok':= fun k_ => ((P0_0_ k_ ∨ P0_1_ k_ ∨ P0_2_ k_) ∨ w.heap.size ≤ k_) ∧ some k_ ≠ (.slice Ao6 z0.length co6 : Value).ownBlock) (Kd.R_keptB (d2.out) hkp (fun k_ hk_ hs_ => (hk_.2) hs_)) (fun k_ hk_ => by first|exact ⟨hk_.1.1,hk_.1.2⟩|(revert hk_;simp only [and_imp];intros;(repeat' (refine And.intro ?_ ?_)) <;> assumption)));have n2_:= mk (Kd.R_mono (ok':= fun k_ => ((P0_0_ k_ ∨ P0_1_ k_ ∨ P0_2_ k_) ∨ w.heap.size ≤ k_)) (Kd.R_keptB ((Kd.R_apart' z1.out (Kd.R_typed g2.out) (by decide))) hkp (fun k_ hk_ hs_ => (hk_.2) hs_)) (fun k_ hk_ => by first|exact hk_.1.1|(revert hk_;simp only [and_imp];intros;(repeat' (refine And.intro ?_ ?_)) <;> assumption)));have n3_:= mk (blk_kept (ub o0.out) hkp (fun hs_ => (fun e_ => (Kd.R_ne g2.out o0.out (by decide)) e_) hs_));have n4_:= mk (Kept.then_ (S:= (fun k_ => P0_0_ k_ ∨ P0_1_ k_ ∨ P0_2_ k_)) (by repeat (first|(with_reducible first|exact HK.out|apply Kept.alloc|apply Kept.drewN|apply Kept.drew|refine Kept.setCell ?_ (.inr k5.out) _)|exact HK.out)) hkp (fun k_ hs_ => (fun e_ => (g2.out.1 k_ e_.symm).1) hs_));have n5_:= mk (hb);clear g2;clear d2;clear z1;clear o0;clear HK;clear HB;have g2:= n0_;have d2:= n1_;have z1:= n2_;have o0:= n3_;have HK:= n4_;have HB:= n5_;clear n0_ n1_ n2_ n3_ n4_ n5_;(try clear hb);(try clear hkp);(try clear hy0);have v6 : w11.cell? ⟨m3,0,none⟩ = some (.slice Ao6 z0.length co6):= (blk_cell o0.out 0).trans rfl;have s6 : w11.cell? ⟨m3,1,none⟩ = some (.slice Ao7 q0.length co7):= (blk_cell o0.out 1).trans rfl;have o6 : w11.cell? ⟨m3,2,none⟩ = some (.slice Ao8 v0.length co8):= (blk_cell o0.out 2).trans rfl;have m6:= blk_frozen o0.out 0;have k6:= blk_frozen o0.out 1;have j6:= blk_frozen o0.out 2)|((with_reducible refine gate_callee (f:= 36) rfl ?_);refine goesL_ (some 12) rfl rfl Try.func36 (by kernel_rfl) rfl #[.slice Ao7 q0.length co7,.int .i64 y8] rfl (by (try simp only [List.map_toArray,List.map_cons,List.map_nil]);first|done|rfl|(simp only [List.length_drop,List.length_take];rfl)) ?_;(with_reducible refine (laws_markIntS.calls k (fun k_ => some k_ = (.slice Ao7 q0.length co7 : Value).ownBlock) (.slice Ao7 q0.length co7) q0 y8 s8 g9 w0 _ ?side1 ?side2 A4.out).mono ?_);(case side1 => repeat (first|(with_reducible first|exact HB.out|apply below_alloc|apply pw_below_drewN|apply below_drew1|refine below_set ?_ m5.out)|exact HB.out));(case side2 => exact Kd.R_tight rfl d2.out);rintro e w13 ⟨rfl,hy0,hb,hkp⟩;refine ⟨_,rfl,?_⟩;have n0_:= mk (Kd.R_mono (ok':= fun k_ => ((P0_0_ k_ ∨ P0_1_ k_ ∨ P0_2_ k_) ∨ w.heap.size ≤ k_) ∧ some k_ ≠ (.slice Ao7 q0.length co7 : Value).ownBlock) (Kd.R_keptB (g2.out) hkp (fun k_ hk_ hs_ => (hk_.2) hs_)) (fun k_ hk_ => by first|exact ⟨hk_.1.1,hk_.1.2⟩|(revert hk_;simp only [and_imp];intros;(repeat' (refine And.intro ?_ ?_)) <;> assumption)));have n1_:= mk (Kd.R_reok rfl hy0 (fun k_ e_ => d2.out.1 k_ e_));have n2_:= mk (Kd.R_mono (ok':= fun k_ => ((P0_0_ k_ ∨ P0_1_ k_ ∨ P0_2_ k_) ∨ w.heap.size ≤ k_)) (Kd.R_keptB ((Kd.R_apart' z1.out (Kd.R_typed d2.out) (by decide))) hkp (fun k_ hk_ hs_ => (hk_.2) hs_)) (fun k_ hk_ => by first|exact hk_.1.1|(revert hk_;simp only [and_imp];intros;(repeat' (refine And.intro ?_ ?_)) <;> assumption)));have n3_:= mk (blk_kept (ub o0.out) hkp (fun hs_ => (fun e_ => (Kd.R_ne d2.out o0.out (by decide)) e_) hs_));have n4_:= mk (Kept.then_ (S:= (fun k_ => P0_0_ k_ ∨ P0_1_ k_ ∨ P0_2_ k_)) (by repeat (first|(with_reducible first|exact HK.out|apply Kept.alloc|apply Kept.drewN|apply Kept.drew|refine Kept.setCell ?_ (.inr k5.out) _)|exact HK.out)) hkp (fun k_ hs_ => (fun e_ => (d2.out.1 k_ e_.symm).1) hs_));have n5_:= mk (hb);clear g2;clear d2;clear z1;clear o0;clear HK;clear HB;have g2:= n0_;have d2:= n1_;have z1:= n2_;have o0:= n3_;have HK:= n4_;have HB:= n5_;clear n0_ n1_ n2_ n3_ n4_ n5_;(try clear hb);(try clear hkp);(try clear hy0);have ma3 : w13.cell? ⟨m3,0,none⟩ = some (.slice Ao6 z0.length co6):= (blk_cell o0.out 0).trans rfl;have ka3 : w13.cell? ⟨m3,1,none⟩ = some (.slice Ao7 q0.length co7):= (blk_cell o0.out 1).trans rfl;have ja3 : w13.cell? ⟨m3,2,none⟩ = some (.slice Ao8 v0.length co8):= (blk_cell o0.out 2).trans rfl;have ba1:= blk_frozen o0.out 0;have aa1:= blk_frozen o0.out 1;have za0:= blk_frozen o0.out 2)|((with_reducible refine gate_callee (f:= 37) rfl ?_);refine goesL_ (some 16) rfl rfl Try.func37 (by kernel_rfl) rfl #[.slice Ao8 v0.length co8,.int .i64 s8] rfl (by (try simp only [List.map_toArray,List.map_cons,List.map_nil]);first|done|rfl|(simp only [List.length_drop,List.length_take];rfl)) ?_;(with_reducible refine (laws_markPivotS.calls k (fun k_ => some k_ = (.slice Ao8 v0.length co8 : Value).ownBlock) (.slice Ao8 v0.length co8) v0 s8 za4 ya4 w0 _ ?side1 ?side2 A5.out).mono ?_);(case side1 => repeat (first|(with_reducible first|exact HB.out|apply below_alloc|apply pw_below_drewN|apply below_drew1|refine below_set ?_ m5.out)|exact HB.out));(case side2 => exact Kd.R_tight rfl z1.out);rintro e w15 ⟨rfl,hy0,hb,hkp⟩;refine ⟨_,rfl,?_⟩;have n0_:= mk (Kd.R_mono (ok':= fun k_ => ((P0_0_ k_ ∨ P0_1_ k_ ∨ P0_2_ k_) ∨ w.heap.size ≤ k_) ∧ some k_ ≠ (.slice Ao7 q0.length co7 : Value).ownBlock) (Kd.R_keptB ((Kd.R_apart' g2.out (Kd.R_typed z1.out) (by decide))) hkp (fun k_ hk_ hs_ => (hk_.2) hs_)) (fun k_ hk_ => by first|exact ⟨hk_.1.1.1,hk_.1.1.2⟩|(revert hk_;simp only [and_imp];intros;(repeat' (refine And.intro ?_ ?_)) <;> assumption)));have n1_:= mk (Kd.R_mono (ok':= fun k_ => ((P0_0_ k_ ∨ P0_1_ k_ ∨ P0_2_ k_) ∨ w.heap.size ≤ k_) ∧ some k_ ≠ (.slice Ao6 z0.length co6 : Value).ownBlock) (Kd.R_keptB ((Kd.R_apart' d2.out (Kd.R_typed z1.out) (by decide))) hkp (fun k_ hk_ hs_ => (hk_.2) hs_)) (fun k_ hk_ => by first|exact ⟨hk_.1.1.1,hk_.1.1.2⟩|(revert hk_;simp only [and_imp];intros;(repeat' (refine And.intro ?_ ?_)) <;> assumption)));have n2_:= mk (Kd.R_reok rfl hy0 (fun k_ e_ => z1.out.1 k_ e_));have n3_:= mk (blk_kept (ub o0.out) hkp (fun hs_ => (fun e_ => (Kd.R_ne z1.out o0.out (by decide)) e_) hs_));have n4_:= mk (Kept.then_ (S:= (fun k_ => P0_0_ k_ ∨ P0_1_ k_ ∨ P0_2_ k_)) (by repeat (first|(with_reducible first|exact HK.out|apply Kept.alloc|apply Kept.drewN|apply Kept.drew|refine Kept.setCell ?_ (.inr k5.out) _)|exact HK.out)) hkp (fun k_ hs_ => (fun e_ => (z1.out.1 k_ e_.symm)) hs_));have n5_:= mk (hb);clear g2;clear d2;clear z1;clear o0;clear HK;clear HB;have g2:= n0_;have d2:= n1_;have z1:= n2_;have o0:= n3_;have HK:= n4_;have HB:= n5_;clear n0_ n1_ n2_ n3_ n4_ n5_;(try clear hb);(try clear hkp);(try clear hy0)))
  go_ret
  exact ⟨by first|rfl|(simp [errW_none,errW_some] <;> rfl)|(simp [*,errW_none,errW_some] <;> rfl),by exact up (Kd.R_mono g2.out (fun _ hk => hk.1)),by exact up (Kd.R_mono d2.out (fun _ hk => hk.1)),up z1.out,by repeat (first|(with_reducible first|exact HB.out|apply below_alloc|apply pw_below_drewN|apply below_drew1|refine below_set ?_ m5.out)|exact HB.out),by repeat (first|(with_reducible first|exact HK.out|apply Kept.alloc|apply Kept.drewN|apply Kept.drew|refine Kept.setCell ?_ (.inr k5.out) _)|exact HK.out)⟩

/-! ### laws_heldIntS: function 38 -/
def laws_heldIntS.l0 : Nat → List Int → Int → Int → Option (Int)
  | 0, _, _, _ => none
  | k + 1, x0, x1, x5 => if x5 < (x0.length : Int) then (if 0 ≤ x5 then (if (rd x0 x5) = x1 then (laws_heldIntS.l0 k x0 (wrap64 (x1 + 1)) (wrap64 (x5 + 1))) else (some (-1))) else (none)) else (some x1)
def laws_heldIntS.f (k : Nat) (l0 : List Int) (a1 : Int) : Option (Int) := laws_heldIntS.l0 k l0 a1 0
theorem laws_heldIntS.mono_l : ∀ k, (∀ y0 y1 y2, LeO (laws_heldIntS.l0 k y0 y1 y2) (laws_heldIntS.l0 (k + 1) y0 y1 y2))
  | 0 => fun _ _ _ r h => by simp [laws_heldIntS.l0] at h
  | k + 1 => by
    have ih0 := laws_heldIntS.mono_l k
    · intro y0 y1 y2
      unfold laws_heldIntS.l0
      repeat' first
      | (with_reducible exact ih0 _ _ _)
      | (with_reducible exact LeO.refl _)
      | (with_reducible exact LeO.none _)
      | (with_reducible refine LeO.ite ?_ ?_)
      | (with_reducible refine LeO.bind ?_ (fun _ => ?_))
      | exact ih0 _ _ _
      | exact LeO.none _
      | refine LeO.ite ?_ ?_
      | refine LeO.bind ?_ (fun _ => ?_)
theorem laws_heldIntS.mono : ∀ a0 a1 k, LeO (laws_heldIntS.f k a0 a1) (laws_heldIntS.f (k + 1) a0 a1) := by
  intro a0 a1 k
  have ih0:= laws_heldIntS.mono_l k
  unfold laws_heldIntS.f
  repeat' first
     |(with_reducible exact ih0 _ _ _)
     |(with_reducible exact LeO.refl _)
     |(with_reducible exact LeO.none _)
     |(with_reducible refine LeO.ite ?_ ?_)
     |(with_reducible refine LeO.bind ?_ (fun _ => ?_))
     |exact ih0 _ _ _
     |exact LeO.none _
     |refine LeO.ite ?_ ?_
     |refine LeO.bind ?_ (fun _ => ?_)
set_option maxHeartbeats 8000000 in
set_option maxRecDepth 100000 in
theorem laws_heldIntS.calls (k : Nat) (A0 : Option Addr) (c0 : Nat) (l0 : List Int) (a1 : Int) (r : Int) (w : World) (hr0 : Kd.C (Kd.int .i64) w A0 l0.length l0) (hc0 : l0.length ≤ c0) (h : laws_heldIntS.f k l0 a1 = some r) :
    Calls Try.prog 38 #[.slice A0 l0.length c0, .int .i64 a1] w fun e w' => e = .returned (.int .i64 r) ∧ Drawn0 w w' := by
  have HR0:= mk hr0
  have HC0:= mk hc0
  clear hr0 hc0
  have H : (laws_heldIntS.l0 k l0 a1 0) = some r:= h
  clear h
  have H':= mk H
  clear H
  go_enter Try.func38,Try.ntmps38
  go_wp2
  go_loopg [1,5] k (fun kq v1 v5 w' => ∃ (j2 : Int) (b0 : Int),v1 = .int .i64 j2 ∧ v5 = .int .i64 b0 ∧ Aside0 (laws_heldIntS.l0 kq l0 j2 b0 = some r) ∧ Aside0 (kq ≤ k) ∧ Drawn0 w w')
  case atStart => exact ⟨(a1),(0),(by first|rfl|(simp;done)|(simp [*];done)),(by first|rfl|(simp;done)|(simp [*];done)),H',⟨Nat.le_refl _⟩,by repeat (first|exact Drawn0.refl _|apply Drawn0.step)⟩
  case round =>
    clear H'
    try clear p2
    obtain ⟨j2,b0,rfl,rfl,HA,HK1,⟨m1,rfl⟩⟩:= hrel
    cases gk with
   |zero => exact absurd HA.out (by simp [laws_heldIntS.l0])
   |succ k1 =>
      have H:= HA.out
      clear HA
      simp only [laws_heldIntS.l0] at H
      by_cases c3 : b0 < (l0.length : Int)
      · rw [if_pos c3] at H
        have o5 : decide (b0 < (l0.length : Int)) = true:= decide_eq_true c3
        clear c3
        by_cases c4 : 0 ≤ b0
        · rw [if_pos c4] at H
          have a9 : decide (0 ≤ b0) = true:= decide_eq_true c4
          clear c4
          by_cases c5 : (rd l0 b0) = j2
          · rw [if_pos c5] at H
            have ga5 : ((rd l0 b0) == j2) = true:= beq_iff_eq.mpr c5
            have ya6 : ((rd l0 b0) != j2) = false:= bne_eq_false_iff_eq.mpr c5
            clear c5
            have H':= mk H
            clear H
            have a6 : 0 ≤ (b0 : Int):= of_decide_eq_true (by first|(with_reducible assumption)|assumption)
            have s5 : b0 < (l0.length : Int):= of_decide_eq_true (by first|(with_reducible assumption)|assumption)
            obtain ⟨ma4,ga4,g6⟩:= Kd.at_int HR0.out b0 a6 s5
            cases ga4
            replace a6:= eq_true a6
            replace s5:= eq_true s5
            go_wp2
            go_roundg k1
            case measure => have:= HK1.out;omega
            case rel => exact ⟨(wrap64 (j2 + 1)),(wrap64 (b0 + 1)),(by first|rfl|(simp;done)|(simp [*];done)),(by first|rfl|(simp;done)|(simp [*];done)),H',⟨by have:= HK1.out;omega⟩,by repeat (first|exact Drawn0.refl _|apply Drawn0.step)⟩
          · rw [if_neg c5] at H
            have ga5 : ((rd l0 b0) == j2) = false:= beq_eq_false_iff_ne.mpr c5
            have ya6 : ((rd l0 b0) != j2) = true:= bne_iff_ne.mpr c5
            obtain rfl:= Option.some.inj H
            have a6 : 0 ≤ (b0 : Int):= of_decide_eq_true (by first|(with_reducible assumption)|assumption)
            have s5 : b0 < (l0.length : Int):= of_decide_eq_true (by first|(with_reducible assumption)|assumption)
            obtain ⟨ma4,ga4,g6⟩:= Kd.at_int HR0.out b0 a6 s5
            cases ga4
            replace a6:= eq_true a6
            replace s5:= eq_true s5
            go_wp2
            go_ret
            exact ⟨by first|rfl|(simp;done)|(simp [*];done),by repeat (first|exact Drawn0.refl _|apply Drawn0.step)⟩
        · rw [if_neg c4] at H
          exact absurd H (by simp)
      · rw [if_neg c3] at H
        have o5 : decide (b0 < (l0.length : Int)) = false:= decide_eq_false c3
        clear c3
        obtain rfl:= Option.some.inj H
        go_wp2
        go_ret
        exact ⟨by first|rfl|(simp;done)|(simp [*];done),by repeat (first|exact Drawn0.refl _|apply Drawn0.step)⟩

end Go.Proofs.Ytlikcmonejefoab.PFnExactRippleDelete
