-- printed by a program of this session, a turned copy of the print of the kit
import Derived.Test.YtfjanffppobheaaGreatDoorSq
import Derived.Test.YtfjanffppobheaaGreatDoorPFnTextsx0
import Derived.Test.YtfjanffppobheaaGreatDoorPFnTextsx4
namespace Go.Proofs.YtfjanffppobheaaGreatDoor.PFnTexts
open Go.RowKit Go.Proofs.YtfjanffppobheaaGreatDoorW.PrintWords Go.Proofs.YtfjanffppobheaaGreatDoorW.PrintLast Go.Proofs.YtfjanffppobheaaGreatDoorW.PrintMore Go.Proofs.YtfjanffppobheaaGreatDoor.Sq
attribute [local go_sem] max2_int min2_int max_two min_two max_three min_three max_four min_four Giv.cell_twice   -- for this text's walks alone
set_option linter.unusedVariables false
set_option linter.unusedSimpArgs false

/-! ### impl_IsTable: function 30 -/
def impl_IsTable.l0 : Nat → List (S58) → Int → Int → List (S58) → Option (Bool)
 | 0, _, _, _, _ => none
 | k + 1, x6, x7, x8, x214000 => if x8 < x7 then (if 0 ≤ x8 then (if x8 < (x6.length : Int) then ((impl_IsName.f k ((rd_T58 x6 x8).f0)).bind fun t216 => (if t216 = true then ((impl_AreValues.f ((rd_T58 x6 x8).f1)).bind fun t217 => (if t217 = true then (if 0 < (x214000.length : Int) then (if (((rd_T58 x6 x8).f1).length : Int) = (((rd_T58 x214000 0).f1).length : Int) then ((impl_FindColumn.f x214000 ((rd_T58 x6 x8).f0)).bind fun t219 => (if t219 = x8 then (impl_IsTable.l0 k x6 x7 (wrap64 (x8 + 1)) x214000) else (some false))) else (some false)) else (none)) else (some false))) else (some false))) else (none)) else (none)) else (if (x214000.length : Int) ≥ 1 then (some (decide ((x214000.length : Int) ≤ 4))) else (some false))
def impl_IsTable.f (k : Nat) (l0_0 : List (S58)) : Option (Bool) := impl_IsTable.l0 k l0_0 (l0_0.length : Int) 0 l0_0
theorem impl_IsTable.mono_l : ∀ k, (∀ y0 y1 y2 y3, LeO (impl_IsTable.l0 k y0 y1 y2 y3) (impl_IsTable.l0 (k + 1) y0 y1 y2 y3))
 | 0 => fun _ _ _ _ r h => by simp [impl_IsTable.l0] at h
 | k + 1 => by
  have ih0 := impl_IsTable.mono_l k
  ·intro y0 y1 y2 y3
   unfold impl_IsTable.l0
   exact mo
theorem impl_IsTable.mono : ∀ a0 k, LeO (impl_IsTable.f k a0) (impl_IsTable.f (k + 1) a0) := by
 intro a0 k
 have ih0 := impl_IsTable.mono_l k
 unfold impl_IsTable.f
 exact mo
instance impl_IsTable.mi (a0 k) : LeC (impl_IsTable.f k a0) (impl_IsTable.f (k + 1) a0) := ⟨impl_IsTable.mono a0 k⟩
def impl_IsTable.T4 : Bool × List (List Nat × List Nat) := (true, [([], []), ([0], [0]), ([1], [1]), ([2], [2]), ([3, 2], [3]), ([4], [4]), ([5, 4], [4, 5]), ([6, 4, 4], [4, 6]), ([7, 4], [4, 7]), ([4, 8], [4, 8]), ([9, 7], [9]), ([10], [10]), ([11, 10], [10, 11]), ([12, 10], [10, 12]), ([10], [10]), ([14, 10], [10, 14]), ([15, 10], [10, 15]), ([16, 10], [10, 16]), ([17, 10], [10, 17]), ([18, 10], [10, 18]), ([13, 19, 10], [10, 13, 19]), ([10, 20], [10, 20]), ([21, 10], [21]), ([22], [22]), ([22], [22]), ([24, 22], [22, 24]), ([23, 25, 22, 22], [22, 23, 25]), ([22], [22]), ([26, 27, 22], [22, 26, 27]), ([22, 28], [22, 28])])
def impl_IsTable.B4 : List Nat := [0, 1, 3, 7, 15, 31, 63, 127, 255, 511, 1023, 2047, 4095, 8191, 2047, 18431, 51199, 116735, 247807, 509951, 1048575, 2097151, 4194303, 8388607, 8388607, 25165823, 67108863, 8388607, 268435455, 536870911]
theorem impl_IsTable.tab4 : rtab .any (opsOf Tryz.f30 4) = impl_IsTable.T4 := by kernel_rfl
theorem impl_IsTable.bits4 : waitsOk impl_IsTable.T4.2 impl_IsTable.B4 = true := by kernel_rfl
set_option maxHeartbeats 8000000 in
set_option maxRecDepth 100000 in
theorem impl_IsTable.calls (k : Nat) (A0_0 : Option Addr) (c0_0 : Nat) (l0_0 : List (S58)) (r : Bool) (w : World) (hr0_0 : Kd.C k58 w A0_0 l0_0.length l0_0) (hc0_0 : l0_0.length ≤ c0_0) (h : impl_IsTable.f k l0_0 = some r) :
  Calls Tryz.prog 30 #[.agg #[.slice A0_0 l0_0.length c0_0]] w fun e w' => e = .returned (.bool r) ∧ Below w.heap.size w w' := by
 have hu26 := Tryz.underlying26
 have hu58 := Tryz.underlying58
 have HR0_0 := Aside0.mk hr0_0
 have HC0_0 := Aside0.mk hc0_0
 clear hr0_0 hc0_0
 have HB := Aside0.mk (Below.refl w.heap.size w)
 have H : (impl_IsTable.l0 k l0_0 (l0_0.length : Int) 0 l0_0) = some r := h
 clear h
 have H' := Aside0.mk H
 clear H
 go_enter Tryz.func30, Tryz.ntmps30
 go_wp2_with (first | ((with_reducible refine gate_dst (N := 1) rfl ?_); (try (refine gate_guard (by rfl) ?_; dsimp only)); refine bx 1 #[.slice A0_0 l0_0.length c0_0] 26 ?_; intro gb213 hg w2 hbox hb; have BK213 := mk hbox; have GW213 := wg hg; have GE213 := wg hg; replace HB := wh hb; clear hb hbox hg; obtain ⟨hcz3_0, hfz3_0⟩ := bz1 BK213))
 go_loopg [8] k (fun kq v8 w' => ∃ (x8_1 : Int), v8 = .int .i64 x8_1 ∧ Aside0 (impl_IsTable.l0 kq l0_0 (l0_0.length : Int) x8_1 l0_0 = some r) ∧ Aside0 (kq ≤ k) ∧ Aside0 (w'.heap[gb213]? = some (.cells #[(.slice A0_0 l0_0.length c0_0)] 26 (0, 0))) ∧ Aside0 (Below w.heap.size w w'))
 case atStart => exact ⟨(0), (by first | rfl | (simp; done) | (simp [*]; done)), H', ⟨Nat.le_refl _⟩, ⟨ub BK213.out⟩, ⟨bl⟩⟩
 case round =>
  clear H'
  try clear p2
  try clear c3
  try clear hcz3_0
  try clear hfz3_0
  obtain ⟨x8_1, rfl, HA, HK1, BK213, HB⟩ := hrel
  cases gk with
  | zero => exact absurd HA.out (by simp [impl_IsTable.l0])
  | succ k1 =>
   have H := HA.out
   clear HA
   simp only [impl_IsTable.l0] at H
   by_cases c4 : x8_1 < (l0_0.length : Int)
   ·rw [if_pos c4] at H
    have c4b0 : decide (x8_1 < (l0_0.length : Int)) = true := decide_eq_true c4
    clear c4
    by_cases c5 : 0 ≤ x8_1
    ·rw [if_pos c5] at H
     have c5b0 : decide (0 ≤ x8_1) = true := decide_eq_true c5
     clear c5
     by_cases c6 : x8_1 < (l0_0.length : Int)
     ·rw [if_pos c6] at H
      have c6b0 : decide (x8_1 < (l0_0.length : Int)) = true := decide_eq_true c6
      clear c6
      revert H; refine bo ?_; rintro t216 A7 H
      by_cases c8 : t216 = true
      ·subst c8
       rw [if_pos rfl] at H
       revert H; refine bo ?_; rintro t217 A9 H
       by_cases c10 : t217 = true
       ·subst c10
        rw [if_pos rfl] at H
        by_cases c11 : 0 < (l0_0.length : Int)
        ·rw [if_pos c11] at H
         have c11b0 : decide (0 < (l0_0.length : Int)) = true := decide_eq_true c11
         have c11b1 : decide (0 < l0_0.length) = true := decide_eq_true (by omega)
         clear c11
         by_cases c12 : (((rd_T58 l0_0 x8_1).f1).length : Int) = (((rd_T58 l0_0 0).f1).length : Int)
         ·rw [if_pos c12] at H
          have c12b0 : ((((rd_T58 l0_0 x8_1).f1).length : Int) == (((rd_T58 l0_0 0).f1).length : Int)) = true := beq_iff_eq.mpr c12
          have c12b1 : ((((rd_T58 l0_0 x8_1).f1).length : Int) != (((rd_T58 l0_0 0).f1).length : Int)) = false := bne_eq_false_iff_eq.mpr c12
          have c12b2 : (((rd_T58 l0_0 x8_1).f1).length == ((rd_T58 l0_0 0).f1).length) = true := by first | simpa using c12 | (simp at c12 ⊢; omega)
          clear c12
          revert H; refine bo ?_; rintro t219 A13 H
          by_cases c14 : t219 = x8_1
          ·rw [if_pos c14] at H
           have c14b0 : (t219 == x8_1) = true := beq_iff_eq.mpr c14
           have c14b1 : (t219 != x8_1) = false := bne_eq_false_iff_eq.mpr c14
           clear c14
           have H' := Aside0.mk H
           clear H
           have p214 : 0 ≤ (x8_1 : Int) := dt
           have q214 : x8_1 < (l0_0.length : Int) := dt
           obtain ⟨ad214, A214_1, c214_1, e214, hx214_0, hx214_1, hl214_1, hi214_1⟩ := at_T58 HR0_0.out x8_1 p214 q214
           cases e214
           replace hx214_0 := (HB.out.cell (World.block_lt_of_cell? w _ hx214_0)).trans hx214_0
           replace hx214_1 := (HB.out.cell (World.block_lt_of_cell? w _ hx214_1)).trans hx214_1
           have HR214_1 := Aside0.mk hi214_1
           have HC214_1 := Aside0.mk hl214_1
           clear hi214_1 hl214_1
           replace p214 := eq_true p214
           replace q214 := eq_true q214
           try go_wp2_with (first | ((with_reducible refine gate_dst (N := 4) rfl ?_); (try (refine gate_guard (by rfl) ?_; dsimp only)); refine bx 4 #[.string (⟨#[]⟩ : ByteArray), .slice none 0 0] 58 ?_; intro gb215 hg w15 hbox hb; have BK215 := mk hbox; have GW215 := wg hg; have GE215 := wg hg; replace HB := wh hb; have NB213_215 := nl BK213 hg; have NB215_213 := nr BK213 hg; replace BK213 := wb BK213 hb; clear hb hbox hg; have hnb16 := NB215_213.out; have hnc16 := NB213_215.out; obtain ⟨hcz17_0, hcz17_1, hfz17_0, hfz17_1⟩ := bz2 BK215))
           have n0_ : Aside0 (((w15.setCell ⟨gb215, 0, none⟩ (.string ((rd_T58 l0_0 x8_1).f0))).setCell ⟨gb215, 1, none⟩ (.slice A214_1 ((rd_T58 l0_0 x8_1).f1).length c214_1)).heap[gb213]? = some (.cells #[.slice (some ad214) l0_0.length c0_0] 26 (0, 0))) := ⟨bq⟩
           have n1_ : Aside0 (((w15.setCell ⟨gb215, 0, none⟩ (.string ((rd_T58 l0_0 x8_1).f0))).setCell ⟨gb215, 1, none⟩ (.slice A214_1 ((rd_T58 l0_0 x8_1).f1).length c214_1)).heap[gb215]? = some (.cells #[.string ((rd_T58 l0_0 x8_1).f0), .slice A214_1 ((rd_T58 l0_0 x8_1).f1).length c214_1] 58 (0, 0))) := ⟨bq⟩
           have n2_ : Aside0 (Below w.heap.size w ((w15.setCell ⟨gb215, 0, none⟩ (.string ((rd_T58 l0_0 x8_1).f0))).setCell ⟨gb215, 1, none⟩ (.slice A214_1 ((rd_T58 l0_0 x8_1).f1).length c214_1))) := ⟨bl⟩
           (try clear BK213)
           (try clear BK215)
           (try clear HB)
           generalize ((w15.setCell ⟨gb215, 0, none⟩ (.string ((rd_T58 l0_0 x8_1).f0))).setCell ⟨gb215, 1, none⟩ (.slice A214_1 ((rd_T58 l0_0 x8_1).f1).length c214_1)) = w18 at n0_ n1_ n2_ ⊢
           have BK213 := n0_
           have BK215 := n1_
           have HB := n2_
           clear n0_ n1_ n2_
           replace BK213 := wd BK213
           replace BK215 := wd BK215
           replace HB := mk (below_drew1 HB.out)
           have p218 : 0 ≤ (0 : Int) := (by omega)
           have q218 : 0 < (l0_0.length : Int) := dt
           obtain ⟨ad218, A218_1, c218_1, e218, hx218_0, hx218_1, hl218_1, hi218_1⟩ := at_T58 HR0_0.out 0 p218 q218
           have hw218_1 := hx218_1
           (try rw [show ((0 : Int)).toNat = 0 from rfl] at hw218_1)
           (try rw [show 0 * 2 = 0 from rfl] at hw218_1)
           (try rw [Addr.add_zero'] at hw218_1)
           have hw218_0 := hx218_0
           (try rw [show ((0 : Int)).toNat = 0 from rfl] at hw218_0)
           (try rw [show 0 * 2 = 0 from rfl] at hw218_0)
           (try rw [Addr.add_zero'] at hw218_0)
           obtain rfl : ad214 = ad218 := (by injection e218)
           have qi218 : (0 < l0_0.length) = True := eq_true (by omega)
           (try rw [show ((0 : Int)).toNat = 0 from rfl] at hx218_0)
           (try rw [show 0 * 2 = 0 from rfl] at hx218_0)
           (try rw [Addr.add_zero'] at hx218_0)
           (try rw [show ((0 : Int)).toNat = 0 from rfl] at hx218_1)
           (try rw [show 0 * 2 = 0 from rfl] at hx218_1)
           (try rw [Addr.add_zero'] at hx218_1)
           replace hx218_0 := (HB.out.cell (World.block_lt_of_cell? w _ hx218_0)).trans hx218_0
           replace hx218_1 := (HB.out.cell (World.block_lt_of_cell? w _ hx218_1)).trans hx218_1
           have HR218_1 := Aside0.mk hi218_1
           have HC218_1 := Aside0.mk hl218_1
           clear hi218_1 hl218_1
           replace p218 := eq_true p218
           replace q218 := eq_true q218
           refine start_ (n := 30) (S := fun w' => w'.cell? ⟨gb215, 0, none⟩ = some (.string ((rd_T58 l0_0 x8_1).f0)) ∧ w'.cell? ⟨gb215, 1, none⟩ = some (.slice A214_1 ((rd_T58 l0_0 x8_1).f1).length c214_1) ∧ w'.cell? ⟨gb213, 0, none⟩ = some (.slice (some ad214) l0_0.length c0_0) ∧ w'.cell? ad214 = some (.string ((rd_T58 l0_0 0).f0)) ∧ w'.cell? ⟨ad214.block, ad214.off + 1, none⟩ = some (.slice A218_1 ((rd_T58 l0_0 0).f1).length c218_1)) (ds := []) #[F_, F_, F_, F_, F_, F_, F_, F_, F_, F_, F_, F_, F_, F_, F_, F_, F_, F_, F_, F_, F_, F_, F_, F_, F_, F_, F_, F_, F_, F_] (by kernel_rfl) rfl rfl ⟨bc BK215 0, bc BK215 1, bc BK213 0, ((HB.out.cell (World.block_lt_of_cell? w _ hw218_0)).trans hw218_0), ((HB.out.cell (World.block_lt_of_cell? w _ hw218_1)).trans hw218_1)⟩ (fun hHeld => ?_); refine with_tabW impl_IsTable.tab4 impl_IsTable.bits4 (fun HT_ HW_ => ?_)
           generalize w18.drew = w19 at BK213 BK215 HB HR218_1 hx218_0 hx218_1 hHeld ⊢
           refine pu 0 13 (tf 1 29) ?_
           refine tk 1 14 (tf 2 28) hHeld ?_
           refine on 2 15 (tf 3 27) (fun K hK => ?_)
           refine gs Tryz.func50 #[.string ((rd_T58 l0_0 x8_1).f0)] ?_
           with_reducible refine (impl_IsName.calls k1 ((rd_T58 l0_0 x8_1).f0) true _ A7.out).mono ?_
           rintro e w' ⟨rfl, ⟨nd, rfl⟩⟩
           refine ⟨_, rfl, ?_⟩
           refine hK.out _ _ ⟨bc BK215 0, bc BK215 1, bc BK213 0, ((HB.out.cell (World.block_lt_of_cell? w _ hw218_0)).trans hw218_0), ((HB.out.cell (World.block_lt_of_cell? w _ hw218_1)).trans hw218_1)⟩ (fun hHeld => ?_)
           clear hK K
           refine nm 15 ?_
           refine pu 3 16 (tf 4 26) ?_
           refine pu 4 17 (tf 5 25) ?_
           refine pu 5 18 (tf 6 24) ?_
           refine tk 6 19 (tf 7 23) hHeld ?_
           refine on 7 20 (tf 8 22) (fun K hK => ?_)
           refine gs Tryz.func51 #[.slice A214_1 ((rd_T58 l0_0 x8_1).f1).length c214_1] ?_
           with_reducible refine (impl_AreValues.calls _ _ ((rd_T58 l0_0 x8_1).f1) true _ ?side1 ?side2 A9.out).mono ?_
           (case side1 => exact uc (Kd.C_below HR214_1.out bl))
           (case side2 => exact HC214_1.out)
           rintro e w20 ⟨rfl, hb⟩
           refine ⟨_, rfl, ?_⟩
           replace BK213 := wb BK213 hb
           replace BK215 := wb BK215 hb
           replace HB := wh hb
           (try clear hb)
           (try clear hb2)
           (try clear hk)
           (try clear hi)
           refine hK.out _ _ ⟨bc BK215 0, bc BK215 1, bc BK213 0, ((HB.out.cell (World.block_lt_of_cell? w _ hw218_0)).trans hw218_0), ((HB.out.cell (World.block_lt_of_cell? w _ hw218_1)).trans hw218_1)⟩ (fun hHeld => ?_)
           clear hK K
           refine nm 20 ?_
           refine pu 8 21 (tf 9 21) ?_
           refine pu 9 22 (tf 10 20) ?_
           refine pu 10 23 (tf 11 19) ?_
           refine pu 11 24 (tf 12 18) ?_
           refine pu 14 27 #[T_,T_,T_,T_,T_,T_,T_,T_,T_,T_,T_,T_,F_,F_,T_,F_,F_,F_,F_,F_,F_,F_,F_,F_,F_,F_,F_,F_,F_,F_] ?_
           refine tk 12 25 #[T_,T_,T_,T_,T_,T_,T_,T_,T_,T_,T_,T_,T_,F_,T_,F_,F_,F_,F_,F_,F_,F_,F_,F_,F_,F_,F_,F_,F_,F_] hHeld ?_
           refine pu 13 26 (tf 15 15) ?_
           refine tk 15 28 (tf 16 14) hHeld ?_
           refine pu 16 29 (tf 17 13) ?_
           refine pu 17 30 (tf 18 12) ?_
           refine tk 18 31 (tf 19 11) hHeld ?_
           refine pu 19 32 (tf 20 10) ?_
           refine pu 20 33 (tf 21 9) ?_
           refine pu 21 34 (tf 22 8) ?_
           refine pu 22 35 (tf 23 7) ?_
           refine pu 24 37 #[T_,T_,T_,T_,T_,T_,T_,T_,T_,T_,T_,T_,T_,T_,T_,T_,T_,T_,T_,T_,T_,T_,T_,F_,T_,F_,F_,F_,F_,F_] ?_
           refine pu 27 40 #[T_,T_,T_,T_,T_,T_,T_,T_,T_,T_,T_,T_,T_,T_,T_,T_,T_,T_,T_,T_,T_,T_,T_,F_,T_,F_,F_,T_,F_,F_] ?_
           refine tk 23 36 #[T_,T_,T_,T_,T_,T_,T_,T_,T_,T_,T_,T_,T_,T_,T_,T_,T_,T_,T_,T_,T_,T_,T_,T_,T_,F_,F_,T_,F_,F_] hHeld ?_
           refine tk 25 38 #[T_,T_,T_,T_,T_,T_,T_,T_,T_,T_,T_,T_,T_,T_,T_,T_,T_,T_,T_,T_,T_,T_,T_,T_,T_,T_,F_,T_,F_,F_] hHeld ?_
           refine on 26 39 (tf 28 2) (fun K hK => ?_)
           refine gs Tryz.func26 #[.agg #[.slice (some ad214) l0_0.length c0_0], .string ((rd_T58 l0_0 x8_1).f0)] ?_
           with_reducible refine (impl_FindColumn.calls _ _ l0_0 ((rd_T58 l0_0 x8_1).f0) t219 _ ?side1 ?side2 A13.out).mono ?_
           (case side1 => exact uc (Kd.C_below HR0_0.out HB.out))
           (case side2 => exact HC0_0.out)
           rintro e w21 ⟨rfl, hb⟩
           refine ⟨_, rfl, ?_⟩
           replace BK213 := wb BK213 hb
           replace BK215 := wb BK215 hb
           replace HB := wh hb
           (try clear hb)
           (try clear hb2)
           (try clear hk)
           (try clear hi)
           refine hK.out _ _ ⟨bc BK215 0, bc BK215 1, bc BK213 0, ((HB.out.cell (World.block_lt_of_cell? w _ hw218_0)).trans hw218_0), ((HB.out.cell (World.block_lt_of_cell? w _ hw218_1)).trans hw218_1)⟩ (fun hHeld => ?_)
           clear hK K
           refine nm 39 ?_
           refine pu 28 41 (tf 29 1) ?_
           refine pu 29 42 (tf 30 0) ?_
           refine done_ (done_of HT_.out (by kernel_rfl)) ?_
           try go_wp2
           go_roundg k1
           case measure => have := HK1.out; omega
           case rel => exact ⟨(wrap64 (x8_1 + 1)), (by first | rfl | (simp; done) | (simp [*]; done)), H', ⟨by have := HK1.out; omega⟩, ⟨ub BK213.out⟩, ⟨bl⟩⟩
          ·rw [if_neg c14] at H
           have c14b0 : (t219 == x8_1) = false := beq_eq_false_iff_ne.mpr c14
           have c14b1 : (t219 != x8_1) = true := bne_iff_ne.mpr c14
           obtain rfl := Option.some.inj H
           have p214 : 0 ≤ (x8_1 : Int) := dt
           have q214 : x8_1 < (l0_0.length : Int) := dt
           obtain ⟨ad214, A214_1, c214_1, e214, hx214_0, hx214_1, hl214_1, hi214_1⟩ := at_T58 HR0_0.out x8_1 p214 q214
           cases e214
           replace hx214_0 := (HB.out.cell (World.block_lt_of_cell? w _ hx214_0)).trans hx214_0
           replace hx214_1 := (HB.out.cell (World.block_lt_of_cell? w _ hx214_1)).trans hx214_1
           have HR214_1 := Aside0.mk hi214_1
           have HC214_1 := Aside0.mk hl214_1
           clear hi214_1 hl214_1
           replace p214 := eq_true p214
           replace q214 := eq_true q214
           try go_wp2_with (first | ((with_reducible refine gate_dst (N := 4) rfl ?_); (try (refine gate_guard (by rfl) ?_; dsimp only)); refine bx 4 #[.string (⟨#[]⟩ : ByteArray), .slice none 0 0] 58 ?_; intro gb215 hg w22 hbox hb; have BK215 := mk hbox; have GW215 := wg hg; have GE215 := wg hg; replace HB := wh hb; have NB213_215 := nl BK213 hg; have NB215_213 := nr BK213 hg; replace BK213 := wb BK213 hb; clear hb hbox hg; have hnb23 := NB215_213.out; have hnc23 := NB213_215.out; obtain ⟨hcz24_0, hcz24_1, hfz24_0, hfz24_1⟩ := bz2 BK215))
           have n0_ : Aside0 (((w22.setCell ⟨gb215, 0, none⟩ (.string ((rd_T58 l0_0 x8_1).f0))).setCell ⟨gb215, 1, none⟩ (.slice A214_1 ((rd_T58 l0_0 x8_1).f1).length c214_1)).heap[gb213]? = some (.cells #[.slice (some ad214) l0_0.length c0_0] 26 (0, 0))) := ⟨bq⟩
           have n1_ : Aside0 (((w22.setCell ⟨gb215, 0, none⟩ (.string ((rd_T58 l0_0 x8_1).f0))).setCell ⟨gb215, 1, none⟩ (.slice A214_1 ((rd_T58 l0_0 x8_1).f1).length c214_1)).heap[gb215]? = some (.cells #[.string ((rd_T58 l0_0 x8_1).f0), .slice A214_1 ((rd_T58 l0_0 x8_1).f1).length c214_1] 58 (0, 0))) := ⟨bq⟩
           have n2_ : Aside0 (Below w.heap.size w ((w22.setCell ⟨gb215, 0, none⟩ (.string ((rd_T58 l0_0 x8_1).f0))).setCell ⟨gb215, 1, none⟩ (.slice A214_1 ((rd_T58 l0_0 x8_1).f1).length c214_1))) := ⟨bl⟩
           (try clear BK213)
           (try clear BK215)
           (try clear HB)
           generalize ((w22.setCell ⟨gb215, 0, none⟩ (.string ((rd_T58 l0_0 x8_1).f0))).setCell ⟨gb215, 1, none⟩ (.slice A214_1 ((rd_T58 l0_0 x8_1).f1).length c214_1)) = w25 at n0_ n1_ n2_ ⊢
           have BK213 := n0_
           have BK215 := n1_
           have HB := n2_
           clear n0_ n1_ n2_
           replace BK213 := wd BK213
           replace BK215 := wd BK215
           replace HB := mk (below_drew1 HB.out)
           have p218 : 0 ≤ (0 : Int) := (by omega)
           have q218 : 0 < (l0_0.length : Int) := dt
           obtain ⟨ad218, A218_1, c218_1, e218, hx218_0, hx218_1, hl218_1, hi218_1⟩ := at_T58 HR0_0.out 0 p218 q218
           have hw218_1 := hx218_1
           (try rw [show ((0 : Int)).toNat = 0 from rfl] at hw218_1)
           (try rw [show 0 * 2 = 0 from rfl] at hw218_1)
           (try rw [Addr.add_zero'] at hw218_1)
           have hw218_0 := hx218_0
           (try rw [show ((0 : Int)).toNat = 0 from rfl] at hw218_0)
           (try rw [show 0 * 2 = 0 from rfl] at hw218_0)
           (try rw [Addr.add_zero'] at hw218_0)
           obtain rfl : ad214 = ad218 := (by injection e218)
           have qi218 : (0 < l0_0.length) = True := eq_true (by omega)
           (try rw [show ((0 : Int)).toNat = 0 from rfl] at hx218_0)
           (try rw [show 0 * 2 = 0 from rfl] at hx218_0)
           (try rw [Addr.add_zero'] at hx218_0)
           (try rw [show ((0 : Int)).toNat = 0 from rfl] at hx218_1)
           (try rw [show 0 * 2 = 0 from rfl] at hx218_1)
           (try rw [Addr.add_zero'] at hx218_1)
           replace hx218_0 := (HB.out.cell (World.block_lt_of_cell? w _ hx218_0)).trans hx218_0
           replace hx218_1 := (HB.out.cell (World.block_lt_of_cell? w _ hx218_1)).trans hx218_1
           have HR218_1 := Aside0.mk hi218_1
           have HC218_1 := Aside0.mk hl218_1
           clear hi218_1 hl218_1
           replace p218 := eq_true p218
           replace q218 := eq_true q218
           refine start_ (n := 30) (S := fun w' => w'.cell? ⟨gb215, 0, none⟩ = some (.string ((rd_T58 l0_0 x8_1).f0)) ∧ w'.cell? ⟨gb215, 1, none⟩ = some (.slice A214_1 ((rd_T58 l0_0 x8_1).f1).length c214_1) ∧ w'.cell? ⟨gb213, 0, none⟩ = some (.slice (some ad214) l0_0.length c0_0) ∧ w'.cell? ad214 = some (.string ((rd_T58 l0_0 0).f0)) ∧ w'.cell? ⟨ad214.block, ad214.off + 1, none⟩ = some (.slice A218_1 ((rd_T58 l0_0 0).f1).length c218_1)) (ds := []) #[F_, F_, F_, F_, F_, F_, F_, F_, F_, F_, F_, F_, F_, F_, F_, F_, F_, F_, F_, F_, F_, F_, F_, F_, F_, F_, F_, F_, F_, F_] (by kernel_rfl) rfl rfl ⟨bc BK215 0, bc BK215 1, bc BK213 0, ((HB.out.cell (World.block_lt_of_cell? w _ hw218_0)).trans hw218_0), ((HB.out.cell (World.block_lt_of_cell? w _ hw218_1)).trans hw218_1)⟩ (fun hHeld => ?_); refine with_tabW impl_IsTable.tab4 impl_IsTable.bits4 (fun HT_ HW_ => ?_)
           generalize w25.drew = w26 at BK213 BK215 HB HR218_1 hx218_0 hx218_1 hHeld ⊢
           refine pu 0 13 (tf 1 29) ?_
           refine tk 1 14 (tf 2 28) hHeld ?_
           refine on 2 15 (tf 3 27) (fun K hK => ?_)
           refine gs Tryz.func50 #[.string ((rd_T58 l0_0 x8_1).f0)] ?_
           with_reducible refine (impl_IsName.calls k1 ((rd_T58 l0_0 x8_1).f0) true _ A7.out).mono ?_
           rintro e w' ⟨rfl, ⟨nd, rfl⟩⟩
           refine ⟨_, rfl, ?_⟩
           refine hK.out _ _ ⟨bc BK215 0, bc BK215 1, bc BK213 0, ((HB.out.cell (World.block_lt_of_cell? w _ hw218_0)).trans hw218_0), ((HB.out.cell (World.block_lt_of_cell? w _ hw218_1)).trans hw218_1)⟩ (fun hHeld => ?_)
           clear hK K
           refine nm 15 ?_
           refine pu 3 16 (tf 4 26) ?_
           refine pu 4 17 (tf 5 25) ?_
           refine pu 5 18 (tf 6 24) ?_
           refine tk 6 19 (tf 7 23) hHeld ?_
           refine on 7 20 (tf 8 22) (fun K hK => ?_)
           refine gs Tryz.func51 #[.slice A214_1 ((rd_T58 l0_0 x8_1).f1).length c214_1] ?_
           with_reducible refine (impl_AreValues.calls _ _ ((rd_T58 l0_0 x8_1).f1) true _ ?side1 ?side2 A9.out).mono ?_
           (case side1 => exact uc (Kd.C_below HR214_1.out bl))
           (case side2 => exact HC214_1.out)
           rintro e w27 ⟨rfl, hb⟩
           refine ⟨_, rfl, ?_⟩
           replace BK213 := wb BK213 hb
           replace BK215 := wb BK215 hb
           replace HB := wh hb
           (try clear hb)
           (try clear hb2)
           (try clear hk)
           (try clear hi)
           refine hK.out _ _ ⟨bc BK215 0, bc BK215 1, bc BK213 0, ((HB.out.cell (World.block_lt_of_cell? w _ hw218_0)).trans hw218_0), ((HB.out.cell (World.block_lt_of_cell? w _ hw218_1)).trans hw218_1)⟩ (fun hHeld => ?_)
           clear hK K
           refine nm 20 ?_
           refine pu 8 21 (tf 9 21) ?_
           refine pu 9 22 (tf 10 20) ?_
           refine pu 10 23 (tf 11 19) ?_
           refine pu 11 24 (tf 12 18) ?_
           refine pu 14 27 #[T_,T_,T_,T_,T_,T_,T_,T_,T_,T_,T_,T_,F_,F_,T_,F_,F_,F_,F_,F_,F_,F_,F_,F_,F_,F_,F_,F_,F_,F_] ?_
           refine tk 12 25 #[T_,T_,T_,T_,T_,T_,T_,T_,T_,T_,T_,T_,T_,F_,T_,F_,F_,F_,F_,F_,F_,F_,F_,F_,F_,F_,F_,F_,F_,F_] hHeld ?_
           refine pu 13 26 (tf 15 15) ?_
           refine tk 15 28 (tf 16 14) hHeld ?_
           refine pu 16 29 (tf 17 13) ?_
           refine pu 17 30 (tf 18 12) ?_
           refine tk 18 31 (tf 19 11) hHeld ?_
           refine pu 19 32 (tf 20 10) ?_
           refine pu 20 33 (tf 21 9) ?_
           refine pu 21 34 (tf 22 8) ?_
           refine pu 22 35 (tf 23 7) ?_
           refine pu 24 37 #[T_,T_,T_,T_,T_,T_,T_,T_,T_,T_,T_,T_,T_,T_,T_,T_,T_,T_,T_,T_,T_,T_,T_,F_,T_,F_,F_,F_,F_,F_] ?_
           refine pu 27 40 #[T_,T_,T_,T_,T_,T_,T_,T_,T_,T_,T_,T_,T_,T_,T_,T_,T_,T_,T_,T_,T_,T_,T_,F_,T_,F_,F_,T_,F_,F_] ?_
           refine tk 23 36 #[T_,T_,T_,T_,T_,T_,T_,T_,T_,T_,T_,T_,T_,T_,T_,T_,T_,T_,T_,T_,T_,T_,T_,T_,T_,F_,F_,T_,F_,F_] hHeld ?_
           refine tk 25 38 #[T_,T_,T_,T_,T_,T_,T_,T_,T_,T_,T_,T_,T_,T_,T_,T_,T_,T_,T_,T_,T_,T_,T_,T_,T_,T_,F_,T_,F_,F_] hHeld ?_
           refine on 26 39 (tf 28 2) (fun K hK => ?_)
           refine gs Tryz.func26 #[.agg #[.slice (some ad214) l0_0.length c0_0], .string ((rd_T58 l0_0 x8_1).f0)] ?_
           with_reducible refine (impl_FindColumn.calls _ _ l0_0 ((rd_T58 l0_0 x8_1).f0) t219 _ ?side1 ?side2 A13.out).mono ?_
           (case side1 => exact uc (Kd.C_below HR0_0.out HB.out))
           (case side2 => exact HC0_0.out)
           rintro e w28 ⟨rfl, hb⟩
           refine ⟨_, rfl, ?_⟩
           replace BK213 := wb BK213 hb
           replace BK215 := wb BK215 hb
           replace HB := wh hb
           (try clear hb)
           (try clear hb2)
           (try clear hk)
           (try clear hi)
           refine hK.out _ _ ⟨bc BK215 0, bc BK215 1, bc BK213 0, ((HB.out.cell (World.block_lt_of_cell? w _ hw218_0)).trans hw218_0), ((HB.out.cell (World.block_lt_of_cell? w _ hw218_1)).trans hw218_1)⟩ (fun hHeld => ?_)
           clear hK K
           refine nm 39 ?_
           refine pu 28 41 (tf 29 1) ?_
           refine pu 29 42 (tf 30 0) ?_
           refine done_ (done_of HT_.out (by kernel_rfl)) ?_
           try go_wp2
           go_ret
           exact ⟨by first | rfl | (simp [errW_none, errW_some] <;> rfl) | (simp [*, errW_none, errW_some] <;> rfl), bl⟩
         ·rw [if_neg c12] at H
          have c12b0 : ((((rd_T58 l0_0 x8_1).f1).length : Int) == (((rd_T58 l0_0 0).f1).length : Int)) = false := beq_eq_false_iff_ne.mpr c12
          have c12b1 : ((((rd_T58 l0_0 x8_1).f1).length : Int) != (((rd_T58 l0_0 0).f1).length : Int)) = true := bne_iff_ne.mpr c12
          have c12b2 : (((rd_T58 l0_0 x8_1).f1).length == ((rd_T58 l0_0 0).f1).length) = false := by first | simpa using c12 | (simp at c12 ⊢; omega)
          obtain rfl := Option.some.inj H
          have p214 : 0 ≤ (x8_1 : Int) := dt
          have q214 : x8_1 < (l0_0.length : Int) := dt
          obtain ⟨ad214, A214_1, c214_1, e214, hx214_0, hx214_1, hl214_1, hi214_1⟩ := at_T58 HR0_0.out x8_1 p214 q214
          cases e214
          replace hx214_0 := (HB.out.cell (World.block_lt_of_cell? w _ hx214_0)).trans hx214_0
          replace hx214_1 := (HB.out.cell (World.block_lt_of_cell? w _ hx214_1)).trans hx214_1
          have HR214_1 := Aside0.mk hi214_1
          have HC214_1 := Aside0.mk hl214_1
          clear hi214_1 hl214_1
          replace p214 := eq_true p214
          replace q214 := eq_true q214
          try go_wp2_with (first | ((with_reducible refine gate_dst (N := 4) rfl ?_); (try (refine gate_guard (by rfl) ?_; dsimp only)); refine bx 4 #[.string (⟨#[]⟩ : ByteArray), .slice none 0 0] 58 ?_; intro gb215 hg w29 hbox hb; have BK215 := mk hbox; have GW215 := wg hg; have GE215 := wg hg; replace HB := wh hb; have NB213_215 := nl BK213 hg; have NB215_213 := nr BK213 hg; replace BK213 := wb BK213 hb; clear hb hbox hg; have hnb30 := NB215_213.out; have hnc30 := NB213_215.out; obtain ⟨hcz31_0, hcz31_1, hfz31_0, hfz31_1⟩ := bz2 BK215))
          have n0_ : Aside0 (((w29.setCell ⟨gb215, 0, none⟩ (.string ((rd_T58 l0_0 x8_1).f0))).setCell ⟨gb215, 1, none⟩ (.slice A214_1 ((rd_T58 l0_0 x8_1).f1).length c214_1)).heap[gb213]? = some (.cells #[.slice (some ad214) l0_0.length c0_0] 26 (0, 0))) := ⟨bq⟩
          have n1_ : Aside0 (((w29.setCell ⟨gb215, 0, none⟩ (.string ((rd_T58 l0_0 x8_1).f0))).setCell ⟨gb215, 1, none⟩ (.slice A214_1 ((rd_T58 l0_0 x8_1).f1).length c214_1)).heap[gb215]? = some (.cells #[.string ((rd_T58 l0_0 x8_1).f0), .slice A214_1 ((rd_T58 l0_0 x8_1).f1).length c214_1] 58 (0, 0))) := ⟨bq⟩
          have n2_ : Aside0 (Below w.heap.size w ((w29.setCell ⟨gb215, 0, none⟩ (.string ((rd_T58 l0_0 x8_1).f0))).setCell ⟨gb215, 1, none⟩ (.slice A214_1 ((rd_T58 l0_0 x8_1).f1).length c214_1))) := ⟨bl⟩
          (try clear BK213)
          (try clear BK215)
          (try clear HB)
          generalize ((w29.setCell ⟨gb215, 0, none⟩ (.string ((rd_T58 l0_0 x8_1).f0))).setCell ⟨gb215, 1, none⟩ (.slice A214_1 ((rd_T58 l0_0 x8_1).f1).length c214_1)) = w32 at n0_ n1_ n2_ ⊢
          have BK213 := n0_
          have BK215 := n1_
          have HB := n2_
          clear n0_ n1_ n2_
          replace BK213 := wd BK213
          replace BK215 := wd BK215
          replace HB := mk (below_drew1 HB.out)
          have p218 : 0 ≤ (0 : Int) := (by omega)
          have q218 : 0 < (l0_0.length : Int) := dt
          obtain ⟨ad218, A218_1, c218_1, e218, hx218_0, hx218_1, hl218_1, hi218_1⟩ := at_T58 HR0_0.out 0 p218 q218
          have hw218_1 := hx218_1
          (try rw [show ((0 : Int)).toNat = 0 from rfl] at hw218_1)
          (try rw [show 0 * 2 = 0 from rfl] at hw218_1)
          (try rw [Addr.add_zero'] at hw218_1)
          have hw218_0 := hx218_0
          (try rw [show ((0 : Int)).toNat = 0 from rfl] at hw218_0)
          (try rw [show 0 * 2 = 0 from rfl] at hw218_0)
          (try rw [Addr.add_zero'] at hw218_0)
          obtain rfl : ad214 = ad218 := (by injection e218)
          have qi218 : (0 < l0_0.length) = True := eq_true (by omega)
          (try rw [show ((0 : Int)).toNat = 0 from rfl] at hx218_0)
          (try rw [show 0 * 2 = 0 from rfl] at hx218_0)
          (try rw [Addr.add_zero'] at hx218_0)
          (try rw [show ((0 : Int)).toNat = 0 from rfl] at hx218_1)
          (try rw [show 0 * 2 = 0 from rfl] at hx218_1)
          (try rw [Addr.add_zero'] at hx218_1)
          replace hx218_0 := (HB.out.cell (World.block_lt_of_cell? w _ hx218_0)).trans hx218_0
          replace hx218_1 := (HB.out.cell (World.block_lt_of_cell? w _ hx218_1)).trans hx218_1
          have HR218_1 := Aside0.mk hi218_1
          have HC218_1 := Aside0.mk hl218_1
          clear hi218_1 hl218_1
          replace p218 := eq_true p218
          replace q218 := eq_true q218
          refine start_ (n := 30) (S := fun w' => w'.cell? ⟨gb215, 0, none⟩ = some (.string ((rd_T58 l0_0 x8_1).f0)) ∧ w'.cell? ⟨gb215, 1, none⟩ = some (.slice A214_1 ((rd_T58 l0_0 x8_1).f1).length c214_1) ∧ w'.cell? ⟨gb213, 0, none⟩ = some (.slice (some ad214) l0_0.length c0_0) ∧ w'.cell? ad214 = some (.string ((rd_T58 l0_0 0).f0)) ∧ w'.cell? ⟨ad214.block, ad214.off + 1, none⟩ = some (.slice A218_1 ((rd_T58 l0_0 0).f1).length c218_1)) (ds := []) #[F_, F_, F_, F_, F_, F_, F_, F_, F_, F_, F_, F_, F_, F_, F_, F_, F_, F_, F_, F_, F_, F_, F_, F_, F_, F_, F_, F_, F_, F_] (by kernel_rfl) rfl rfl ⟨bc BK215 0, bc BK215 1, bc BK213 0, ((HB.out.cell (World.block_lt_of_cell? w _ hw218_0)).trans hw218_0), ((HB.out.cell (World.block_lt_of_cell? w _ hw218_1)).trans hw218_1)⟩ (fun hHeld => ?_); refine with_tabW impl_IsTable.tab4 impl_IsTable.bits4 (fun HT_ HW_ => ?_)
          generalize w32.drew = w33 at BK213 BK215 HB HR218_1 hx218_0 hx218_1 hHeld ⊢
          refine pu 0 13 (tf 1 29) ?_
          refine tk 1 14 (tf 2 28) hHeld ?_
          refine on 2 15 (tf 3 27) (fun K hK => ?_)
          refine gs Tryz.func50 #[.string ((rd_T58 l0_0 x8_1).f0)] ?_
          with_reducible refine (impl_IsName.calls k1 ((rd_T58 l0_0 x8_1).f0) true _ A7.out).mono ?_
          rintro e w' ⟨rfl, ⟨nd, rfl⟩⟩
          refine ⟨_, rfl, ?_⟩
          refine hK.out _ _ ⟨bc BK215 0, bc BK215 1, bc BK213 0, ((HB.out.cell (World.block_lt_of_cell? w _ hw218_0)).trans hw218_0), ((HB.out.cell (World.block_lt_of_cell? w _ hw218_1)).trans hw218_1)⟩ (fun hHeld => ?_)
          clear hK K
          refine nm 15 ?_
          refine pu 3 16 (tf 4 26) ?_
          refine pu 4 17 (tf 5 25) ?_
          refine pu 5 18 (tf 6 24) ?_
          refine tk 6 19 (tf 7 23) hHeld ?_
          refine on 7 20 (tf 8 22) (fun K hK => ?_)
          refine gs Tryz.func51 #[.slice A214_1 ((rd_T58 l0_0 x8_1).f1).length c214_1] ?_
          with_reducible refine (impl_AreValues.calls _ _ ((rd_T58 l0_0 x8_1).f1) true _ ?side1 ?side2 A9.out).mono ?_
          (case side1 => exact uc (Kd.C_below HR214_1.out bl))
          (case side2 => exact HC214_1.out)
          rintro e w34 ⟨rfl, hb⟩
          refine ⟨_, rfl, ?_⟩
          replace BK213 := wb BK213 hb
          replace BK215 := wb BK215 hb
          replace HB := wh hb
          (try clear hb)
          (try clear hb2)
          (try clear hk)
          (try clear hi)
          refine hK.out _ _ ⟨bc BK215 0, bc BK215 1, bc BK213 0, ((HB.out.cell (World.block_lt_of_cell? w _ hw218_0)).trans hw218_0), ((HB.out.cell (World.block_lt_of_cell? w _ hw218_1)).trans hw218_1)⟩ (fun hHeld => ?_)
          clear hK K
          refine nm 20 ?_
          refine pu 8 21 (tf 9 21) ?_
          refine pu 9 22 (tf 10 20) ?_
          refine pu 10 23 (tf 11 19) ?_
          refine pu 11 24 (tf 12 18) ?_
          refine pu 14 27 #[T_,T_,T_,T_,T_,T_,T_,T_,T_,T_,T_,T_,F_,F_,T_,F_,F_,F_,F_,F_,F_,F_,F_,F_,F_,F_,F_,F_,F_,F_] ?_
          refine tk 12 25 #[T_,T_,T_,T_,T_,T_,T_,T_,T_,T_,T_,T_,T_,F_,T_,F_,F_,F_,F_,F_,F_,F_,F_,F_,F_,F_,F_,F_,F_,F_] hHeld ?_
          refine pu 13 26 (tf 15 15) ?_
          refine tk 15 28 (tf 16 14) hHeld ?_
          refine pu 16 29 (tf 17 13) ?_
          refine pu 17 30 (tf 18 12) ?_
          refine tk 18 31 (tf 19 11) hHeld ?_
          refine pu 19 32 (tf 20 10) ?_
          refine pu 20 33 (tf 21 9) ?_
          refine pu 21 34 (tf 22 8) ?_
          refine pu 22 35 (tf 23 7) ?_
          refine pn 23 36 (tf 24 6) ?_
          refine pn 24 37 (tf 25 5) ?_
          refine pn 25 38 (tf 26 4) ?_
          refine pn 26 39 (tf 27 3) ?_
          refine pn 27 40 (tf 28 2) ?_
          refine pn 28 41 (tf 29 1) ?_
          refine pu 29 42 (tf 30 0) ?_
          refine done_ (done_of HT_.out (by kernel_rfl)) ?_
          try go_wp2
          go_ret
          exact ⟨by first | rfl | (simp [errW_none, errW_some] <;> rfl) | (simp [*, errW_none, errW_some] <;> rfl), bl⟩
        ·rw [if_neg c11] at H
         exact absurd H (by simp)
       ·replace c10 := Bool.eq_false_iff.mpr c10
        subst c10
        rw [if_neg nf] at H
        obtain rfl := Option.some.inj H
        have p214 : 0 ≤ (x8_1 : Int) := dt
        have q214 : x8_1 < (l0_0.length : Int) := dt
        obtain ⟨ad214, A214_1, c214_1, e214, hx214_0, hx214_1, hl214_1, hi214_1⟩ := at_T58 HR0_0.out x8_1 p214 q214
        cases e214
        replace hx214_0 := (HB.out.cell (World.block_lt_of_cell? w _ hx214_0)).trans hx214_0
        replace hx214_1 := (HB.out.cell (World.block_lt_of_cell? w _ hx214_1)).trans hx214_1
        have HR214_1 := Aside0.mk hi214_1
        have HC214_1 := Aside0.mk hl214_1
        clear hi214_1 hl214_1
        replace p214 := eq_true p214
        replace q214 := eq_true q214
        try go_wp2_with (first | ((with_reducible refine gate_dst (N := 4) rfl ?_); (try (refine gate_guard (by rfl) ?_; dsimp only)); refine bx 4 #[.string (⟨#[]⟩ : ByteArray), .slice none 0 0] 58 ?_; intro gb215 hg w35 hbox hb; have BK215 := mk hbox; have GW215 := wg hg; have GE215 := wg hg; replace HB := wh hb; have NB213_215 := nl BK213 hg; have NB215_213 := nr BK213 hg; replace BK213 := wb BK213 hb; clear hb hbox hg; have hnb36 := NB215_213.out; have hnc36 := NB213_215.out; obtain ⟨hcz37_0, hcz37_1, hfz37_0, hfz37_1⟩ := bz2 BK215))
        have n0_ : Aside0 (((w35.setCell ⟨gb215, 0, none⟩ (.string ((rd_T58 l0_0 x8_1).f0))).setCell ⟨gb215, 1, none⟩ (.slice A214_1 ((rd_T58 l0_0 x8_1).f1).length c214_1)).heap[gb213]? = some (.cells #[.slice (some ad214) l0_0.length c0_0] 26 (0, 0))) := ⟨bq⟩
        have n1_ : Aside0 (((w35.setCell ⟨gb215, 0, none⟩ (.string ((rd_T58 l0_0 x8_1).f0))).setCell ⟨gb215, 1, none⟩ (.slice A214_1 ((rd_T58 l0_0 x8_1).f1).length c214_1)).heap[gb215]? = some (.cells #[.string ((rd_T58 l0_0 x8_1).f0), .slice A214_1 ((rd_T58 l0_0 x8_1).f1).length c214_1] 58 (0, 0))) := ⟨bq⟩
        have n2_ : Aside0 (Below w.heap.size w ((w35.setCell ⟨gb215, 0, none⟩ (.string ((rd_T58 l0_0 x8_1).f0))).setCell ⟨gb215, 1, none⟩ (.slice A214_1 ((rd_T58 l0_0 x8_1).f1).length c214_1))) := ⟨bl⟩
        (try clear BK213)
        (try clear BK215)
        (try clear HB)
        generalize ((w35.setCell ⟨gb215, 0, none⟩ (.string ((rd_T58 l0_0 x8_1).f0))).setCell ⟨gb215, 1, none⟩ (.slice A214_1 ((rd_T58 l0_0 x8_1).f1).length c214_1)) = w38 at n0_ n1_ n2_ ⊢
        have BK213 := n0_
        have BK215 := n1_
        have HB := n2_
        clear n0_ n1_ n2_
        replace BK213 := wd BK213
        replace BK215 := wd BK215
        replace HB := mk (below_drew1 HB.out)
        refine start_ (n := 30) (S := fun w' => w'.cell? ⟨gb215, 0, none⟩ = some (.string ((rd_T58 l0_0 x8_1).f0)) ∧ w'.cell? ⟨gb215, 1, none⟩ = some (.slice A214_1 ((rd_T58 l0_0 x8_1).f1).length c214_1)) (ds := []) #[F_, F_, F_, F_, F_, F_, F_, F_, F_, F_, F_, F_, F_, F_, F_, F_, F_, F_, F_, F_, F_, F_, F_, F_, F_, F_, F_, F_, F_, F_] (by kernel_rfl) rfl rfl ⟨bc BK215 0, bc BK215 1⟩ (fun hHeld => ?_); refine with_tabW impl_IsTable.tab4 impl_IsTable.bits4 (fun HT_ HW_ => ?_)
        generalize w38.drew = w39 at BK213 BK215 HB hHeld ⊢
        refine pu 0 13 (tf 1 29) ?_
        refine tk 1 14 (tf 2 28) hHeld ?_
        refine on 2 15 (tf 3 27) (fun K hK => ?_)
        refine gs Tryz.func50 #[.string ((rd_T58 l0_0 x8_1).f0)] ?_
        with_reducible refine (impl_IsName.calls k1 ((rd_T58 l0_0 x8_1).f0) true _ A7.out).mono ?_
        rintro e w' ⟨rfl, ⟨nd, rfl⟩⟩
        refine ⟨_, rfl, ?_⟩
        refine hK.out _ _ ⟨bc BK215 0, bc BK215 1⟩ (fun hHeld => ?_)
        clear hK K
        refine nm 15 ?_
        refine pu 3 16 (tf 4 26) ?_
        refine pu 4 17 (tf 5 25) ?_
        refine pu 5 18 (tf 6 24) ?_
        refine tk 6 19 (tf 7 23) hHeld ?_
        refine on 7 20 (tf 8 22) (fun K hK => ?_)
        refine gs Tryz.func51 #[.slice A214_1 ((rd_T58 l0_0 x8_1).f1).length c214_1] ?_
        with_reducible refine (impl_AreValues.calls _ _ ((rd_T58 l0_0 x8_1).f1) false _ ?side1 ?side2 A9.out).mono ?_
        (case side1 => exact uc (Kd.C_below HR214_1.out bl))
        (case side2 => exact HC214_1.out)
        rintro e w40 ⟨rfl, hb⟩
        refine ⟨_, rfl, ?_⟩
        replace BK213 := wb BK213 hb
        replace BK215 := wb BK215 hb
        replace HB := wh hb
        (try clear hb)
        (try clear hb2)
        (try clear hk)
        (try clear hi)
        refine hK.out _ _ ⟨bc BK215 0, bc BK215 1⟩ (fun hHeld => ?_)
        clear hK K
        refine nm 20 ?_
        refine pu 8 21 (tf 9 21) ?_
        refine pu 9 22 (tf 10 20) ?_
        refine pu 10 23 (tf 11 19) ?_
        refine pn 11 24 (tf 12 18) ?_
        refine pn 12 25 (tf 13 17) ?_
        refine pn 13 26 (tf 14 16) ?_
        refine pn 14 27 (tf 15 15) ?_
        refine pn 15 28 (tf 16 14) ?_
        refine pn 16 29 (tf 17 13) ?_
        refine pn 17 30 (tf 18 12) ?_
        refine pn 18 31 (tf 19 11) ?_
        refine pn 19 32 (tf 20 10) ?_
        refine pn 20 33 (tf 21 9) ?_
        refine pu 21 34 (tf 22 8) ?_
        refine pu 22 35 (tf 23 7) ?_
        refine pn 23 36 (tf 24 6) ?_
        refine pn 24 37 (tf 25 5) ?_
        refine pn 25 38 (tf 26 4) ?_
        refine pn 26 39 (tf 27 3) ?_
        refine pn 27 40 (tf 28 2) ?_
        refine pn 28 41 (tf 29 1) ?_
        refine pu 29 42 (tf 30 0) ?_
        refine done_ (done_of HT_.out (by kernel_rfl)) ?_
        try go_wp2
        go_ret
        exact ⟨by first | rfl | (simp [errW_none, errW_some] <;> rfl) | (simp [*, errW_none, errW_some] <;> rfl), bl⟩
      ·replace c8 := Bool.eq_false_iff.mpr c8
       subst c8
       rw [if_neg nf] at H
       obtain rfl := Option.some.inj H
       have p214 : 0 ≤ (x8_1 : Int) := dt
       have q214 : x8_1 < (l0_0.length : Int) := dt
       obtain ⟨ad214, A214_1, c214_1, e214, hx214_0, hx214_1, hl214_1, hi214_1⟩ := at_T58 HR0_0.out x8_1 p214 q214
       cases e214
       replace hx214_0 := (HB.out.cell (World.block_lt_of_cell? w _ hx214_0)).trans hx214_0
       replace hx214_1 := (HB.out.cell (World.block_lt_of_cell? w _ hx214_1)).trans hx214_1
       have HR214_1 := Aside0.mk hi214_1
       have HC214_1 := Aside0.mk hl214_1
       clear hi214_1 hl214_1
       replace p214 := eq_true p214
       replace q214 := eq_true q214
       try go_wp2_with (first | ((with_reducible refine gate_dst (N := 4) rfl ?_); (try (refine gate_guard (by rfl) ?_; dsimp only)); refine bx 4 #[.string (⟨#[]⟩ : ByteArray), .slice none 0 0] 58 ?_; intro gb215 hg w41 hbox hb; have BK215 := mk hbox; have GW215 := wg hg; have GE215 := wg hg; replace HB := wh hb; have NB213_215 := nl BK213 hg; have NB215_213 := nr BK213 hg; replace BK213 := wb BK213 hb; clear hb hbox hg; have hnb42 := NB215_213.out; have hnc42 := NB213_215.out; obtain ⟨hcz43_0, hcz43_1, hfz43_0, hfz43_1⟩ := bz2 BK215))
       have n0_ : Aside0 (((w41.setCell ⟨gb215, 0, none⟩ (.string ((rd_T58 l0_0 x8_1).f0))).setCell ⟨gb215, 1, none⟩ (.slice A214_1 ((rd_T58 l0_0 x8_1).f1).length c214_1)).heap[gb213]? = some (.cells #[.slice (some ad214) l0_0.length c0_0] 26 (0, 0))) := ⟨bq⟩
       have n1_ : Aside0 (((w41.setCell ⟨gb215, 0, none⟩ (.string ((rd_T58 l0_0 x8_1).f0))).setCell ⟨gb215, 1, none⟩ (.slice A214_1 ((rd_T58 l0_0 x8_1).f1).length c214_1)).heap[gb215]? = some (.cells #[.string ((rd_T58 l0_0 x8_1).f0), .slice A214_1 ((rd_T58 l0_0 x8_1).f1).length c214_1] 58 (0, 0))) := ⟨bq⟩
       have n2_ : Aside0 (Below w.heap.size w ((w41.setCell ⟨gb215, 0, none⟩ (.string ((rd_T58 l0_0 x8_1).f0))).setCell ⟨gb215, 1, none⟩ (.slice A214_1 ((rd_T58 l0_0 x8_1).f1).length c214_1))) := ⟨bl⟩
       (try clear BK213)
       (try clear BK215)
       (try clear HB)
       generalize ((w41.setCell ⟨gb215, 0, none⟩ (.string ((rd_T58 l0_0 x8_1).f0))).setCell ⟨gb215, 1, none⟩ (.slice A214_1 ((rd_T58 l0_0 x8_1).f1).length c214_1)) = w44 at n0_ n1_ n2_ ⊢
       have BK213 := n0_
       have BK215 := n1_
       have HB := n2_
       clear n0_ n1_ n2_
       replace BK213 := wd BK213
       replace BK215 := wd BK215
       replace HB := mk (below_drew1 HB.out)
       refine start_ (n := 30) (S := fun w' => w'.cell? ⟨gb215, 0, none⟩ = some (.string ((rd_T58 l0_0 x8_1).f0)) ∧ w'.cell? ⟨gb215, 1, none⟩ = some (.slice A214_1 ((rd_T58 l0_0 x8_1).f1).length c214_1)) (ds := []) #[F_, F_, F_, F_, F_, F_, F_, F_, F_, F_, F_, F_, F_, F_, F_, F_, F_, F_, F_, F_, F_, F_, F_, F_, F_, F_, F_, F_, F_, F_] (by kernel_rfl) rfl rfl ⟨bc BK215 0, bc BK215 1⟩ (fun hHeld => ?_); refine with_tabW impl_IsTable.tab4 impl_IsTable.bits4 (fun HT_ HW_ => ?_)
       generalize w44.drew = w45 at BK213 BK215 HB hHeld ⊢
       refine pu 0 13 (tf 1 29) ?_
       refine tk 1 14 (tf 2 28) hHeld ?_
       refine on 2 15 (tf 3 27) (fun K hK => ?_)
       refine gs Tryz.func50 #[.string ((rd_T58 l0_0 x8_1).f0)] ?_
       with_reducible refine (impl_IsName.calls k1 ((rd_T58 l0_0 x8_1).f0) false _ A7.out).mono ?_
       rintro e w' ⟨rfl, ⟨nd, rfl⟩⟩
       refine ⟨_, rfl, ?_⟩
       refine hK.out _ _ ⟨bc BK215 0, bc BK215 1⟩ (fun hHeld => ?_)
       clear hK K
       refine nm 15 ?_
       refine pu 3 16 (tf 4 26) ?_
       refine pu 4 17 (tf 5 25) ?_
       refine pn 5 18 (tf 6 24) ?_
       refine pn 6 19 (tf 7 23) ?_
       refine pn 7 20 (tf 8 22) ?_
       refine pn 8 21 (tf 9 21) ?_
       refine pu 9 22 (tf 10 20) ?_
       refine pu 10 23 (tf 11 19) ?_
       refine pn 11 24 (tf 12 18) ?_
       refine pn 12 25 (tf 13 17) ?_
       refine pn 13 26 (tf 14 16) ?_
       refine pn 14 27 (tf 15 15) ?_
       refine pn 15 28 (tf 16 14) ?_
       refine pn 16 29 (tf 17 13) ?_
       refine pn 17 30 (tf 18 12) ?_
       refine pn 18 31 (tf 19 11) ?_
       refine pn 19 32 (tf 20 10) ?_
       refine pn 20 33 (tf 21 9) ?_
       refine pu 21 34 (tf 22 8) ?_
       refine pu 22 35 (tf 23 7) ?_
       refine pn 23 36 (tf 24 6) ?_
       refine pn 24 37 (tf 25 5) ?_
       refine pn 25 38 (tf 26 4) ?_
       refine pn 26 39 (tf 27 3) ?_
       refine pn 27 40 (tf 28 2) ?_
       refine pn 28 41 (tf 29 1) ?_
       refine pu 29 42 (tf 30 0) ?_
       refine done_ (done_of HT_.out (by kernel_rfl)) ?_
       try go_wp2
       go_ret
       exact ⟨by first | rfl | (simp [errW_none, errW_some] <;> rfl) | (simp [*, errW_none, errW_some] <;> rfl), bl⟩
     ·rw [if_neg c6] at H
      exact absurd H (by simp)
    ·rw [if_neg c5] at H
     exact absurd H (by simp)
   ·rw [if_neg c4] at H
    have c4b0 : decide (x8_1 < (l0_0.length : Int)) = false := decide_eq_false c4
    clear c4
    by_cases c46 : (l0_0.length : Int) ≥ 1
    ·rw [if_pos c46] at H
     have c46b0 : decide (1 ≤ (l0_0.length : Int)) = true := decide_eq_true c46
     have c46b1 : decide (1 ≤ l0_0.length) = true := decide_eq_true (by omega)
     clear c46
     obtain rfl := Option.some.inj H
     obtain ⟨hcz47_0, hfz47_0⟩ := bz1 BK213
     go_wp2
     go_ret
     exact ⟨by first | rfl | (simp [errW_none, errW_some] <;> rfl) | (simp [*, errW_none, errW_some] <;> rfl), bl⟩
    ·rw [if_neg c46] at H
     have c46b0 : decide (1 ≤ (l0_0.length : Int)) = false := decide_eq_false c46
     have c46b1 : decide (1 ≤ l0_0.length) = false := decide_eq_false (by omega)
     clear c46
     obtain rfl := Option.some.inj H
     obtain ⟨hcz48_0, hfz48_0⟩ := bz1 BK213
     go_wp2
     go_ret
     exact ⟨by first | rfl | (simp [errW_none, errW_some] <;> rfl) | (simp [*, errW_none, errW_some] <;> rfl), bl⟩

end Go.Proofs.YtfjanffppobheaaGreatDoor.PFnTexts
