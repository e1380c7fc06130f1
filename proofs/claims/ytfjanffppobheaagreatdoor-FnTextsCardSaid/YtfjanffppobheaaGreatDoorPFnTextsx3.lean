-- printed by a program of this session, a turned copy of the print of the kit
import Derived.Test.YtfjanffppobheaaGreatDoorSq
import Derived.Test.YtfjanffppobheaaGreatDoorNF
import Derived.Test.YtfjanffppobheaaGreatDoorPFnTextsx0
import Derived.Test.YtfjanffppobheaaGreatDoorPFnTextsx2
namespace Go.Proofs.YtfjanffppobheaaGreatDoor.PFnTexts
open Go.RowKit Go.Proofs.YtfjanffppobheaaGreatDoorW.PrintWords Go.Proofs.YtfjanffppobheaaGreatDoorW.PrintLast Go.Proofs.YtfjanffppobheaaGreatDoorW.PrintMore Go.Proofs.YtfjanffppobheaaGreatDoor.Sq
attribute [local go_sem] max2_int min2_int max_two min_two max_three min_three max_four min_four Giv.cell_twice   -- for this text's walks alone
set_option linter.unusedVariables false
set_option linter.unusedSimpArgs false

/-! ### spec_l2AnyTable: function 28 -/
def spec_l2AnyTable.f (k : Nat) (s0_0 : List Int) (s0_1 : Int) (s0_2 : Int) : Option ((List (S58)) × Int × Int) := (spec_l2Table.f k s0_0 s0_1 s0_2).bind fun bt172 => ((spec_l1Below.f s0_0 bt172.2.1 bt172.2.2 8).bind fun bt178 => (if bt178.1 = 0 then ((spec_l1Pick.f s0_0 bt178.2.1 bt178.2.2 (([(⟨#[]⟩ : ByteArray), (⟨#[97, 49]⟩ : ByteArray), (⟨#[97, 98, 99, 100, 101, 102, 103, 104, 105]⟩ : ByteArray), (⟨#[97, 32, 98]⟩ : ByteArray)] : List ByteArray))).bind fun bt184 => (if 0 < (bt172.1.length : Int) then (some ((bt172.1.set (0 : Int).toNat (⟨bt184.1, (rd_T58 bt172.1 0).f1⟩ : S58)), bt184.2.1, bt184.2.2)) else (none))) else (if bt178.1 = 1 then (if 0 < (bt172.1.length : Int) then ((spec_l1PickInt.f s0_0 bt178.2.1 bt178.2.2 (([5, 999, 1000, (-1000)] : List Int))).bind fun bt192 => (if ((rd_T58 bt172.1 0).f1).length < 17592186044416 then (some ((bt172.1.set (0 : Int).toNat (⟨(rd_T58 bt172.1 0).f0, (((rd_T58 bt172.1 0).f1) ++ [bt192.1])⟩ : S58)), bt192.2.1, bt192.2.2)) else (none))) else (none)) else (if bt178.1 = 2 then (if 1 ≤ (bt172.1.length : Int) then (some ((bt172.1.drop 1), bt178.2.1, bt178.2.2)) else (none)) else (some (bt172.1, bt178.2.1, bt178.2.2))))))
theorem spec_l2AnyTable.mono : ∀ a0 a1 a2 k, LeO (spec_l2AnyTable.f k a0 a1 a2) (spec_l2AnyTable.f (k + 1) a0 a1 a2) := by
 intro a0 a1 a2 k
 unfold spec_l2AnyTable.f
 exact mo
instance spec_l2AnyTable.mi (a0 a1 a2 k) : LeC (spec_l2AnyTable.f k a0 a1 a2) (spec_l2AnyTable.f (k + 1) a0 a1 a2) := ⟨spec_l2AnyTable.mono a0 a1 a2 k⟩
def spec_l2AnyTable.T4 : Bool × List (List Nat × List Nat) := (true, [([], []), ([0], [0]), ([], []), ([], []), ([2, 3], [2, 3]), ([1, 0, 1, 2, 3, 4], [1]), ([5, 0, 1, 2, 3, 4], [5]), ([6, 4, 4, 0, 1, 2, 3, 4], [4, 6])])
def spec_l2AnyTable.B4 : List Nat := [0, 1, 0, 0, 12, 31, 63, 127]
theorem spec_l2AnyTable.tab4 : rtab .any (opsOf Tryz.f28 4) = spec_l2AnyTable.T4 := by kernel_rfl
theorem spec_l2AnyTable.bits4 : waitsOk spec_l2AnyTable.T4.2 spec_l2AnyTable.B4 = true := by kernel_rfl
def spec_l2AnyTable.T6 : Bool × List (List Nat × List Nat) := (true, [([], []), ([0], [0]), ([], []), ([2], [2]), ([3], [3]), ([4], [4]), ([5], [5]), ([], []), ([], []), ([7, 8], [7, 8]), ([9], [9]), ([6, 10, 9], [6, 10]), ([1, 0, 1, 2, 3, 4, 5, 6, 7, 8, 9, 10, 11], [1]), ([12, 0, 1, 2, 3, 4, 5, 6, 7, 8, 9, 10, 11], [12]), ([13, 11, 11, 0, 1, 2, 3, 4, 5, 6, 7, 8, 9, 10, 11], [11, 13])])
def spec_l2AnyTable.B6 : List Nat := [0, 1, 0, 4, 12, 28, 60, 0, 0, 384, 896, 2044, 4095, 8191, 16383]
theorem spec_l2AnyTable.tab6 : rtab .any (opsOf Tryz.f28 6) = spec_l2AnyTable.T6 := by kernel_rfl
theorem spec_l2AnyTable.bits6 : waitsOk spec_l2AnyTable.T6.2 spec_l2AnyTable.B6 = true := by kernel_rfl
set_option maxHeartbeats 8000000 in
set_option maxRecDepth 100000 in
theorem spec_l2AnyTable.calls (k : Nat) (g : Nat) (s0_0 : List Int) (s0_1 : Int) (s0_2 : Int) (r1 : List (S58)) (r2 : Int) (r3 : Int) (w0 w : World) (hI : IsS78 w0 w g s0_0 s0_1 s0_2) (hB : Below w0.heap.size w0 w) (h : spec_l2AnyTable.f k s0_0 s0_1 s0_2 = some (r1, r2, r3)) :
  Calls Tryz.prog 28 #[.pointer (some ⟨g, 0, none⟩)] w fun e w' => ∃ v0_ : Value, e = .returned (.agg #[v0_]) ∧ Kd.NF k58 58 w' w.heap.size (fun _ => True) v0_ r1 ∧ IsS78 w0 w' g s0_0 r2 r3 ∧ Below w0.heap.size w0 w' ∧ KeepBut w w' g none := by
 have hu26 := Tryz.underlying26
 have HI0 := Aside0.mk hI
 have HK := Aside0.mk (KeepBut.refl w g none)
 have HL := Aside0.mk hB.size
 clear hI
 have HW0 := Aside0.mk hB.size
 have HB := Aside0.mk hB
 clear hB
 have H : ((spec_l2Table.f k s0_0 s0_1 s0_2).bind fun bt172 => ((spec_l1Below.f s0_0 bt172.2.1 bt172.2.2 8).bind fun bt178 => (if bt178.1 = 0 then ((spec_l1Pick.f s0_0 bt178.2.1 bt178.2.2 (([(⟨#[]⟩ : ByteArray), (⟨#[97, 49]⟩ : ByteArray), (⟨#[97, 98, 99, 100, 101, 102, 103, 104, 105]⟩ : ByteArray), (⟨#[97, 32, 98]⟩ : ByteArray)] : List ByteArray))).bind fun bt184 => (if 0 < (bt172.1.length : Int) then (some ((bt172.1.set (0 : Int).toNat (⟨bt184.1, (rd_T58 bt172.1 0).f1⟩ : S58)), bt184.2.1, bt184.2.2)) else (none))) else (if bt178.1 = 1 then (if 0 < (bt172.1.length : Int) then ((spec_l1PickInt.f s0_0 bt178.2.1 bt178.2.2 (([5, 999, 1000, (-1000)] : List Int))).bind fun bt192 => (if ((rd_T58 bt172.1 0).f1).length < 17592186044416 then (some ((bt172.1.set (0 : Int).toNat (⟨(rd_T58 bt172.1 0).f0, (((rd_T58 bt172.1 0).f1) ++ [bt192.1])⟩ : S58)), bt192.2.1, bt192.2.2)) else (none))) else (none)) else (if bt178.1 = 2 then (if 1 ≤ (bt172.1.length : Int) then (some ((bt172.1.drop 1), bt178.2.1, bt178.2.2)) else (none)) else (some (bt172.1, bt178.2.1, bt178.2.2))))))) = some (r1, r2, r3) := h
 clear h
 revert H; refine bo ?_; rintro ⟨t172, t175, t176⟩ A2 H
 dsimp only at H
 revert H; refine bo ?_; rintro ⟨t178, t179, t180⟩ A3 H
 dsimp only at H
 by_cases c4 : t178 = 0
 ·rw [if_pos c4] at H
  have c4b0 : (t178 == 0) = true := beq_iff_eq.mpr c4
  have c4b1 : (t178 != 0) = false := bne_eq_false_iff_eq.mpr c4
  clear c4
  obtain ⟨y181, hy181⟩ : ∃ y_ : List ByteArray, y_ = (([(⟨#[]⟩ : ByteArray), (⟨#[97, 49]⟩ : ByteArray), (⟨#[97, 98, 99, 100, 101, 102, 103, 104, 105]⟩ : ByteArray), (⟨#[97, 32, 98]⟩ : ByteArray)] : List ByteArray)) := ⟨_, rfl⟩
  replace H : ((spec_l1Pick.f s0_0 t179 t180 y181).bind fun bt184 => (if 0 < (t172.length : Int) then (some ((t172.set (0 : Int).toNat (⟨bt184.1, (rd_T58 t172 0).f1⟩ : S58)), bt184.2.1, bt184.2.2)) else (none))) = some (r1, r2, r3) := by first | (rw [hy181]; with_reducible exact H) | (have H2_ := (Option.bind_some _ _).symm.trans H; rw [hy181]; with_reducible exact H2_) | (have H2_ := (Option.bind_some _ _).symm.trans H; with_reducible exact H2_) | with_reducible exact H | (rw [hy181]; exact H) | exact H
  have Ny181 := Aside0.mk hy181
  clear hy181
  revert H; refine bo ?_; rintro ⟨t184, t185, t186⟩ A5 H
  dsimp only at H
  by_cases c6 : 0 < (t172.length : Int)
  ·rw [if_pos c6] at H
   have c6b0 : decide (0 < (t172.length : Int)) = true := decide_eq_true c6
   have c6b1 : decide (0 < t172.length) = true := decide_eq_true (by omega)
   clear c6
   obtain ⟨y187, hy187⟩ : ∃ y_ : List (S58), y_ = (t172.set (0 : Int).toNat (⟨t184, (rd_T58 t172 0).f1⟩ : S58)) := ⟨_, rfl⟩
   replace H : (some (y187, t185, t186)) = some (r1, r2, r3) := by first | (rw [hy187]; with_reducible exact H) | (have H2_ := (Option.bind_some _ _).symm.trans H; rw [hy187]; with_reducible exact H2_) | (have H2_ := (Option.bind_some _ _).symm.trans H; with_reducible exact H2_) | with_reducible exact H | (rw [hy187]; exact H) | exact H
   have Ny187 := Aside0.mk hy187
   clear hy187
   simp only [Option.some.injEq, Prod.mk.injEq] at H
   obtain ⟨rfl, rfl, rfl⟩ := H
   go_enter Tryz.func28, Tryz.ntmps28
   try go_wp2_with (first | ((with_reducible refine gate_dst (N := 2) rfl ?_); refine bx 2 #[.slice none 0 0] 26 ?_; intro gb171 hg w8 hbox hb; replace HB := mk (below_step (by repeat (first | (with_reducible first | exact HB.out | apply below_alloc | apply pw_below_drewN | apply below_drew1 | refine below_set ?_ (IsS78.ge HI0.out)) | exact HB.out)) hb); have BK171 := mk hbox; have GW171 := mk ((by rw [hg]; exact (keep_size (w := w) (g := g) (row := none) (by repeat (first | (with_reducible first | exact HK.out | apply KeepBut.set_ | apply keep_drewN | apply keep_drew | apply keep_alloc) | exact HK.out))) : w.heap.size ≤ gb171)); have GE171 := mk ((Nat.le_trans HW0.out (by rw [hg]; exact (keep_size (w := w) (g := g) (row := none) (by repeat (first | (with_reducible first | exact HK.out | apply KeepBut.set_ | apply keep_drewN | apply keep_drew | apply keep_alloc) | exact HK.out))) : w.heap.size ≤ gb171) : w0.heap.size ≤ gb171)); replace HK := mk (KeepBut.trans (by repeat (first | (with_reducible first | exact HK.out | apply KeepBut.set_ | apply keep_drewN | apply keep_drew | apply keep_alloc) | exact HK.out)) (KeepBut.of_below hb g none) (.inl rfl)); have NB0_171 := mk ((by rw [hg]; exact Nat.ne_of_lt (IsS78.lt (show IsS78 w0 _ g s0_0 s0_1 s0_2 from by repeat (first | (with_reducible first | exact HI0.out | apply IsS78.alloc | apply IsS78.drewN | apply IsS78.drew | apply IsS78.set_1 | apply IsS78.set_2) | exact HI0.out))) : g ≠ gb171)); have NB171_0 := mk ((by rw [hg]; exact Nat.ne_of_gt (IsS78.lt (show IsS78 w0 _ g s0_0 s0_1 s0_2 from by repeat (first | (with_reducible first | exact HI0.out | apply IsS78.alloc | apply IsS78.drewN | apply IsS78.drew | apply IsS78.set_1 | apply IsS78.set_2) | exact HI0.out))) : gb171 ≠ g)); replace HI0 := mk (IsS78.below (by repeat (first | (with_reducible first | exact HI0.out | apply IsS78.alloc | apply IsS78.drewN | apply IsS78.drew | apply IsS78.set_1 | apply IsS78.set_2) | exact HI0.out)) hb); clear hb hbox hg) | ((with_reducible refine gate_callee (f := 48) rfl ?_); refine gl (some 5) rfl Tryz.func48 #[.pointer (some ⟨g, 0, none⟩)] ?_; (with_reducible refine (spec_l2Table.calls k g s0_0 s0_1 s0_2 t172 t175 t176 w0 _ ?side1 ?side2 A2.out).mono ?_); (case side1 => exact (by repeat (first | (with_reducible first | exact HI0.out | apply IsS78.alloc | apply IsS78.drewN | apply IsS78.drew | apply IsS78.set_1 | apply IsS78.set_2 | refine IsS78.far ?_ NB0_171.out _) | exact HI0.out))); (case side2 => exact (by repeat (first | (with_reducible first | exact HB.out | apply below_alloc | apply pw_below_drewN | apply below_drew1 | refine below_set ?_ (IsS78.ge HI0.out) | refine below_set ?_ GE171.out) | exact HB.out))); rintro e w9 ⟨v173, rfl, ho0, hi, hb, hk⟩; refine ⟨_, rfl, ?_⟩; replace BK171 := mk (KeepBut.blk hk (g' := gb171) (o := .cells #[.slice none 0 0] 26 (0, 0)) (ub BK171.out) NB171_0.out (by simp)); have HO174 := mk (Kd.S_lower ho0 (keep_size (w := w) (g := g) (row := none) (by repeat (first | (with_reducible first | exact HK.out | apply KeepBut.set_ | apply keep_drewN | apply keep_drew | apply keep_alloc | refine keep_far ?_ GW171.out _) | exact HK.out)))); replace HK := mk (KeepBut.trans (by repeat (first | (with_reducible first | exact HK.out | apply KeepBut.set_ | apply keep_drewN | apply keep_drew | apply keep_alloc | refine keep_far ?_ GW171.out _) | exact HK.out)) hk (.inl rfl)); replace HB := mk hb; replace HI0 := mk hi; (try clear hb); (try clear hb2); (try clear hk); (try clear hi); (try clear ho0)) | ((with_reducible refine gate_dst (N := 3) rfl ?_); refine bx 3 #[.slice none 0 0] 26 ?_; intro gb177 hg w10 hbox hb; replace HO174 := mk (Kd.S_below (by (with_reducible repeat (first | apply Kd.S_alloc | apply Kd.S_drewN | apply Kd.S_drew)); exact HO174.out) hb); replace HB := mk (below_step (by repeat (first | (with_reducible first | exact HB.out | apply below_alloc | apply pw_below_drewN | apply below_drew1 | refine below_set ?_ (IsS78.ge HI0.out) | refine below_set ?_ GE171.out) | exact HB.out)) hb); have BK177 := mk hbox; have GW177 := mk ((by rw [hg]; exact (keep_size (w := w) (g := g) (row := none) (by repeat (first | (with_reducible first | exact HK.out | apply KeepBut.set_ | apply keep_drewN | apply keep_drew | apply keep_alloc | refine keep_far ?_ GW171.out _) | exact HK.out))) : w.heap.size ≤ gb177)); have GE177 := mk ((Nat.le_trans HW0.out (by rw [hg]; exact (keep_size (w := w) (g := g) (row := none) (by repeat (first | (with_reducible first | exact HK.out | apply KeepBut.set_ | apply keep_drewN | apply keep_drew | apply keep_alloc | refine keep_far ?_ GW171.out _) | exact HK.out))) : w.heap.size ≤ gb177) : w0.heap.size ≤ gb177)); replace HK := mk (KeepBut.trans (by repeat (first | (with_reducible first | exact HK.out | apply KeepBut.set_ | apply keep_drewN | apply keep_drew | apply keep_alloc | refine keep_far ?_ GW171.out _) | exact HK.out)) (KeepBut.of_below hb g none) (.inl rfl)); have NB171_177 := nl BK171 hg; have NB177_171 := nr BK171 hg; replace BK171 := wb BK171 hb; have NB0_177 := mk ((by rw [hg]; exact Nat.ne_of_lt (IsS78.lt (show IsS78 w0 _ g s0_0 t175 t176 from by repeat (first | (with_reducible first | exact HI0.out | apply IsS78.alloc | apply IsS78.drewN | apply IsS78.drew | apply IsS78.set_1 | apply IsS78.set_2 | refine IsS78.far ?_ NB0_171.out _) | exact HI0.out))) : g ≠ gb177)); have NB177_0 := mk ((by rw [hg]; exact Nat.ne_of_gt (IsS78.lt (show IsS78 w0 _ g s0_0 t175 t176 from by repeat (first | (with_reducible first | exact HI0.out | apply IsS78.alloc | apply IsS78.drewN | apply IsS78.drew | apply IsS78.set_1 | apply IsS78.set_2 | refine IsS78.far ?_ NB0_171.out _) | exact HI0.out))) : gb177 ≠ g)); replace HI0 := mk (IsS78.below (by repeat (first | (with_reducible first | exact HI0.out | apply IsS78.alloc | apply IsS78.drewN | apply IsS78.drew | apply IsS78.set_1 | apply IsS78.set_2 | refine IsS78.far ?_ NB0_171.out _) | exact HI0.out)) hb); clear hb hbox hg; obtain ⟨Ao11, co11, eo11⟩ := Kd.S_slice HO174.out; subst eo11; have hnb12 := NB177_171.out; have hnc12 := NB171_177.out; have hnb13 := NB177_0.out; have hnc13 := NB0_177.out; obtain ⟨hcz14_0, hfz14_0⟩ := bz1 BK177) | ((with_reducible refine gate_callee (f := 43) rfl ?_); refine gl (some 7) rfl Tryz.func43 #[.pointer (some ⟨g, 0, none⟩), .int .i64 8] ?_; (with_reducible refine (spec_l1Below.calls g s0_0 t175 t176 8 t178 t179 t180 w0 _ ?side1 ?side2 A3.out).mono ?_); (case side1 => exact (by repeat (first | (with_reducible first | exact HI0.out | apply IsS78.alloc | apply IsS78.drewN | apply IsS78.drew | apply IsS78.set_1 | apply IsS78.set_2 | refine IsS78.far ?_ NB0_171.out _ | refine IsS78.far ?_ NB0_177.out _) | exact HI0.out))); (case side2 => exact (by repeat (first | (with_reducible first | exact HB.out | apply below_alloc | apply pw_below_drewN | apply below_drew1 | refine below_set ?_ (IsS78.ge HI0.out) | refine below_set ?_ GE171.out | refine below_set ?_ GE177.out) | exact HB.out))); rintro e w15 ⟨rfl, hi, hb, hk⟩; refine ⟨_, rfl, ?_⟩; have n0_ := Aside0.mk (KeepBut.blk hk (g' := gb171) (o := .cells #[.slice none 0 0] 26 (0, 0)) bq NB171_0.out (by simp)); have n1_ := Aside0.mk (Kd.S_mono (Kd.S_keep (IsS78.apartS (show IsS78 w0 _ g s0_0 t175 t176 from by repeat (first | (with_reducible first | exact HI0.out | apply IsS78.alloc | apply IsS78.drewN | apply IsS78.drew | apply IsS78.set_1 | apply IsS78.set_2 | refine IsS78.far ?_ NB0_171.out _ | refine IsS78.far ?_ NB0_177.out _) | exact HI0.out)) (by (with_reducible repeat (first | apply Kd.S_alloc | apply Kd.S_drewN | apply Kd.S_drew)); exact (Kd.S_mono (Kd.S_far (p := ⟨gb177, 0, none⟩) (Kd.S_types HO174.out BK177.out (by decide)) (fun _ hk => hk.2) (.slice Ao11 t172.length co11)) (fun _ h_ => h_.1))) (by decide)) hk (fun _ h => h.2)) (fun _ h => h.1)); have n2_ := Aside0.mk (KeepBut.blk hk (g' := gb177) (o := .cells #[.slice Ao11 t172.length co11] 26 (0, 0)) bq NB177_0.out (by simp)); have n3_ := Aside0.mk (KeepBut.trans (by repeat (first | (with_reducible first | exact HK.out | apply KeepBut.set_ | apply keep_drewN | apply keep_drew | apply keep_alloc | refine keep_far ?_ GW171.out _ | refine keep_far ?_ GW177.out _) | exact HK.out)) hk (.inl rfl)); have n4_ := Aside0.mk (hb); have n5_ := Aside0.mk (hi); clear BK171; clear HO174; clear BK177; clear HK; clear HB; clear HI0; have BK171 := n0_; have HO174 := n1_; have BK177 := n2_; have HK := n3_; have HB := n4_; have HI0 := n5_; clear n0_ n1_ n2_ n3_ n4_ n5_; (try clear hb); (try clear hb2); (try clear hk); (try clear hi)))
   replace HO174 := mk (Kd.S_drew HO174.out)
   replace BK171 := wd BK171
   replace BK177 := wd BK177
   replace HI0 := mk (IsS78.drew HI0.out)
   replace HK := mk (keep_drew HK.out)
   replace HB := mk (below_drew1 HB.out)
   refine start_ (n := 8) (S := fun w' => w'.cell? ⟨gb177, 0, none⟩ = some (.slice Ao11 t172.length co11)) (ds := [7]) #[F_, F_, F_, F_, F_, F_, F_, F_] (by kernel_rfl) rfl rfl ((blk_cell BK177.out 0).trans rfl) (fun hHeld => ?_); refine with_tabW spec_l2AnyTable.tab4 spec_l2AnyTable.bits4 (fun HT_ HW_ => ?_)
   generalize w15.drew = w16 at HO174 BK171 BK177 HI0 HK HB hHeld ⊢
   refine pu 0 10 (tf 1 7) ?_
   refine pu 2 12 #[T_,F_,T_,F_,F_,F_,F_,F_] ?_
   refine take_ (i := 1) (N := some 11) (v := ?_) (a' := ?_) #[T_, T_, T_, F_, F_, F_, F_, F_] rfl rfl (take_ofW HT_.out HW_.out (by kernel_rfl)) (fun _ _ _ h => h) (Or.inl ⟨by rfl, ?_⟩) hHeld ?_ ?_
   rotate_left
   ·intro w' s0
    go_simp
    with_reducible rfl
   rotate_left
   ·simp only [Act.put, List.setIfInBounds_toArray, List.set_cons_zero, List.set_cons_succ, i64_w, i32_w]
    rfl
   refine on 3 13 (tf 4 4) (fun K hK => ?_)
   refine Kd.R_lit_step Kd.string _ 9 ?hg (N := 13) ?hd (xs := ([(⟨#[]⟩ : ByteArray), (⟨#[97, 49]⟩ : ByteArray), (⟨#[97, 98, 99, 100, 101, 102, 103, 104, 105]⟩ : ByteArray), (⟨#[97, 32, 98]⟩ : ByteArray)] : List ByteArray)) (inner := [.string (⟨#[]⟩ : ByteArray), .string (⟨#[97, 49]⟩ : ByteArray), .string (⟨#[97, 98, 99, 100, 101, 102, 103, 104, 105]⟩ : ByteArray), .string (⟨#[97, 32, 98]⟩ : ByteArray)]) (ok := fun _ => True) (okp := fun _ => True) ?hr ?hp (fun _ hk => hk) trivial (Below.refl _ _) (Nat.le_refl _) (by simp) ?_; (case hd => rfl); (case hg => rfl); (case hr => first | (go_simp; done) | (go_simp; rfl)); (case hp => exact (Reps.one (show Kd.M Kd.string _ _ _ (⟨#[]⟩ : ByteArray) [.string (⟨#[]⟩ : ByteArray)] from rfl) (Reps.one (show Kd.M Kd.string _ _ _ (⟨#[97, 49]⟩ : ByteArray) [.string (⟨#[97, 49]⟩ : ByteArray)] from rfl) (Reps.one (show Kd.M Kd.string _ _ _ (⟨#[97, 98, 99, 100, 101, 102, 103, 104, 105]⟩ : ByteArray) [.string (⟨#[97, 98, 99, 100, 101, 102, 103, 104, 105]⟩ : ByteArray)] from rfl) (Reps.one (show Kd.M Kd.string _ _ _ (⟨#[97, 32, 98]⟩ : ByteArray) [.string (⟨#[97, 32, 98]⟩ : ByteArray)] from rfl) (Reps.none _ _))))))
   intro v182 w17 ho18 hb hg_ hnew_
   clear hg_ hnew_
   (first | rw [← Ny181.out] at ho18 | (simp only [Int.reduceToNat] at ho18; rw [← Ny181.out] at ho18))
   replace HO174 := mk (Kd.S_below (by (with_reducible repeat (first | apply Kd.S_alloc | apply Kd.S_drewN | apply Kd.S_drew)); exact HO174.out) hb)
   have HO183 := mk (Kd.R_lower ho18 (keep_size (w := w) (g := g) (row := none) (by repeat (first | (with_reducible first | exact HK.out | apply KeepBut.set_ | apply keep_drewN | apply keep_drew | apply keep_alloc | refine keep_far ?_ GW171.out _ | refine keep_far ?_ GW177.out _) | exact HK.out))))
   replace BK171 := wb BK171 hb
   replace BK177 := wb BK177 hb
   replace HK := mk (KeepBut.trans (by repeat (first | (with_reducible first | exact HK.out | apply KeepBut.set_ | apply keep_drewN | apply keep_drew | apply keep_alloc | refine keep_far ?_ GW171.out _ | refine keep_far ?_ GW177.out _) | exact HK.out)) (KeepBut.of_below hb g none) (.inl rfl))
   replace HB := mk (below_step (by repeat (first | (with_reducible first | exact HB.out | apply below_alloc | apply pw_below_drewN | apply below_drew1 | refine below_set ?_ (IsS78.ge HI0.out) | refine below_set ?_ GE171.out | refine below_set ?_ GE177.out) | exact HB.out)) hb)
   replace HI0 := mk (IsS78.below (by repeat (first | (with_reducible first | exact HI0.out | apply IsS78.alloc | apply IsS78.drewN | apply IsS78.drew | apply IsS78.set_1 | apply IsS78.set_2 | refine IsS78.far ?_ NB0_171.out _ | refine IsS78.far ?_ NB0_177.out _) | exact HI0.out)) hb)
   clear hb ho18
   obtain ⟨Ao19, co19, eo19⟩ := Kd.R_slice HO183.out
   (first | subst eo19 | (injection eo19 with f1_ f2_ f3_; have f4_ := f1_.symm; have f5_ := f3_.symm; clear f1_ f2_ f3_; subst f4_; subst f5_))
   refine hK.out _ _ ((blk_cell BK177.out 0).trans rfl) (fun hHeld => ?_)
   clear hK K
   refine nm 13 ?_
   refine on 4 14 (tf 5 3) (fun K hK => ?_)
   refine gs Tryz.func44 #[.pointer (some ⟨g, 0, none⟩), .slice Ao19 y181.length co19] ?_
   with_reducible refine (spec_l1Pick.calls g s0_0 t179 t180 _ _ y181 t184 t185 t186 w0 _ ?side1 ?side2 ?side3 ?side4 ?side5 A5.out).mono ?_
   (case side1 => exact (by repeat (first | (with_reducible first | exact HI0.out | apply IsS78.alloc | apply IsS78.drewN | apply IsS78.drew | apply IsS78.set_1 | apply IsS78.set_2 | refine IsS78.far ?_ NB0_171.out _ | refine IsS78.far ?_ NB0_177.out _) | exact HI0.out)))
   (case side2 => exact (by repeat (first | (with_reducible first | exact HB.out | apply below_alloc | apply pw_below_drewN | apply below_drew1 | refine below_set ?_ (IsS78.ge HI0.out) | refine below_set ?_ GE171.out | refine below_set ?_ GE177.out) | exact HB.out)))
   (case side3 => exact uc (Kd.R_reads' HO183.out).2.2)
   (case side4 => exact (Kd.R_reads' HO183.out).2.1)
   (case side5 => exact far_slice (IsS78.own_ne HI0.out HO183.out (by decide)))
   rintro e w20 ⟨rfl, hi, hb, hk⟩
   refine ⟨_, rfl, ?_⟩
   replace BK171 := mk (KeepBut.blk hk (g' := gb171) (o := .cells #[.slice none 0 0] 26 (0, 0)) (ub BK171.out) NB171_0.out (by simp))
   replace HO174 := mk (Kd.S_mono (Kd.S_keep (IsS78.apartS (show IsS78 w0 _ g s0_0 t179 t180 from by repeat (first | (with_reducible first | exact HI0.out | apply IsS78.alloc | apply IsS78.drewN | apply IsS78.drew | apply IsS78.set_1 | apply IsS78.set_2 | refine IsS78.far ?_ NB0_171.out _ | refine IsS78.far ?_ NB0_177.out _) | exact HI0.out)) (by (with_reducible repeat (first | apply Kd.S_alloc | apply Kd.S_drewN | apply Kd.S_drew)); exact HO174.out) (by decide)) hk (fun _ h => h.2)) (fun _ h => h.1))
   replace BK177 := mk (KeepBut.blk hk (g' := gb177) (o := .cells #[.slice Ao11 t172.length co11] 26 (0, 0)) (ub BK177.out) NB177_0.out (by simp))
   replace HO183 := mk (Kd.R_mono (Kd.R_keep (IsS78.apart (show IsS78 w0 _ g s0_0 t179 t180 from by repeat (first | (with_reducible first | exact HI0.out | apply IsS78.alloc | apply IsS78.drewN | apply IsS78.drew | apply IsS78.set_1 | apply IsS78.set_2 | refine IsS78.far ?_ NB0_171.out _ | refine IsS78.far ?_ NB0_177.out _) | exact HI0.out)) (up HO183.out) (by decide)) hk (fun _ h => h.2)) (fun _ h => h.1))
   replace HK := mk (KeepBut.trans (by repeat (first | (with_reducible first | exact HK.out | apply KeepBut.set_ | apply keep_drewN | apply keep_drew | apply keep_alloc | refine keep_far ?_ GW171.out _ | refine keep_far ?_ GW177.out _) | exact HK.out)) hk (.inl rfl))
   replace HB := mk hb
   replace HI0 := mk hi
   (try clear hb)
   (try clear hb2)
   (try clear hk)
   (try clear hi)
   have p7 : 0 ≤ (0 : Int) := (by omega)
   have q7 : (0 : Int) < ((t172.length : Int) : Int) := dt
   have qi7 : (0 < t172.length) = True := eq_true (by omega)
   obtain ⟨go7, co7, eo7, gb7, gl7, cl7, HG7⟩ := Kd.S_form HO174.out (by omega)
   (first | cases eo7 | (injection eo7 with ea_ en_ ec_; (first | subst ea_ | (injection ea_ with ea_; subst ea_)); subst ec_; clear en_))
   have GB7 := Aside0.mk gb7
   have GG7 := Aside0.mk HG7
   clear gb7 gl7 HG7
   obtain ⟨_, ce7, hcl7, hM7, hcc7, hfr7, _, _⟩ := Kd.S_elem HO174.out z58 (0 : Int) p7 q7
   obtain ⟨ve7_1, rfl, ge7_1⟩ := k58_openM hM7
   have hx7_0 : World.cell? _ ⟨go7, (0 : Int).toNat * 2, none⟩ = some (.string ((rd_T58 t172 0).f0)) := hcc7 0 _ rfl
   have hx7_1 : World.cell? _ ⟨go7, (0 : Int).toNat * 2 + 1, none⟩ = some (ve7_1) := hcc7 1 _ rfl
   have hf7_0 : World.frozen? _ ⟨go7, (0 : Int).toNat * 2, none⟩ = false := hfr7 0
   have hf7_1 : World.frozen? _ ⟨go7, (0 : Int).toNat * 2 + 1, none⟩ = false := hfr7 1
   clear hcl7 hcc7 hfr7 hM7
   (try rw [show ((0 : Int)).toNat = 0 from rfl] at hx7_0)
   (try simp only [Nat.reduceMul, Nat.zero_mul, Nat.zero_add, Nat.reduceAdd] at hx7_0)
   (try rw [show ((0 : Int)).toNat = 0 from rfl] at hf7_0)
   (try simp only [Nat.reduceMul, Nat.zero_mul, Nat.zero_add, Nat.reduceAdd] at hf7_0)
   (try rw [show ((0 : Int)).toNat = 0 from rfl] at hx7_1)
   (try simp only [Nat.reduceMul, Nat.zero_mul, Nat.zero_add, Nat.reduceAdd] at hx7_1)
   (try rw [show ((0 : Int)).toNat = 0 from rfl] at hf7_1)
   (try simp only [Nat.reduceMul, Nat.zero_mul, Nat.zero_add, Nat.reduceAdd] at hf7_1)
   replace p7 := eq_true p7
   replace q7 := eq_true q7
   have HN0_go7 := Aside0.mk (show g ≠ go7 from by have h_ := IsS78.own_neS HI0.out HO174.out (by decide); intro e_; exact h_ (by rw [e_]; rfl))
   have HX21 := Aside0.mk (show Kd.S k58 58 _ w.heap.size (fun k_ => ((fun _ => True)) k_ ∧ ¬ (fun _ => False) k_) (.slice (some ⟨go7, 0, none⟩) t172.length co11) t172 from Kd.S_mono HO174.out (fun k_ hk => ⟨trivial, fun e_ => e_⟩))
   obtain ⟨oki21, ce21, hcl21, hM21, hcc21, hfr21, hoki21, hH21⟩ := Kd.S_elem HX21.out z58 (0 : Int) (by omega) (by have h_ : (0 : Int) < ((t172.length : Int) : Int) := dt; first | exact h_ | (have e_ := (Kd.S_reads' HO174.out).1; omega) | simpa using h_)
   obtain ⟨ve21_1, rfl, ge21_1⟩ := k58_openM hM21
   have HP21 := (Kd.S_seg hH21 (by omega) (by have h_ : (0 : Int) < ((t172.length : Int) : Int) := dt; first | exact h_ | (have e_ := (Kd.S_reads' HO174.out).1; omega) | simpa using h_) (seg := [.string t184]) (j := 0) (show 1 ≤ 2 from by decide) (x' := (⟨t184, (rd_T58 t172 0).f1⟩ : S58)) (k58_mkM _ _ _ (⟨t184, (rd_T58 t172 0).f1⟩ : S58) ge21_1) (fun _ hk => Or.inl hk) (fun _ hk => hk.elim)).1
   rw [← Ny187.out] at HP21
   have HQ21 := Aside0.mk HP21
   clear hcl21 hcc21 hfr21 hM21 HP21
   refine hK.out _ _ ((blk_cell BK177.out 0).trans rfl) (fun hHeld => ?_)
   clear hK K
   refine nm 14 ?_
   refine pu 5 15 (tf 6 2) ?_
   refine pu 6 16 (tf 7 1) ?_
   refine last_ (i := 7) (N := none) #[T_, T_, T_, T_, T_, T_, T_, T_] rfl rfl (one_of HT_.out (by kernel_rfl)) (by decide) (fun K hK => ?_)
   refine skip_ (w1 := ?_) (by rfl) rfl ?_ ?_
   rotate_left
   ·go_simp
    rfl
   refine hK.out _ _ ?_
   clear hK K
   refine done_ (done_of HT_.out (by kernel_rfl)) ?_
   have n0_ : Aside0 (Kd.S k58 58 (w20.setCell ⟨go7, 0, none⟩ (.string t184)) w.heap.size (fun _ => True) (.slice (some ⟨go7, 0, none⟩) t172.length co11) y187) := ⟨by (with_reducible repeat (first | apply Kd.S_alloc | apply Kd.S_drewN | apply Kd.S_drew)); exact HQ21.out⟩
   have n1_ : Aside0 (Kd.R Kd.string 9 (w20.setCell ⟨go7, 0, none⟩ (.string t184)) w.heap.size (fun _ => True) (.slice Ao19 y181.length co19) y181) := ⟨by (with_reducible repeat (first | apply Kd.R_alloc | apply Kd.R_drewN | apply Kd.R_drew)); exact Kd.R_mono (Kd.R_far (p := ⟨go7, 0, none⟩) (Kd.R_types HO183.out GG7.out (by decide)) (fun _ hk => hk.2) (.string t184)) (fun _ hk => trivial)⟩
   have n2_ : Aside0 ((w20.setCell ⟨go7, 0, none⟩ (.string t184)).heap[gb171]? = some (.cells #[.slice none 0 0] 26 (0, 0))) := ⟨by (with_reducible repeat (first | refine blk_drewN ?_ _ | refine blk_drew ?_ | refine blk_alloc ?_ _)); refine blk_far ?_ (by have h_ := Kd.S_ne HO174.out BK171.out (by decide); intro e_; exact h_ (by rw [e_]; rfl)) _; (with_reducible repeat (first | refine blk_drewN ?_ _ | refine blk_drew ?_ | refine blk_alloc ?_ _)); exact BK171.out⟩
   have n3_ : Aside0 ((w20.setCell ⟨go7, 0, none⟩ (.string t184)).heap[gb177]? = some (.cells #[.slice (some ⟨go7, 0, none⟩) t172.length co11] 26 (0, 0))) := ⟨by (with_reducible repeat (first | refine blk_drewN ?_ _ | refine blk_drew ?_ | refine blk_alloc ?_ _)); refine blk_far ?_ (by have h_ := Kd.S_ne HO174.out BK177.out (by decide); intro e_; exact h_ (by rw [e_]; rfl)) _; (with_reducible repeat (first | refine blk_drewN ?_ _ | refine blk_drew ?_ | refine blk_alloc ?_ _)); exact BK177.out⟩
   have n4_ : Aside0 (IsS78 w0 (w20.setCell ⟨go7, 0, none⟩ (.string t184)) g s0_0 t185 t186) := ⟨by repeat (first | (with_reducible first | exact HI0.out | apply IsS78.alloc | apply IsS78.drewN | apply IsS78.drew | apply IsS78.set_1 | apply IsS78.set_2 | refine IsS78.far ?_ HN0_go7.out _ | refine IsS78.far ?_ NB0_171.out _ | refine IsS78.far ?_ NB0_177.out _) | exact HI0.out)⟩
   have n5_ : Aside0 (KeepBut w (w20.setCell ⟨go7, 0, none⟩ (.string t184)) g none) := ⟨by repeat (first | (with_reducible first | exact HK.out | apply KeepBut.set_ | apply keep_drewN | apply keep_drew | apply keep_alloc | refine keep_far ?_ GB7.out _ | refine keep_far ?_ GW171.out _ | refine keep_far ?_ GW177.out _) | exact HK.out)⟩
   have n6_ : Aside0 (Below w0.heap.size w0 (w20.setCell ⟨go7, 0, none⟩ (.string t184))) := ⟨by repeat (first | (with_reducible first | exact HB.out | apply below_alloc | apply pw_below_drewN | apply below_drew1 | refine below_set ?_ (Nat.le_trans HL.out GB7.out) | refine below_set ?_ (IsS78.ge HI0.out) | refine below_set ?_ GE171.out | refine below_set ?_ GE177.out) | exact HB.out)⟩
   (try clear HO174)
   (try clear HO183)
   (try clear BK171)
   (try clear BK177)
   (try clear HI0)
   (try clear HK)
   (try clear HB)
   generalize (w20.setCell ⟨go7, 0, none⟩ (.string t184)) = w22 at n0_ n1_ n2_ n3_ n4_ n5_ n6_ ⊢
   have HO174 := n0_
   have HO183 := n1_
   have BK171 := n2_
   have BK177 := n3_
   have HI0 := n4_
   have HK := n5_
   have HB := n6_
   clear n0_ n1_ n2_ n3_ n4_ n5_ n6_
   obtain ⟨hcz23_0, hfz23_0⟩ := bz1 BK177
   have hnb24 := NB171_0.out
   have hnc24 := NB0_171.out
   obtain ⟨hcz25_0, hfz25_0⟩ := bz1 BK171
   try go_wp2
   refine bodyPost_ret (results_cell_row rfl _ _ gb171 26 #[.slice (some ⟨go7, 0, none⟩) t172.length co11] (0, 0) _ rfl bq Tryz.underlying26 rfl (by kernel_rfl)) rfl ?_
   exact ⟨_, by first | rfl | (simp [errW_none, errW_some] <;> rfl) | (simp [*, errW_none, errW_some] <;> rfl), Kd.NF_of (by (with_reducible repeat (first | apply Kd.S_alloc | apply Kd.S_drewN | apply Kd.S_drew)); exact Kd.S_mono (Kd.S_far (p := ⟨gb171, 0, none⟩) (Kd.S_types HO174.out BK171.out (by decide)) (fun _ hk => hk.2) (.slice (some ⟨go7, 0, none⟩) t172.length co11)) (fun _ hk => trivial)), by repeat (first | (with_reducible first | exact HI0.out | apply IsS78.alloc | apply IsS78.drewN | apply IsS78.drew | apply IsS78.set_1 | apply IsS78.set_2 | refine IsS78.far ?_ NB0_171.out _ | refine IsS78.far ?_ NB0_177.out _) | exact HI0.out), by repeat (first | (with_reducible first | exact HB.out | apply below_alloc | apply pw_below_drewN | apply below_drew1 | refine below_set ?_ (IsS78.ge HI0.out) | refine below_set ?_ GE171.out | refine below_set ?_ GE177.out) | exact HB.out), by repeat (first | (with_reducible first | exact HK.out | apply KeepBut.set_ | apply keep_drewN | apply keep_drew | apply keep_alloc | refine keep_far ?_ GW171.out _ | refine keep_far ?_ GW177.out _) | exact HK.out)⟩
  ·rw [if_neg c6] at H
   exact absurd H (by simp)
 ·rw [if_neg c4] at H
  have c4b0 : (t178 == 0) = false := beq_eq_false_iff_ne.mpr c4
  have c4b1 : (t178 != 0) = true := bne_iff_ne.mpr c4
  by_cases c26 : t178 = 1
  ·rw [if_pos c26] at H
   have c26b0 : (t178 == 1) = true := beq_iff_eq.mpr c26
   have c26b1 : (t178 != 1) = false := bne_eq_false_iff_eq.mpr c26
   clear c26
   by_cases c27 : 0 < (t172.length : Int)
   ·rw [if_pos c27] at H
    have c27b0 : decide (0 < (t172.length : Int)) = true := decide_eq_true c27
    have c27b1 : decide (0 < t172.length) = true := decide_eq_true (by omega)
    clear c27
    obtain ⟨y189, hy189⟩ : ∃ y_ : List Int, y_ = (([5, 999, 1000, (-1000)] : List Int)) := ⟨_, rfl⟩
    replace H : ((spec_l1PickInt.f s0_0 t179 t180 y189).bind fun bt192 => (if ((rd_T58 t172 0).f1).length < 17592186044416 then (some ((t172.set (0 : Int).toNat (⟨(rd_T58 t172 0).f0, (((rd_T58 t172 0).f1) ++ [bt192.1])⟩ : S58)), bt192.2.1, bt192.2.2)) else (none))) = some (r1, r2, r3) := by first | (rw [hy189]; with_reducible exact H) | (have H2_ := (Option.bind_some _ _).symm.trans H; rw [hy189]; with_reducible exact H2_) | (have H2_ := (Option.bind_some _ _).symm.trans H; with_reducible exact H2_) | with_reducible exact H | (rw [hy189]; exact H) | exact H
    have Ny189 := Aside0.mk hy189
    clear hy189
    revert H; refine bo ?_; rintro ⟨t192, t193, t194⟩ A28 H
    dsimp only at H
    by_cases c29 : ((rd_T58 t172 0).f1).length < 17592186044416
    ·rw [if_pos c29] at H
     have LMc29 := Aside0.mk c29
     clear c29
     obtain ⟨y195, hy195⟩ : ∃ y_ : List Int, y_ = (((rd_T58 t172 0).f1) ++ [t192]) := ⟨_, rfl⟩
     replace H : (some ((t172.set (0 : Int).toNat (⟨(rd_T58 t172 0).f0, y195⟩ : S58)), t193, t194)) = some (r1, r2, r3) := by first | (rw [hy195]; with_reducible exact H) | (have H2_ := (Option.bind_some _ _).symm.trans H; rw [hy195]; with_reducible exact H2_) | (have H2_ := (Option.bind_some _ _).symm.trans H; with_reducible exact H2_) | with_reducible exact H | (rw [hy195]; exact H) | exact H
     have Ny195 := Aside0.mk hy195
     clear hy195
     obtain ⟨y198, hy198⟩ : ∃ y_ : List (S58), y_ = (t172.set (0 : Int).toNat (⟨(rd_T58 t172 0).f0, y195⟩ : S58)) := ⟨_, rfl⟩
     replace H : (some (y198, t193, t194)) = some (r1, r2, r3) := by first | (rw [hy198]; with_reducible exact H) | (have H2_ := (Option.bind_some _ _).symm.trans H; rw [hy198]; with_reducible exact H2_) | (have H2_ := (Option.bind_some _ _).symm.trans H; with_reducible exact H2_) | with_reducible exact H | (rw [hy198]; exact H) | exact H
     have Ny198 := Aside0.mk hy198
     clear hy198
     simp only [Option.some.injEq, Prod.mk.injEq] at H
     obtain ⟨rfl, rfl, rfl⟩ := H
     go_enter Tryz.func28, Tryz.ntmps28
     try go_wp2_with (first | ((with_reducible refine gate_dst (N := 2) rfl ?_); refine bx 2 #[.slice none 0 0] 26 ?_; intro gb171 hg w31 hbox hb; replace HB := mk (below_step (by repeat (first | (with_reducible first | exact HB.out | apply below_alloc | apply pw_below_drewN | apply below_drew1 | refine below_set ?_ (IsS78.ge HI0.out)) | exact HB.out)) hb); have BK171 := mk hbox; have GW171 := mk ((by rw [hg]; exact (keep_size (w := w) (g := g) (row := none) (by repeat (first | (with_reducible first | exact HK.out | apply KeepBut.set_ | apply keep_drewN | apply keep_drew | apply keep_alloc) | exact HK.out))) : w.heap.size ≤ gb171)); have GE171 := mk ((Nat.le_trans HW0.out (by rw [hg]; exact (keep_size (w := w) (g := g) (row := none) (by repeat (first | (with_reducible first | exact HK.out | apply KeepBut.set_ | apply keep_drewN | apply keep_drew | apply keep_alloc) | exact HK.out))) : w.heap.size ≤ gb171) : w0.heap.size ≤ gb171)); replace HK := mk (KeepBut.trans (by repeat (first | (with_reducible first | exact HK.out | apply KeepBut.set_ | apply keep_drewN | apply keep_drew | apply keep_alloc) | exact HK.out)) (KeepBut.of_below hb g none) (.inl rfl)); have NB0_171 := mk ((by rw [hg]; exact Nat.ne_of_lt (IsS78.lt (show IsS78 w0 _ g s0_0 s0_1 s0_2 from by repeat (first | (with_reducible first | exact HI0.out | apply IsS78.alloc | apply IsS78.drewN | apply IsS78.drew | apply IsS78.set_1 | apply IsS78.set_2) | exact HI0.out))) : g ≠ gb171)); have NB171_0 := mk ((by rw [hg]; exact Nat.ne_of_gt (IsS78.lt (show IsS78 w0 _ g s0_0 s0_1 s0_2 from by repeat (first | (with_reducible first | exact HI0.out | apply IsS78.alloc | apply IsS78.drewN | apply IsS78.drew | apply IsS78.set_1 | apply IsS78.set_2) | exact HI0.out))) : gb171 ≠ g)); replace HI0 := mk (IsS78.below (by repeat (first | (with_reducible first | exact HI0.out | apply IsS78.alloc | apply IsS78.drewN | apply IsS78.drew | apply IsS78.set_1 | apply IsS78.set_2) | exact HI0.out)) hb); clear hb hbox hg) | ((with_reducible refine gate_callee (f := 48) rfl ?_); refine gl (some 5) rfl Tryz.func48 #[.pointer (some ⟨g, 0, none⟩)] ?_; (with_reducible refine (spec_l2Table.calls k g s0_0 s0_1 s0_2 t172 t175 t176 w0 _ ?side1 ?side2 A2.out).mono ?_); (case side1 => exact (by repeat (first | (with_reducible first | exact HI0.out | apply IsS78.alloc | apply IsS78.drewN | apply IsS78.drew | apply IsS78.set_1 | apply IsS78.set_2 | refine IsS78.far ?_ NB0_171.out _) | exact HI0.out))); (case side2 => exact (by repeat (first | (with_reducible first | exact HB.out | apply below_alloc | apply pw_below_drewN | apply below_drew1 | refine below_set ?_ (IsS78.ge HI0.out) | refine below_set ?_ GE171.out) | exact HB.out))); rintro e w32 ⟨v173, rfl, ho0, hi, hb, hk⟩; refine ⟨_, rfl, ?_⟩; replace BK171 := mk (KeepBut.blk hk (g' := gb171) (o := .cells #[.slice none 0 0] 26 (0, 0)) (ub BK171.out) NB171_0.out (by simp)); have HO174 := mk (Kd.S_lower ho0 (keep_size (w := w) (g := g) (row := none) (by repeat (first | (with_reducible first | exact HK.out | apply KeepBut.set_ | apply keep_drewN | apply keep_drew | apply keep_alloc | refine keep_far ?_ GW171.out _) | exact HK.out)))); replace HK := mk (KeepBut.trans (by repeat (first | (with_reducible first | exact HK.out | apply KeepBut.set_ | apply keep_drewN | apply keep_drew | apply keep_alloc | refine keep_far ?_ GW171.out _) | exact HK.out)) hk (.inl rfl)); replace HB := mk hb; replace HI0 := mk hi; (try clear hb); (try clear hb2); (try clear hk); (try clear hi); (try clear ho0)) | ((with_reducible refine gate_dst (N := 3) rfl ?_); refine bx 3 #[.slice none 0 0] 26 ?_; intro gb177 hg w33 hbox hb; replace HO174 := mk (Kd.S_below (by (with_reducible repeat (first | apply Kd.S_alloc | apply Kd.S_drewN | apply Kd.S_drew)); exact HO174.out) hb); replace HB := mk (below_step (by repeat (first | (with_reducible first | exact HB.out | apply below_alloc | apply pw_below_drewN | apply below_drew1 | refine below_set ?_ (IsS78.ge HI0.out) | refine below_set ?_ GE171.out) | exact HB.out)) hb); have BK177 := mk hbox; have GW177 := mk ((by rw [hg]; exact (keep_size (w := w) (g := g) (row := none) (by repeat (first | (with_reducible first | exact HK.out | apply KeepBut.set_ | apply keep_drewN | apply keep_drew | apply keep_alloc | refine keep_far ?_ GW171.out _) | exact HK.out))) : w.heap.size ≤ gb177)); have GE177 := mk ((Nat.le_trans HW0.out (by rw [hg]; exact (keep_size (w := w) (g := g) (row := none) (by repeat (first | (with_reducible first | exact HK.out | apply KeepBut.set_ | apply keep_drewN | apply keep_drew | apply keep_alloc | refine keep_far ?_ GW171.out _) | exact HK.out))) : w.heap.size ≤ gb177) : w0.heap.size ≤ gb177)); replace HK := mk (KeepBut.trans (by repeat (first | (with_reducible first | exact HK.out | apply KeepBut.set_ | apply keep_drewN | apply keep_drew | apply keep_alloc | refine keep_far ?_ GW171.out _) | exact HK.out)) (KeepBut.of_below hb g none) (.inl rfl)); have NB171_177 := nl BK171 hg; have NB177_171 := nr BK171 hg; replace BK171 := wb BK171 hb; have NB0_177 := mk ((by rw [hg]; exact Nat.ne_of_lt (IsS78.lt (show IsS78 w0 _ g s0_0 t175 t176 from by repeat (first | (with_reducible first | exact HI0.out | apply IsS78.alloc | apply IsS78.drewN | apply IsS78.drew | apply IsS78.set_1 | apply IsS78.set_2 | refine IsS78.far ?_ NB0_171.out _) | exact HI0.out))) : g ≠ gb177)); have NB177_0 := mk ((by rw [hg]; exact Nat.ne_of_gt (IsS78.lt (show IsS78 w0 _ g s0_0 t175 t176 from by repeat (first | (with_reducible first | exact HI0.out | apply IsS78.alloc | apply IsS78.drewN | apply IsS78.drew | apply IsS78.set_1 | apply IsS78.set_2 | refine IsS78.far ?_ NB0_171.out _) | exact HI0.out))) : gb177 ≠ g)); replace HI0 := mk (IsS78.below (by repeat (first | (with_reducible first | exact HI0.out | apply IsS78.alloc | apply IsS78.drewN | apply IsS78.drew | apply IsS78.set_1 | apply IsS78.set_2 | refine IsS78.far ?_ NB0_171.out _) | exact HI0.out)) hb); clear hb hbox hg; obtain ⟨Ao34, co34, eo34⟩ := Kd.S_slice HO174.out; subst eo34; have hnb35 := NB177_171.out; have hnc35 := NB171_177.out; have hnb36 := NB177_0.out; have hnc36 := NB0_177.out; obtain ⟨hcz37_0, hfz37_0⟩ := bz1 BK177) | ((with_reducible refine gate_callee (f := 43) rfl ?_); refine gl (some 7) rfl Tryz.func43 #[.pointer (some ⟨g, 0, none⟩), .int .i64 8] ?_; (with_reducible refine (spec_l1Below.calls g s0_0 t175 t176 8 t178 t179 t180 w0 _ ?side1 ?side2 A3.out).mono ?_); (case side1 => exact (by repeat (first | (with_reducible first | exact HI0.out | apply IsS78.alloc | apply IsS78.drewN | apply IsS78.drew | apply IsS78.set_1 | apply IsS78.set_2 | refine IsS78.far ?_ NB0_171.out _ | refine IsS78.far ?_ NB0_177.out _) | exact HI0.out))); (case side2 => exact (by repeat (first | (with_reducible first | exact HB.out | apply below_alloc | apply pw_below_drewN | apply below_drew1 | refine below_set ?_ (IsS78.ge HI0.out) | refine below_set ?_ GE171.out | refine below_set ?_ GE177.out) | exact HB.out))); rintro e w38 ⟨rfl, hi, hb, hk⟩; refine ⟨_, rfl, ?_⟩; have n0_ := Aside0.mk (KeepBut.blk hk (g' := gb171) (o := .cells #[.slice none 0 0] 26 (0, 0)) bq NB171_0.out (by simp)); have n1_ := Aside0.mk (Kd.S_mono (Kd.S_keep (IsS78.apartS (show IsS78 w0 _ g s0_0 t175 t176 from by repeat (first | (with_reducible first | exact HI0.out | apply IsS78.alloc | apply IsS78.drewN | apply IsS78.drew | apply IsS78.set_1 | apply IsS78.set_2 | refine IsS78.far ?_ NB0_171.out _ | refine IsS78.far ?_ NB0_177.out _) | exact HI0.out)) (by (with_reducible repeat (first | apply Kd.S_alloc | apply Kd.S_drewN | apply Kd.S_drew)); exact (Kd.S_mono (Kd.S_far (p := ⟨gb177, 0, none⟩) (Kd.S_types HO174.out BK177.out (by decide)) (fun _ hk => hk.2) (.slice Ao34 t172.length co34)) (fun _ h_ => h_.1))) (by decide)) hk (fun _ h => h.2)) (fun _ h => h.1)); have n2_ := Aside0.mk (KeepBut.blk hk (g' := gb177) (o := .cells #[.slice Ao34 t172.length co34] 26 (0, 0)) bq NB177_0.out (by simp)); have n3_ := Aside0.mk (KeepBut.trans (by repeat (first | (with_reducible first | exact HK.out | apply KeepBut.set_ | apply keep_drewN | apply keep_drew | apply keep_alloc | refine keep_far ?_ GW171.out _ | refine keep_far ?_ GW177.out _) | exact HK.out)) hk (.inl rfl)); have n4_ := Aside0.mk (hb); have n5_ := Aside0.mk (hi); clear BK171; clear HO174; clear BK177; clear HK; clear HB; clear HI0; have BK171 := n0_; have HO174 := n1_; have BK177 := n2_; have HK := n3_; have HB := n4_; have HI0 := n5_; clear n0_ n1_ n2_ n3_ n4_ n5_; (try clear hb); (try clear hb2); (try clear hk); (try clear hi)))
     replace HO174 := mk (Kd.S_drew HO174.out)
     replace BK171 := wd BK171
     replace BK177 := wd BK177
     replace HI0 := mk (IsS78.drew HI0.out)
     replace HK := mk (keep_drew HK.out)
     replace HB := mk (below_drew1 HB.out)
     have p188 : 0 ≤ (0 : Int) := (by omega)
     have q188 : 0 < (t172.length : Int) := dt
     obtain ⟨ad188, A188_1, c188_1, e188, hx188_0, hx188_1, hl188_1, hi188_1⟩ := at_T58 (Kd.S_reads' HO174.out).2.2 0 p188 q188
     cases e188
     obtain ⟨ce188, hce188, hMe188, hcc188⟩ := Kd.S_get HO174.out z58 0 p188 (by first | exact q188 | exact dt | (have e_ := (Kd.S_reads' HO174.out).1; omega))
     obtain ⟨ve188_1, rfl, ge188_1⟩ := k58_openM hMe188
     have hv188_1 := hcc188 1 _ rfl
     rw [add_field _ _ 1 (by omega)] at hv188_1
     replace hv188_1 := Option.some.inj (hv188_1.symm.trans hx188_1)
     rw [hv188_1] at ge188_1
     have HL188_1 := Aside0.mk (show Kd.R (Kd.int .i64) 3 _ _ _ _ ((rd_T58 t172 0).f1) from ge188_1)
     clear hv188_1 ge188_1
     have HX188_1 := Aside0.mk hx188_1
     clear hcc188 hce188
     have qi188 : (0 < t172.length) = True := eq_true (by omega)
     (try rw [show ((0 : Int)).toNat = 0 from rfl] at hx188_0)
     (try rw [show 0 * 2 = 0 from rfl] at hx188_0)
     (try rw [Addr.add_zero'] at hx188_0)
     (try rw [show ((0 : Int)).toNat = 0 from rfl] at hx188_1)
     (try rw [show 0 * 2 = 0 from rfl] at hx188_1)
     (try rw [Addr.add_zero'] at hx188_1)
     have HR188_1 := Aside0.mk hi188_1
     have HC188_1 := Aside0.mk hl188_1
     clear hi188_1 hl188_1
     replace p188 := eq_true p188
     replace q188 := eq_true q188
     refine start_ (n := 15) (S := fun w' => w'.cell? ⟨gb177, 0, none⟩ = some (.slice (some ad188) t172.length co34) ∧ w'.cell? ad188 = some (.string ((rd_T58 t172 0).f0)) ∧ w'.cell? ⟨ad188.block, ad188.off + 1, none⟩ = some (.slice A188_1 ((rd_T58 t172 0).f1).length c188_1)) (ds := [14]) #[F_, F_, F_, F_, F_, F_, F_, F_, F_, F_, F_, F_, F_, F_, F_] (by kernel_rfl) rfl rfl ⟨bc BK177 0, hx188_0, hx188_1⟩ (fun hHeld => ?_); refine with_tabW spec_l2AnyTable.tab6 spec_l2AnyTable.bits6 (fun HT_ HW_ => ?_)
     generalize w38.drew = w39 at HO174 BK171 BK177 HI0 HK HB HL188_1 HR188_1 HX188_1 hx188_0 hx188_1 hHeld ⊢
     refine pu 0 19 (tf 1 14) ?_
     refine pu 2 21 #[T_,F_,T_,F_,F_,F_,F_,F_,F_,F_,F_,F_,F_,F_,F_] ?_
     refine pu 7 26 #[T_,F_,T_,F_,F_,F_,F_,T_,F_,F_,F_,F_,F_,F_,F_] ?_
     refine tk 1 20 #[T_,T_,T_,F_,F_,F_,F_,T_,F_,F_,F_,F_,F_,F_,F_] hHeld ?_
     refine tk 3 22 #[T_,T_,T_,T_,F_,F_,F_,T_,F_,F_,F_,F_,F_,F_,F_] hHeld ?_
     refine pu 4 23 #[T_,T_,T_,T_,T_,F_,F_,T_,F_,F_,F_,F_,F_,F_,F_] ?_
     refine pu 5 24 #[T_,T_,T_,T_,T_,T_,F_,T_,F_,F_,F_,F_,F_,F_,F_] ?_
     refine tk 6 25 (tf 8 7) hHeld ?_
     refine on 8 27 (tf 9 6) (fun K hK => ?_)
     refine Kd.R_lit_step (Kd.int .i64) _ 3 ?hg (N := 27) ?hd (xs := ([5, 999, 1000, (-1000)] : List Int)) (inner := [.int .i64 5, .int .i64 999, .int .i64 1000, .int .i64 (-1000)]) (ok := fun _ => True) (okp := fun _ => True) ?hr ?hp (fun _ hk => hk) trivial (Below.refl _ _) (Nat.le_refl _) (by simp) ?_; (case hd => rfl); (case hg => rfl); (case hr => first | (go_simp; done) | (go_simp; rfl)); (case hp => exact (Reps.one (show Kd.M (Kd.int .i64) _ _ _ 5 [.int .i64 5] from rfl) (Reps.one (show Kd.M (Kd.int .i64) _ _ _ 999 [.int .i64 999] from rfl) (Reps.one (show Kd.M (Kd.int .i64) _ _ _ 1000 [.int .i64 1000] from rfl) (Reps.one (show Kd.M (Kd.int .i64) _ _ _ (-1000) [.int .i64 (-1000)] from rfl) (Reps.none _ _))))))
     intro v190 w40 ho41 hb hg_ hnew_
     have HS1_ := (hb.cell (World.block_lt_of_cell? _ _ (hHeld.2.1))).trans (hHeld.2.1)
     have HS2_ := (hb.cell (World.block_lt_of_cell? _ _ (hHeld.2.2))).trans (hHeld.2.2)
     clear hg_ hnew_
     (first | rw [← Ny189.out] at ho41 | (simp only [Int.reduceToNat] at ho41; rw [← Ny189.out] at ho41))
     replace HO174 := mk (Kd.S_elder' (by (with_reducible repeat (first | apply Kd.S_alloc | apply Kd.S_drewN | apply Kd.S_drew)); exact HO174.out) (Kd.R_base ho41) hb)
     have HO191 := mk (Kd.R_lower (Kd.R_new' ho41 (Kd.R_lt (up HL188_1.out))) (keep_size (w := w) (g := g) (row := none) (by repeat (first | (with_reducible first | exact HK.out | apply KeepBut.set_ | apply keep_drewN | apply keep_drew | apply keep_alloc | refine keep_far ?_ GW171.out _ | refine keep_far ?_ GW177.out _) | exact HK.out))))
     replace HL188_1 := mk (Kd.R_elder' (up HL188_1.out) (Kd.R_base ho41) hb)
     replace BK171 := wb BK171 hb
     replace BK177 := wb BK177 hb
     replace HR188_1 := mk (Kd.C_below (by repeat (first | (with_reducible exact HR188_1.out) | (with_reducible refine Kd.C_alloc ?_ _) | (with_reducible refine Kd.C_drewN ?_ _) | (with_reducible refine Kd.C_drew ?_) | exact HR188_1.out)) hb)
     replace HX188_1 := mk (pw_cell_below hb HX188_1.out)
     replace HK := mk (KeepBut.trans (by repeat (first | (with_reducible first | exact HK.out | apply KeepBut.set_ | apply keep_drewN | apply keep_drew | apply keep_alloc | refine keep_far ?_ GW171.out _ | refine keep_far ?_ GW177.out _) | exact HK.out)) (KeepBut.of_below hb g none) (.inl rfl))
     replace HB := mk (below_step (by repeat (first | (with_reducible first | exact HB.out | apply below_alloc | apply pw_below_drewN | apply below_drew1 | refine below_set ?_ (IsS78.ge HI0.out) | refine below_set ?_ GE171.out | refine below_set ?_ GE177.out) | exact HB.out)) hb)
     replace HI0 := mk (IsS78.below (by repeat (first | (with_reducible first | exact HI0.out | apply IsS78.alloc | apply IsS78.drewN | apply IsS78.drew | apply IsS78.set_1 | apply IsS78.set_2 | refine IsS78.far ?_ NB0_171.out _ | refine IsS78.far ?_ NB0_177.out _) | exact HI0.out)) hb)
     clear hb ho41
     obtain ⟨Ao42, co42, eo42⟩ := Kd.R_slice HO191.out
     (first | subst eo42 | (injection eo42 with f1_ f2_ f3_; have f4_ := f1_.symm; have f5_ := f3_.symm; clear f1_ f2_ f3_; subst f4_; subst f5_))
     refine hK.out _ _ ⟨bc BK177 0, HS1_, HS2_⟩ (fun hHeld => ?_)
     clear hK K
     refine nm 27 ?_
     refine on 9 28 (tf 10 5) (fun K hK => ?_)
     refine gs Tryz.func49 #[.pointer (some ⟨g, 0, none⟩), .slice Ao42 y189.length co42] ?_
     with_reducible refine (spec_l1PickInt.calls g s0_0 t179 t180 _ _ y189 t192 t193 t194 w0 _ ?side1 ?side2 ?side3 ?side4 ?side5 A28.out).mono ?_
     (case side1 => exact (by repeat (first | (with_reducible first | exact HI0.out | apply IsS78.alloc | apply IsS78.drewN | apply IsS78.drew | apply IsS78.set_1 | apply IsS78.set_2 | refine IsS78.far ?_ NB0_171.out _ | refine IsS78.far ?_ NB0_177.out _) | exact HI0.out)))
     (case side2 => exact (by repeat (first | (with_reducible first | exact HB.out | apply below_alloc | apply pw_below_drewN | apply below_drew1 | refine below_set ?_ (IsS78.ge HI0.out) | refine below_set ?_ GE171.out | refine below_set ?_ GE177.out) | exact HB.out)))
     (case side3 => exact uc (Kd.R_reads' HO191.out).2.2)
     (case side4 => exact (Kd.R_reads' HO191.out).2.1)
     (case side5 => exact far_slice (IsS78.own_ne HI0.out HO191.out (by decide)))
     rintro e w43 ⟨rfl, hi, hb, hk⟩
     have HS1_ := keep_cell hk (hHeld.2.1) (by first | (rw [add_block]; exact Kd.own_blk (IsS78.own_neS HI0.out HO174.out (by decide))) | (show (Addr.add _ _).block ≠ _; rw [add_block]; exact Kd.own_blk (IsS78.own_neS HI0.out HO174.out (by decide))) | exact Kd.own_blk (IsS78.own_neS HI0.out HO174.out (by decide)) | (have h_ := Kd.own_blk (IsS78.own_neS HI0.out HO174.out (by decide)); exact h_))
     have HS2_ := keep_cell hk (hHeld.2.2) (by first | (rw [add_block]; exact Kd.own_blk (IsS78.own_neS HI0.out HO174.out (by decide))) | (show (Addr.add _ _).block ≠ _; rw [add_block]; exact Kd.own_blk (IsS78.own_neS HI0.out HO174.out (by decide))) | exact Kd.own_blk (IsS78.own_neS HI0.out HO174.out (by decide)) | (have h_ := Kd.own_blk (IsS78.own_neS HI0.out HO174.out (by decide)); exact h_))
     refine ⟨_, rfl, ?_⟩
     replace BK171 := mk (KeepBut.blk hk (g' := gb171) (o := .cells #[.slice none 0 0] 26 (0, 0)) (ub BK171.out) NB171_0.out (by simp))
     replace BK177 := mk (KeepBut.blk hk (g' := gb177) (o := .cells #[.slice (some ad188) t172.length co34] 26 (0, 0)) (ub BK177.out) NB177_0.out (by simp))
     replace HL188_1 := mk (Kd.R_mono (Kd.R_keep (IsS78.apart (show IsS78 w0 _ g s0_0 t179 t180 from by repeat (first | (with_reducible first | exact HI0.out | apply IsS78.alloc | apply IsS78.drewN | apply IsS78.drew | apply IsS78.set_1 | apply IsS78.set_2 | refine IsS78.far ?_ NB0_171.out _ | refine IsS78.far ?_ NB0_177.out _) | exact HI0.out)) (up HL188_1.out) (by decide)) hk (fun _ h => h.2)) (fun _ h => h.1))
     replace HX188_1 := mk (keep_cell hk HX188_1.out (by first | (rw [add_block]; exact Kd.own_blk (IsS78.own_neS HI0.out HO174.out (by decide))) | (show (Addr.add _ _).block ≠ _; rw [add_block]; exact Kd.own_blk (IsS78.own_neS HI0.out HO174.out (by decide))) | exact Kd.own_blk (IsS78.own_neS HI0.out HO174.out (by decide)) | (dsimp only; exact Kd.own_blk (IsS78.own_neS HI0.out HO174.out (by decide)))))
     replace HO174 := mk (Kd.S_mono (Kd.S_keep (IsS78.apartS (show IsS78 w0 _ g s0_0 t179 t180 from by repeat (first | (with_reducible first | exact HI0.out | apply IsS78.alloc | apply IsS78.drewN | apply IsS78.drew | apply IsS78.set_1 | apply IsS78.set_2 | refine IsS78.far ?_ NB0_171.out _ | refine IsS78.far ?_ NB0_177.out _) | exact HI0.out)) (by (with_reducible repeat (first | apply Kd.S_alloc | apply Kd.S_drewN | apply Kd.S_drew)); exact HO174.out) (by decide)) hk (fun _ h => h.2)) (fun _ h => h.1))
     replace HO191 := mk (Kd.R_mono (Kd.R_keep (IsS78.apart (show IsS78 w0 _ g s0_0 t179 t180 from by repeat (first | (with_reducible first | exact HI0.out | apply IsS78.alloc | apply IsS78.drewN | apply IsS78.drew | apply IsS78.set_1 | apply IsS78.set_2 | refine IsS78.far ?_ NB0_171.out _ | refine IsS78.far ?_ NB0_177.out _) | exact HI0.out)) (up HO191.out) (by decide)) hk (fun _ h => h.2)) (fun _ h => h.1))
     replace HK := mk (KeepBut.trans (by repeat (first | (with_reducible first | exact HK.out | apply KeepBut.set_ | apply keep_drewN | apply keep_drew | apply keep_alloc | refine keep_far ?_ GW171.out _ | refine keep_far ?_ GW177.out _) | exact HK.out)) hk (.inl rfl))
     replace HB := mk hb
     replace HI0 := mk hi
     (try clear hb)
     (try clear hb2)
     (try clear hk)
     (try clear hi)
     replace HO174 := mk (Kd.S_mono (ok' := (fun k_ => some k_ ≠ (.slice Ao42 y189.length co42 : Value).ownBlock)) HO174.out (fun k_ hk => hk.2))
     obtain ⟨go44, co44, eo44, gb44, gl44, cl44, HG44⟩ := Kd.S_form HO174.out (by have h_ : (0 : Int) < ((t172.length : Int) : Int) := dt; have h2_ : 0 ≤ (0 : Int) := (by omega); omega)
     (first | cases eo44 | (injection eo44 with ea_ en_ ec_; (first | subst ea_ | (injection ea_ with ea_; subst ea_)); subst ec_; clear en_))
     have GB44 := Aside0.mk gb44
     have GG44 := Aside0.mk HG44
     clear gb44 gl44 HG44
     (first | simp only [add_plain] at hx188_0 | skip)
     (first | simp only [add_plain] at hx188_1 | skip)
     obtain ⟨oki44, ce44, hcl44, hM44, hcc44, _, _, hH44⟩ := Kd.S_elem HO174.out z58 (0 : Int) (by omega) (by have h_ : (0 : Int) < ((t172.length : Int) : Int) := dt; first | exact h_ | (have e_ := (Kd.S_reads' HO174.out).1; omega) | simpa using h_)
     obtain ⟨ve44_1, rfl, ge44_1⟩ := k58_openM hM44
     have hv44 := hcc44 1 _ rfl
     have hX44 := HX188_1.out
     (try simp only [add_plain] at hX44)
     (try simp only [Nat.add_zero] at hv44)
     replace hv44 := Option.some.inj (hv44.symm.trans hX44)
     subst hv44
     clear hX44 hcc44 hcl44
     have UU44 := Aside0.mk (show Kd.R (Kd.int .i64) 3 _ w.heap.size oki44 (.slice A188_1 ((rd_T58 t172 0).f1).length c188_1) ((rd_T58 t172 0).f1) from ge44_1)
     have HH44 := Aside0.mk hH44
     have HN44 := Aside0.mk (Kd.S_reads' HO174.out).1
     clear hH44 ge44_1
     refine hK.out _ _ ⟨bc BK177 0, HS1_, HS2_⟩ (fun hHeld => ?_)
     clear hK K
     refine nm 28 ?_
     refine on 10 29 (tf 11 4) (fun K hK => ?_)
     refine value_ (w1 := ?_) (v := ?_) (by rfl) rfl ?_ ?_
     rotate_left 2
     ·go_simp
      constructor
      ·rfl
      ·rfl
     refine hK.out _ _ ⟨(blk_cell (blk_alloc BK177.out _) 0).trans rfl, (World.cell?_alloc_lt _ _ _ (World.block_lt_of_cell? _ _ (hHeld.2.1))).trans (hHeld.2.1), (World.cell?_alloc_lt _ _ _ (World.block_lt_of_cell? _ _ (hHeld.2.2))).trans (hHeld.2.2)⟩ (fun hHeld => ?_)
     clear hK K
     refine nm 29 ?_
     refine on 11 30 (tf 12 3) (fun K hK => ?_)
     refine Kd.R_append_step (Kd.int .i64) w.heap.size (by rfl) (.tmp 25) (.tmp 29) 47 3 (.int .i64 0) 8 rfl Tryz.underlying47 info3 rfl (by decide) (by omega) (.slice A188_1 ((rd_T58 t172 0).f1).length c188_1) ((rd_T58 t172 0).f1) t192 [.int .i64 t192] (fun k_ => oki44 k_ ∨ ((fun k_ => some k_ ≠ (.slice Ao42 y189.length co42 : Value).ownBlock)) k_ ∧ w43.heap.size ≤ k_) (fun _ => False) rfl rfl ?aP (fun _ hk => hk.elim) ?aF ?aO (Below.refl _ _) ?aS ?aL ?_
     (case aP => exact rfl)
     (case aF => exact (fun k_ hk => .inr ⟨Kd.fresh' (Kd.R_lt (up HO191.out)) k_ hk, hk⟩))
     (case aO => exact (by exact up (Kd.R_mono UU44.out (fun _ hk => .inl hk))))
     (case aS => exact (keep_size (w := w) (g := g) (row := none) (by repeat (first | (with_reducible first | exact HK.out | apply KeepBut.set_ | apply keep_drewN | apply keep_drew | apply keep_alloc | refine keep_far ?_ GW171.out _ | refine keep_far ?_ GW177.out _) | exact HK.out))))
     (case aL => have := LMc29.out; omega)
     intro v196 w45 ho hb hg hat
     (first | have HS1_ := cell_grown hg (hHeld.2.1) (by first | (rw [add_block]; exact (fun e_ => ((HL188_1.out.1 _ e_.symm).1.2) rfl)) | (show some (Addr.add _ _).block ≠ _; rw [add_block]; exact (fun e_ => ((HL188_1.out.1 _ e_.symm).1.2) rfl)) | exact (fun e_ => ((HL188_1.out.1 _ e_.symm).1.2) rfl)) | have HS1_ := cell_grown hg (cell_unalloc (hHeld.2.1) (by first | (rw [add_block]; exact Kd.S_lt HO174.out _ rfl) | (show (Addr.add _ _).block < _; rw [add_block]; exact Kd.S_lt HO174.out _ rfl) | exact Kd.S_lt HO174.out _ rfl)) (by first | (rw [add_block]; exact (fun e_ => ((HL188_1.out.1 _ e_.symm).1.2) rfl)) | (show some (Addr.add _ _).block ≠ _; rw [add_block]; exact (fun e_ => ((HL188_1.out.1 _ e_.symm).1.2) rfl)) | exact (fun e_ => ((HL188_1.out.1 _ e_.symm).1.2) rfl)))
     (first | have HS2_ := cell_grown hg (hHeld.2.2) (by first | (rw [add_block]; exact (fun e_ => ((HL188_1.out.1 _ e_.symm).1.2) rfl)) | (show some (Addr.add _ _).block ≠ _; rw [add_block]; exact (fun e_ => ((HL188_1.out.1 _ e_.symm).1.2) rfl)) | exact (fun e_ => ((HL188_1.out.1 _ e_.symm).1.2) rfl)) | have HS2_ := cell_grown hg (cell_unalloc (hHeld.2.2) (by first | (rw [add_block]; exact Kd.S_lt HO174.out _ rfl) | (show (Addr.add _ _).block < _; rw [add_block]; exact Kd.S_lt HO174.out _ rfl) | exact Kd.S_lt HO174.out _ rfl)) (by first | (rw [add_block]; exact (fun e_ => ((HL188_1.out.1 _ e_.symm).1.2) rfl)) | (show some (Addr.add _ _).block ≠ _; rw [add_block]; exact (fun e_ => ((HL188_1.out.1 _ e_.symm).1.2) rfl)) | exact (fun e_ => ((HL188_1.out.1 _ e_.symm).1.2) rfl)))
     rw [← Ny195.out] at ho
     replace BK171 := mk (blk_grown (g := gb171) (o := .cells #[.slice none 0 0] 26 (0, 0)) (ub BK171.out) hg (Kd.R_ne HL188_1.out BK171.out (by decide)))
     replace BK177 := mk (blk_grown (g := gb177) (o := .cells #[.slice (some ⟨go44, 0, none⟩) t172.length co34] 26 (0, 0)) (ub BK177.out) hg (Kd.R_ne HL188_1.out BK177.out (by decide)))
     replace HO191 := mk (Kd.R_grown2 (up HO191.out) rfl hg (fun k_ e_ => (HL188_1.out.1 k_ e_).2))
     replace HB := mk (below_weaken (by repeat (first | (with_reducible first | exact HB.out | apply below_alloc | apply pw_below_drewN | apply below_drew1 | refine below_set ?_ (IsS78.ge HI0.out) | refine below_set ?_ GE171.out | refine below_set ?_ GE177.out) | exact HB.out)) HL.out hb)
     replace HI0 := mk (IsS78.grown (by repeat (first | (with_reducible first | exact HI0.out | apply IsS78.alloc | apply IsS78.drewN | apply IsS78.drew | apply IsS78.set_1 | apply IsS78.set_2 | refine IsS78.far ?_ NB0_171.out _ | refine IsS78.far ?_ NB0_177.out _) | exact HI0.out)) hg (IsS78.own_ne HI0.out HL188_1.out (by decide)))
     replace HK := mk (KeepBut.trans (by repeat (first | (with_reducible first | exact HK.out | apply KeepBut.set_ | apply keep_drewN | apply keep_drew | apply keep_alloc | refine keep_far ?_ GW171.out _ | refine keep_far ?_ GW177.out _) | exact HK.out)) (KeepBut.of_grown hg g) (Kd.R_base2 HL188_1.out))
     replace HH44 := mk (Kd.H_grown (Kd.H_widen (by repeat (first | exact HH44.out | refine Kd.H_alloc ?_ _ | refine Kd.H_drewN ?_ _ | refine Kd.H_drew ?_))) hg (fun k_ e_ => .inl (UU44.out.1 k_ e_)))
     have HO197 := mk ho
     clear HO174 UU44 HL188_1
     clear ho hb hg hat
     have p30 : 0 ≤ (0 : Int) := (by omega)
     have q30 : (0 : Int) < ((t172.length : Int) : Int) := dt
     replace p30 := eq_true p30
     replace q30 := eq_true q30
     obtain ⟨Ao48, co48, eo48⟩ := Kd.R_slice HO197.out
     (first | subst eo48 | (injection eo48 with f1_ f2_ f3_; have f4_ := f1_.symm; have f5_ := f3_.symm; clear f1_ f2_ f3_; subst f4_; subst f5_))
     obtain ⟨_, _, hraw46, _, _, hcc46, _⟩ := Kd.H_raw HH44.out (by omega) (by have h_ : (0 : Int) < ((t172.length : Int) : Int) := dt; first | exact h_ | (have e_ := (HN44.out); omega) | simpa using h_)
     obtain ⟨_, hfr46⟩ := Kd.H_at HH44.out (by omega) (by have h_ : (0 : Int) < ((t172.length : Int) : Int) := dt; first | exact h_ | (have e_ := (HN44.out); omega) | simpa using h_)
     have hx46_0 := hcc46 1 _ rfl
     have hf46_0 := hfr46 1
     (try rw [show (k58).sz = 2 from rfl] at hx46_0)
     (try rw [show (k58).sz = 2 from rfl] at hf46_0)
     (try rw [show ((0 : Int)).toNat = 0 from rfl] at hx46_0)
     (try simp only [Nat.reduceMul, Nat.zero_mul, Nat.zero_add, Nat.reduceAdd] at hx46_0)
     (try rw [show ((0 : Int)).toNat = 0 from rfl] at hf46_0)
     (try simp only [Nat.reduceMul, Nat.zero_mul, Nat.zero_add, Nat.reduceAdd] at hf46_0)
     have HP46 := Kd.S_seg0 HH44.out (by omega) (by have h_ : (0 : Int) < ((t172.length : Int) : Int) := dt; first | exact h_ | (have e_ := (HN44.out); omega) | simpa using h_) (seg := [.slice Ao48 y195.length co48]) (j := 1) (show 2 ≤ 2 from by decide) (x' := (⟨(rd_T58 t172 0).f0, y195⟩ : S58)) (k58_mkM _ _ _ (⟨(rd_T58 t172 0).f0, y195⟩ : S58) HO197.out) (fun _ hk => hk)
     clear hcc46 hfr46
     have HN0_go44 := Aside0.mk (show g ≠ go44 from by have h_ := IsS78.own_ne HI0.out hraw46 (by decide); intro e_; exact h_ (by rw [e_]; rfl))
     have HNB171_go44 := Aside0.mk (show gb171 ≠ go44 from by have h_ := Kd.R_ne hraw46 BK171.out (by decide); intro e_; exact h_ (by rw [e_]; rfl))
     have HNB177_go44 := Aside0.mk (show gb177 ≠ go44 from by have h_ := Kd.R_ne hraw46 BK177.out (by decide); intro e_; exact h_ (by rw [e_]; rfl))
     have HS46 := HP46.1
     rw [← Ny198.out] at HS46
     have HQ46 := Aside0.mk HS46
     obtain ⟨_, hgg46⟩ := Kd.R_typed hraw46 go44 rfl
     have GG46_ := Aside0.mk hgg46
     clear HP46 HS46 hgg46
     refine hK.out _ _ ⟨bc BK177 0, HS1_, HS2_⟩ (fun hHeld => ?_)
     clear hK K
     refine nm 30 ?_
     refine pu 12 31 (tf 13 2) ?_
     refine pu 13 32 (tf 14 1) ?_
     refine last_ (i := 14) (N := none) #[T_, T_, T_, T_, T_, T_, T_, T_, T_, T_, T_, T_, T_, T_, T_] rfl rfl (one_of HT_.out (by kernel_rfl)) (by decide) (fun K hK => ?_)
     refine skip_ (w1 := ?_) (by rfl) rfl ?_ ?_
     rotate_left
     ·go_simp
      rfl
     refine hK.out _ _ ?_
     clear hK K
     refine done_ (done_of HT_.out (by kernel_rfl)) ?_
     have n0_ : Aside0 (Kd.R (Kd.int .i64) 3 (w45.setCell ⟨go44, 1, none⟩ (.slice Ao48 y195.length co48)) w.heap.size (fun _ => True) (.slice Ao42 y189.length co42) y189) := ⟨by (with_reducible repeat (first | apply Kd.R_alloc | apply Kd.R_drewN | apply Kd.R_drew)); exact Kd.R_mono (Kd.R_far (p := ⟨go44, 1, none⟩) (Kd.R_types HO191.out GG46_.out (by decide)) (fun _ hk => hk.2) (.slice Ao48 y195.length co48)) (fun _ hk => trivial)⟩
     have n1_ : Aside0 (Kd.S k58 58 (w45.setCell ⟨go44, 1, none⟩ (.slice Ao48 y195.length co48)) w.heap.size (fun k_ => some k_ ≠ (.slice Ao42 y189.length co42 : Value).ownBlock) (.slice (some ⟨go44, 0, none⟩) t172.length co34) y198) := ⟨by (with_reducible repeat (first | apply Kd.S_alloc | apply Kd.S_drewN | apply Kd.S_drew)); exact HQ46.out⟩
     have n2_ : Aside0 ((w45.setCell ⟨go44, 1, none⟩ (.slice Ao48 y195.length co48)).heap[gb171]? = some (.cells #[.slice none 0 0] 26 (0, 0))) := ⟨by (with_reducible repeat (first | refine blk_drewN ?_ _ | refine blk_drew ?_ | refine blk_alloc ?_ _)); refine blk_far ?_ HNB171_go44.out _; (with_reducible repeat (first | refine blk_drewN ?_ _ | refine blk_drew ?_ | refine blk_alloc ?_ _)); exact BK171.out⟩
     have n3_ : Aside0 ((w45.setCell ⟨go44, 1, none⟩ (.slice Ao48 y195.length co48)).heap[gb177]? = some (.cells #[.slice (some ⟨go44, 0, none⟩) t172.length co34] 26 (0, 0))) := ⟨by (with_reducible repeat (first | refine blk_drewN ?_ _ | refine blk_drew ?_ | refine blk_alloc ?_ _)); refine blk_far ?_ HNB177_go44.out _; (with_reducible repeat (first | refine blk_drewN ?_ _ | refine blk_drew ?_ | refine blk_alloc ?_ _)); exact BK177.out⟩
     have n4_ : Aside0 (IsS78 w0 (w45.setCell ⟨go44, 1, none⟩ (.slice Ao48 y195.length co48)) g s0_0 t193 t194) := ⟨by repeat (first | (with_reducible first | exact HI0.out | apply IsS78.alloc | apply IsS78.drewN | apply IsS78.drew | apply IsS78.set_1 | apply IsS78.set_2 | refine IsS78.far ?_ HN0_go44.out _ | refine IsS78.far ?_ NB0_171.out _ | refine IsS78.far ?_ NB0_177.out _) | exact HI0.out)⟩
     have n5_ : Aside0 (KeepBut w (w45.setCell ⟨go44, 1, none⟩ (.slice Ao48 y195.length co48)) g none) := ⟨by repeat (first | (with_reducible first | exact HK.out | apply KeepBut.set_ | apply keep_drewN | apply keep_drew | apply keep_alloc | refine keep_far ?_ GB44.out _ | refine keep_far ?_ GW171.out _ | refine keep_far ?_ GW177.out _) | exact HK.out)⟩
     have n6_ : Aside0 (Below w0.heap.size w0 (w45.setCell ⟨go44, 1, none⟩ (.slice Ao48 y195.length co48))) := ⟨by repeat (first | (with_reducible first | exact HB.out | apply below_alloc | apply pw_below_drewN | apply below_drew1 | refine below_set ?_ (Nat.le_trans HL.out GB44.out) | refine below_set ?_ (IsS78.ge HI0.out) | refine below_set ?_ GE171.out | refine below_set ?_ GE177.out) | exact HB.out)⟩
     (try clear HO191)
     (try clear HO174)
     (try clear BK171)
     (try clear BK177)
     (try clear HI0)
     (try clear HK)
     (try clear HB)
     generalize (w45.setCell ⟨go44, 1, none⟩ (.slice Ao48 y195.length co48)) = w49 at n0_ n1_ n2_ n3_ n4_ n5_ n6_ ⊢
     have HO191 := n0_
     have HO174 := n1_
     have BK171 := n2_
     have BK177 := n3_
     have HI0 := n4_
     have HK := n5_
     have HB := n6_
     clear n0_ n1_ n2_ n3_ n4_ n5_ n6_
     obtain ⟨hcz50_0, hfz50_0⟩ := bz1 BK177
     have hnb51 := NB171_0.out
     have hnc51 := NB0_171.out
     obtain ⟨hcz52_0, hfz52_0⟩ := bz1 BK171
     try go_wp2
     refine bodyPost_ret (results_cell_row rfl _ _ gb171 26 #[.slice (some ⟨go44, 0, none⟩) t172.length co34] (0, 0) _ rfl bq Tryz.underlying26 rfl (by kernel_rfl)) rfl ?_
     exact ⟨_, by first | rfl | (simp [errW_none, errW_some] <;> rfl) | (simp [*, errW_none, errW_some] <;> rfl), Kd.NF_of (by (with_reducible repeat (first | apply Kd.S_alloc | apply Kd.S_drewN | apply Kd.S_drew)); exact Kd.S_mono (Kd.S_far (p := ⟨gb171, 0, none⟩) (Kd.S_types HO174.out BK171.out (by decide)) (fun _ hk => hk.2) (.slice (some ⟨go44, 0, none⟩) t172.length co34)) (fun _ hk => trivial)), by repeat (first | (with_reducible first | exact HI0.out | apply IsS78.alloc | apply IsS78.drewN | apply IsS78.drew | apply IsS78.set_1 | apply IsS78.set_2 | refine IsS78.far ?_ NB0_171.out _ | refine IsS78.far ?_ NB0_177.out _) | exact HI0.out), by repeat (first | (with_reducible first | exact HB.out | apply below_alloc | apply pw_below_drewN | apply below_drew1 | refine below_set ?_ (IsS78.ge HI0.out) | refine below_set ?_ GE171.out | refine below_set ?_ GE177.out) | exact HB.out), by repeat (first | (with_reducible first | exact HK.out | apply KeepBut.set_ | apply keep_drewN | apply keep_drew | apply keep_alloc | refine keep_far ?_ GW171.out _ | refine keep_far ?_ GW177.out _) | exact HK.out)⟩
    ·rw [if_neg c29] at H
     exact absurd H (by simp)
   ·rw [if_neg c27] at H
    exact absurd H (by simp)
  ·rw [if_neg c26] at H
   have c26b0 : (t178 == 1) = false := beq_eq_false_iff_ne.mpr c26
   have c26b1 : (t178 != 1) = true := bne_iff_ne.mpr c26
   by_cases c53 : t178 = 2
   ·rw [if_pos c53] at H
    have c53b0 : (t178 == 2) = true := beq_iff_eq.mpr c53
    have c53b1 : (t178 != 2) = false := bne_eq_false_iff_eq.mpr c53
    clear c53
    have c91 : 1 ≤ (t172.length : Int) := by
      by_cases c_ : 1 ≤ (t172.length : Int)
      · exact c_
      · rw [if_neg c_] at H; exact absurd H (by simp)
    rw [if_pos c91] at H
    replace c91 := Aside0.mk c91
    simp only [Option.some.injEq, Prod.mk.injEq] at H
    obtain ⟨rfl, rfl, rfl⟩ := H
    go_enter Tryz.func28, Tryz.ntmps28
    go_wp2_with (first | ((with_reducible refine gate_dst (N := 2) rfl ?_); refine bx 2 #[.slice none 0 0] 26 ?_; intro gb171 hg w54 hbox hb; replace HB := mk (below_step (by repeat (first | (with_reducible first | exact HB.out | apply below_alloc | apply pw_below_drewN | apply below_drew1 | refine below_set ?_ (IsS78.ge HI0.out)) | exact HB.out)) hb); have BK171 := mk hbox; have GW171 := mk ((by rw [hg]; exact (keep_size (w := w) (g := g) (row := none) (by repeat (first | (with_reducible first | exact HK.out | apply KeepBut.set_ | apply keep_drewN | apply keep_drew | apply keep_alloc) | exact HK.out))) : w.heap.size ≤ gb171)); have GE171 := mk ((Nat.le_trans HW0.out (by rw [hg]; exact (keep_size (w := w) (g := g) (row := none) (by repeat (first | (with_reducible first | exact HK.out | apply KeepBut.set_ | apply keep_drewN | apply keep_drew | apply keep_alloc) | exact HK.out))) : w.heap.size ≤ gb171) : w0.heap.size ≤ gb171)); replace HK := mk (KeepBut.trans (by repeat (first | (with_reducible first | exact HK.out | apply KeepBut.set_ | apply keep_drewN | apply keep_drew | apply keep_alloc) | exact HK.out)) (KeepBut.of_below hb g none) (.inl rfl)); have NB0_171 := mk ((by rw [hg]; exact Nat.ne_of_lt (IsS78.lt (show IsS78 w0 _ g s0_0 s0_1 s0_2 from by repeat (first | (with_reducible first | exact HI0.out | apply IsS78.alloc | apply IsS78.drewN | apply IsS78.drew | apply IsS78.set_1 | apply IsS78.set_2) | exact HI0.out))) : g ≠ gb171)); have NB171_0 := mk ((by rw [hg]; exact Nat.ne_of_gt (IsS78.lt (show IsS78 w0 _ g s0_0 s0_1 s0_2 from by repeat (first | (with_reducible first | exact HI0.out | apply IsS78.alloc | apply IsS78.drewN | apply IsS78.drew | apply IsS78.set_1 | apply IsS78.set_2) | exact HI0.out))) : gb171 ≠ g)); replace HI0 := mk (IsS78.below (by repeat (first | (with_reducible first | exact HI0.out | apply IsS78.alloc | apply IsS78.drewN | apply IsS78.drew | apply IsS78.set_1 | apply IsS78.set_2) | exact HI0.out)) hb); clear hb hbox hg) | ((with_reducible refine gate_callee (f := 48) rfl ?_); refine gl (some 5) rfl Tryz.func48 #[.pointer (some ⟨g, 0, none⟩)] ?_; (with_reducible refine (spec_l2Table.calls k g s0_0 s0_1 s0_2 t172 t175 t176 w0 _ ?side1 ?side2 A2.out).mono ?_); (case side1 => exact (by repeat (first | (with_reducible first | exact HI0.out | apply IsS78.alloc | apply IsS78.drewN | apply IsS78.drew | apply IsS78.set_1 | apply IsS78.set_2 | refine IsS78.far ?_ NB0_171.out _) | exact HI0.out))); (case side2 => exact (by repeat (first | (with_reducible first | exact HB.out | apply below_alloc | apply pw_below_drewN | apply below_drew1 | refine below_set ?_ (IsS78.ge HI0.out) | refine below_set ?_ GE171.out) | exact HB.out))); rintro e w55 ⟨v173, rfl, ho0, hi, hb, hk⟩; refine ⟨_, rfl, ?_⟩; replace BK171 := mk (KeepBut.blk hk (g' := gb171) (o := .cells #[.slice none 0 0] 26 (0, 0)) (ub BK171.out) NB171_0.out (by simp)); have HO174 := mk (Kd.S_lower ho0 (keep_size (w := w) (g := g) (row := none) (by repeat (first | (with_reducible first | exact HK.out | apply KeepBut.set_ | apply keep_drewN | apply keep_drew | apply keep_alloc | refine keep_far ?_ GW171.out _) | exact HK.out)))); replace HK := mk (KeepBut.trans (by repeat (first | (with_reducible first | exact HK.out | apply KeepBut.set_ | apply keep_drewN | apply keep_drew | apply keep_alloc | refine keep_far ?_ GW171.out _) | exact HK.out)) hk (.inl rfl)); replace HB := mk hb; replace HI0 := mk hi; (try clear hb); (try clear hb2); (try clear hk); (try clear hi); (try clear ho0)) | ((with_reducible refine gate_dst (N := 3) rfl ?_); refine bx 3 #[.slice none 0 0] 26 ?_; intro gb177 hg w56 hbox hb; replace HO174 := mk (Kd.S_below (by (with_reducible repeat (first | apply Kd.S_alloc | apply Kd.S_drewN | apply Kd.S_drew)); exact HO174.out) hb); replace HB := mk (below_step (by repeat (first | (with_reducible first | exact HB.out | apply below_alloc | apply pw_below_drewN | apply below_drew1 | refine below_set ?_ (IsS78.ge HI0.out) | refine below_set ?_ GE171.out) | exact HB.out)) hb); have BK177 := mk hbox; have GW177 := mk ((by rw [hg]; exact (keep_size (w := w) (g := g) (row := none) (by repeat (first | (with_reducible first | exact HK.out | apply KeepBut.set_ | apply keep_drewN | apply keep_drew | apply keep_alloc | refine keep_far ?_ GW171.out _) | exact HK.out))) : w.heap.size ≤ gb177)); have GE177 := mk ((Nat.le_trans HW0.out (by rw [hg]; exact (keep_size (w := w) (g := g) (row := none) (by repeat (first | (with_reducible first | exact HK.out | apply KeepBut.set_ | apply keep_drewN | apply keep_drew | apply keep_alloc | refine keep_far ?_ GW171.out _) | exact HK.out))) : w.heap.size ≤ gb177) : w0.heap.size ≤ gb177)); replace HK := mk (KeepBut.trans (by repeat (first | (with_reducible first | exact HK.out | apply KeepBut.set_ | apply keep_drewN | apply keep_drew | apply keep_alloc | refine keep_far ?_ GW171.out _) | exact HK.out)) (KeepBut.of_below hb g none) (.inl rfl)); have NB171_177 := nl BK171 hg; have NB177_171 := nr BK171 hg; replace BK171 := wb BK171 hb; have NB0_177 := mk ((by rw [hg]; exact Nat.ne_of_lt (IsS78.lt (show IsS78 w0 _ g s0_0 t175 t176 from by repeat (first | (with_reducible first | exact HI0.out | apply IsS78.alloc | apply IsS78.drewN | apply IsS78.drew | apply IsS78.set_1 | apply IsS78.set_2 | refine IsS78.far ?_ NB0_171.out _) | exact HI0.out))) : g ≠ gb177)); have NB177_0 := mk ((by rw [hg]; exact Nat.ne_of_gt (IsS78.lt (show IsS78 w0 _ g s0_0 t175 t176 from by repeat (first | (with_reducible first | exact HI0.out | apply IsS78.alloc | apply IsS78.drewN | apply IsS78.drew | apply IsS78.set_1 | apply IsS78.set_2 | refine IsS78.far ?_ NB0_171.out _) | exact HI0.out))) : gb177 ≠ g)); replace HI0 := mk (IsS78.below (by repeat (first | (with_reducible first | exact HI0.out | apply IsS78.alloc | apply IsS78.drewN | apply IsS78.drew | apply IsS78.set_1 | apply IsS78.set_2 | refine IsS78.far ?_ NB0_171.out _) | exact HI0.out)) hb); clear hb hbox hg; obtain ⟨Ao57, co57, eo57⟩ := Kd.S_slice HO174.out; subst eo57; obtain ⟨i90_, hi90_, _, hsz90_, _⟩ := info_parts info58; have hcut90 := cut_from (P := Tryz.prog) 24 58 .i64 Tryz.underlying24 hi90_ 2 hsz90_ Ao57 t172.length co57 1 (by omega) c91.out; obtain ⟨A90, hA90⟩ : ∃ A1, A1 = (if co57 = (1 : Int).toNat then Ao57 else Ao57.map (·.add ((1 : Int).toNat * 2))) := ⟨_, rfl⟩; obtain ⟨n90, hn90⟩ : ∃ n1, n1 = t172.length - (1 : Int).toNat := ⟨_, rfl⟩; obtain ⟨c90, hc90⟩ : ∃ c1, c1 = co57 - (1 : Int).toNat := ⟨_, rfl⟩; rw [← hA90, ← hn90, ← hc90] at hcut90; have KA90 := Aside0.mk hA90; have Kn90 := Aside0.mk hn90; have Kc90 := Aside0.mk hc90; clear hA90 hn90 hc90 hi90_ hsz90_; have hnb58 := NB177_171.out; have hnc58 := NB171_177.out; have hnb59 := NB177_0.out; have hnc59 := NB0_177.out; obtain ⟨hcz60_0, hfz60_0⟩ := bz1 BK177) | ((with_reducible refine gate_callee (f := 43) rfl ?_); refine gl (some 7) rfl Tryz.func43 #[.pointer (some ⟨g, 0, none⟩), .int .i64 8] ?_; (with_reducible refine (spec_l1Below.calls g s0_0 t175 t176 8 t178 t179 t180 w0 _ ?side1 ?side2 A3.out).mono ?_); (case side1 => exact (by repeat (first | (with_reducible first | exact HI0.out | apply IsS78.alloc | apply IsS78.drewN | apply IsS78.drew | apply IsS78.set_1 | apply IsS78.set_2 | refine IsS78.far ?_ NB0_171.out _ | refine IsS78.far ?_ NB0_177.out _) | exact HI0.out))); (case side2 => exact (by repeat (first | (with_reducible first | exact HB.out | apply below_alloc | apply pw_below_drewN | apply below_drew1 | refine below_set ?_ (IsS78.ge HI0.out) | refine below_set ?_ GE171.out | refine below_set ?_ GE177.out) | exact HB.out))); rintro e w61 ⟨rfl, hi, hb, hk⟩; refine ⟨_, rfl, ?_⟩; have n0_ := Aside0.mk (KeepBut.blk hk (g' := gb171) (o := .cells #[.slice none 0 0] 26 (0, 0)) bq NB171_0.out (by simp)); have n1_ := Aside0.mk (Kd.S_mono (Kd.S_keep (IsS78.apartS (show IsS78 w0 _ g s0_0 t175 t176 from by repeat (first | (with_reducible first | exact HI0.out | apply IsS78.alloc | apply IsS78.drewN | apply IsS78.drew | apply IsS78.set_1 | apply IsS78.set_2 | refine IsS78.far ?_ NB0_171.out _ | refine IsS78.far ?_ NB0_177.out _) | exact HI0.out)) (by (with_reducible repeat (first | apply Kd.S_alloc | apply Kd.S_drewN | apply Kd.S_drew)); exact (Kd.S_mono (Kd.S_far (p := ⟨gb177, 0, none⟩) (Kd.S_types HO174.out BK177.out (by decide)) (fun _ hk => hk.2) (.slice Ao57 t172.length co57)) (fun _ h_ => h_.1))) (by decide)) hk (fun _ h => h.2)) (fun _ h => h.1)); have n2_ := Aside0.mk (KeepBut.blk hk (g' := gb177) (o := .cells #[.slice Ao57 t172.length co57] 26 (0, 0)) bq NB177_0.out (by simp)); have n3_ := Aside0.mk (KeepBut.trans (by repeat (first | (with_reducible first | exact HK.out | apply KeepBut.set_ | apply keep_drewN | apply keep_drew | apply keep_alloc | refine keep_far ?_ GW171.out _ | refine keep_far ?_ GW177.out _) | exact HK.out)) hk (.inl rfl)); have n4_ := Aside0.mk (hb); have n5_ := Aside0.mk (hi); clear BK171; clear HO174; clear BK177; clear HK; clear HB; clear HI0; have BK171 := n0_; have HO174 := n1_; have BK177 := n2_; have HK := n3_; have HB := n4_; have HI0 := n5_; clear n0_ n1_ n2_ n3_ n4_ n5_; (try clear hb); (try clear hb2); (try clear hk); (try clear hi); obtain ⟨hcz62_0, hfz62_0⟩ := bz1 BK177; have hnb63 := NB171_0.out; have hnc63 := NB0_171.out; obtain ⟨hcz64_0, hfz64_0⟩ := bz1 BK171))
    refine bodyPost_ret (results_cell_row rfl _ _ gb171 26 #[.slice A90 n90 c90] (0, 0) _ rfl bq Tryz.underlying26 rfl (by kernel_rfl)) rfl ?_
    exact ⟨_, by first | rfl | (simp [errW_none, errW_some] <;> rfl) | (simp [*, errW_none, errW_some] <;> rfl), Kd.NF_mk (B := Ao57) (n := t172.length) (c := co57) (by (with_reducible repeat (first | apply Kd.S_alloc | apply Kd.S_drewN | apply Kd.S_drew)); exact Kd.S_mono (Kd.S_far (p := ⟨gb171, 0, none⟩) (Kd.S_far (p := ⟨gb177, 0, none⟩) (Kd.S_types (Kd.S_types HO174.out BK177.out (by decide)) BK171.out (by decide)) (fun _ hk => by first | exact hk.1.2 | (revert hk; simp only [and_imp]; intros; (repeat' (refine And.intro ?_ ?_)) <;> assumption)) (.slice A90 n90 c90)) (fun _ hk => hk.2) (.slice A90 n90 c90)) (fun _ hk => trivial)) (show (1 : Int).toNat ≤ t172.length from by have := c91.out; omega) KA90.out Kn90.out Kc90.out, by repeat (first | (with_reducible first | exact HI0.out | apply IsS78.alloc | apply IsS78.drewN | apply IsS78.drew | apply IsS78.set_1 | apply IsS78.set_2 | refine IsS78.far ?_ NB0_171.out _ | refine IsS78.far ?_ NB0_177.out _) | exact HI0.out), by repeat (first | (with_reducible first | exact HB.out | apply below_alloc | apply pw_below_drewN | apply below_drew1 | refine below_set ?_ (IsS78.ge HI0.out) | refine below_set ?_ GE171.out | refine below_set ?_ GE177.out) | exact HB.out), by repeat (first | (with_reducible first | exact HK.out | apply KeepBut.set_ | apply keep_drewN | apply keep_drew | apply keep_alloc | refine keep_far ?_ GW171.out _ | refine keep_far ?_ GW177.out _) | exact HK.out)⟩
   ·rw [if_neg c53] at H
    have c53b0 : (t178 == 2) = false := beq_eq_false_iff_ne.mpr c53
    have c53b1 : (t178 != 2) = true := bne_iff_ne.mpr c53
    simp only [Option.some.injEq, Prod.mk.injEq] at H
    obtain ⟨rfl, rfl, rfl⟩ := H
    go_enter Tryz.func28, Tryz.ntmps28
    go_wp2_with (first | ((with_reducible refine gate_dst (N := 2) rfl ?_); refine bx 2 #[.slice none 0 0] 26 ?_; intro gb171 hg w65 hbox hb; replace HB := mk (below_step (by repeat (first | (with_reducible first | exact HB.out | apply below_alloc | apply pw_below_drewN | apply below_drew1 | refine below_set ?_ (IsS78.ge HI0.out)) | exact HB.out)) hb); have BK171 := mk hbox; have GW171 := mk ((by rw [hg]; exact (keep_size (w := w) (g := g) (row := none) (by repeat (first | (with_reducible first | exact HK.out | apply KeepBut.set_ | apply keep_drewN | apply keep_drew | apply keep_alloc) | exact HK.out))) : w.heap.size ≤ gb171)); have GE171 := mk ((Nat.le_trans HW0.out (by rw [hg]; exact (keep_size (w := w) (g := g) (row := none) (by repeat (first | (with_reducible first | exact HK.out | apply KeepBut.set_ | apply keep_drewN | apply keep_drew | apply keep_alloc) | exact HK.out))) : w.heap.size ≤ gb171) : w0.heap.size ≤ gb171)); replace HK := mk (KeepBut.trans (by repeat (first | (with_reducible first | exact HK.out | apply KeepBut.set_ | apply keep_drewN | apply keep_drew | apply keep_alloc) | exact HK.out)) (KeepBut.of_below hb g none) (.inl rfl)); have NB0_171 := mk ((by rw [hg]; exact Nat.ne_of_lt (IsS78.lt (show IsS78 w0 _ g s0_0 s0_1 s0_2 from by repeat (first | (with_reducible first | exact HI0.out | apply IsS78.alloc | apply IsS78.drewN | apply IsS78.drew | apply IsS78.set_1 | apply IsS78.set_2) | exact HI0.out))) : g ≠ gb171)); have NB171_0 := mk ((by rw [hg]; exact Nat.ne_of_gt (IsS78.lt (show IsS78 w0 _ g s0_0 s0_1 s0_2 from by repeat (first | (with_reducible first | exact HI0.out | apply IsS78.alloc | apply IsS78.drewN | apply IsS78.drew | apply IsS78.set_1 | apply IsS78.set_2) | exact HI0.out))) : gb171 ≠ g)); replace HI0 := mk (IsS78.below (by repeat (first | (with_reducible first | exact HI0.out | apply IsS78.alloc | apply IsS78.drewN | apply IsS78.drew | apply IsS78.set_1 | apply IsS78.set_2) | exact HI0.out)) hb); clear hb hbox hg) | ((with_reducible refine gate_callee (f := 48) rfl ?_); refine gl (some 5) rfl Tryz.func48 #[.pointer (some ⟨g, 0, none⟩)] ?_; (with_reducible refine (spec_l2Table.calls k g s0_0 s0_1 s0_2 t172 t175 t176 w0 _ ?side1 ?side2 A2.out).mono ?_); (case side1 => exact (by repeat (first | (with_reducible first | exact HI0.out | apply IsS78.alloc | apply IsS78.drewN | apply IsS78.drew | apply IsS78.set_1 | apply IsS78.set_2 | refine IsS78.far ?_ NB0_171.out _) | exact HI0.out))); (case side2 => exact (by repeat (first | (with_reducible first | exact HB.out | apply below_alloc | apply pw_below_drewN | apply below_drew1 | refine below_set ?_ (IsS78.ge HI0.out) | refine below_set ?_ GE171.out) | exact HB.out))); rintro e w66 ⟨v173, rfl, ho0, hi, hb, hk⟩; refine ⟨_, rfl, ?_⟩; replace BK171 := mk (KeepBut.blk hk (g' := gb171) (o := .cells #[.slice none 0 0] 26 (0, 0)) (ub BK171.out) NB171_0.out (by simp)); have HO174 := mk (Kd.S_lower ho0 (keep_size (w := w) (g := g) (row := none) (by repeat (first | (with_reducible first | exact HK.out | apply KeepBut.set_ | apply keep_drewN | apply keep_drew | apply keep_alloc | refine keep_far ?_ GW171.out _) | exact HK.out)))); replace HK := mk (KeepBut.trans (by repeat (first | (with_reducible first | exact HK.out | apply KeepBut.set_ | apply keep_drewN | apply keep_drew | apply keep_alloc | refine keep_far ?_ GW171.out _) | exact HK.out)) hk (.inl rfl)); replace HB := mk hb; replace HI0 := mk hi; (try clear hb); (try clear hb2); (try clear hk); (try clear hi); (try clear ho0)) | ((with_reducible refine gate_dst (N := 3) rfl ?_); refine bx 3 #[.slice none 0 0] 26 ?_; intro gb177 hg w67 hbox hb; replace HO174 := mk (Kd.S_below (by (with_reducible repeat (first | apply Kd.S_alloc | apply Kd.S_drewN | apply Kd.S_drew)); exact HO174.out) hb); replace HB := mk (below_step (by repeat (first | (with_reducible first | exact HB.out | apply below_alloc | apply pw_below_drewN | apply below_drew1 | refine below_set ?_ (IsS78.ge HI0.out) | refine below_set ?_ GE171.out) | exact HB.out)) hb); have BK177 := mk hbox; have GW177 := mk ((by rw [hg]; exact (keep_size (w := w) (g := g) (row := none) (by repeat (first | (with_reducible first | exact HK.out | apply KeepBut.set_ | apply keep_drewN | apply keep_drew | apply keep_alloc | refine keep_far ?_ GW171.out _) | exact HK.out))) : w.heap.size ≤ gb177)); have GE177 := mk ((Nat.le_trans HW0.out (by rw [hg]; exact (keep_size (w := w) (g := g) (row := none) (by repeat (first | (with_reducible first | exact HK.out | apply KeepBut.set_ | apply keep_drewN | apply keep_drew | apply keep_alloc | refine keep_far ?_ GW171.out _) | exact HK.out))) : w.heap.size ≤ gb177) : w0.heap.size ≤ gb177)); replace HK := mk (KeepBut.trans (by repeat (first | (with_reducible first | exact HK.out | apply KeepBut.set_ | apply keep_drewN | apply keep_drew | apply keep_alloc | refine keep_far ?_ GW171.out _) | exact HK.out)) (KeepBut.of_below hb g none) (.inl rfl)); have NB171_177 := nl BK171 hg; have NB177_171 := nr BK171 hg; replace BK171 := wb BK171 hb; have NB0_177 := mk ((by rw [hg]; exact Nat.ne_of_lt (IsS78.lt (show IsS78 w0 _ g s0_0 t175 t176 from by repeat (first | (with_reducible first | exact HI0.out | apply IsS78.alloc | apply IsS78.drewN | apply IsS78.drew | apply IsS78.set_1 | apply IsS78.set_2 | refine IsS78.far ?_ NB0_171.out _) | exact HI0.out))) : g ≠ gb177)); have NB177_0 := mk ((by rw [hg]; exact Nat.ne_of_gt (IsS78.lt (show IsS78 w0 _ g s0_0 t175 t176 from by repeat (first | (with_reducible first | exact HI0.out | apply IsS78.alloc | apply IsS78.drewN | apply IsS78.drew | apply IsS78.set_1 | apply IsS78.set_2 | refine IsS78.far ?_ NB0_171.out _) | exact HI0.out))) : gb177 ≠ g)); replace HI0 := mk (IsS78.below (by repeat (first | (with_reducible first | exact HI0.out | apply IsS78.alloc | apply IsS78.drewN | apply IsS78.drew | apply IsS78.set_1 | apply IsS78.set_2 | refine IsS78.far ?_ NB0_171.out _) | exact HI0.out)) hb); clear hb hbox hg; obtain ⟨Ao68, co68, eo68⟩ := Kd.S_slice HO174.out; subst eo68; have hnb69 := NB177_171.out; have hnc69 := NB171_177.out; have hnb70 := NB177_0.out; have hnc70 := NB0_177.out; obtain ⟨hcz71_0, hfz71_0⟩ := bz1 BK177) | ((with_reducible refine gate_callee (f := 43) rfl ?_); refine gl (some 7) rfl Tryz.func43 #[.pointer (some ⟨g, 0, none⟩), .int .i64 8] ?_; (with_reducible refine (spec_l1Below.calls g s0_0 t175 t176 8 t178 t179 t180 w0 _ ?side1 ?side2 A3.out).mono ?_); (case side1 => exact (by repeat (first | (with_reducible first | exact HI0.out | apply IsS78.alloc | apply IsS78.drewN | apply IsS78.drew | apply IsS78.set_1 | apply IsS78.set_2 | refine IsS78.far ?_ NB0_171.out _ | refine IsS78.far ?_ NB0_177.out _) | exact HI0.out))); (case side2 => exact (by repeat (first | (with_reducible first | exact HB.out | apply below_alloc | apply pw_below_drewN | apply below_drew1 | refine below_set ?_ (IsS78.ge HI0.out) | refine below_set ?_ GE171.out | refine below_set ?_ GE177.out) | exact HB.out))); rintro e w72 ⟨rfl, hi, hb, hk⟩; refine ⟨_, rfl, ?_⟩; have n0_ := Aside0.mk (KeepBut.blk hk (g' := gb171) (o := .cells #[.slice none 0 0] 26 (0, 0)) bq NB171_0.out (by simp)); have n1_ := Aside0.mk (Kd.S_mono (Kd.S_keep (IsS78.apartS (show IsS78 w0 _ g s0_0 t175 t176 from by repeat (first | (with_reducible first | exact HI0.out | apply IsS78.alloc | apply IsS78.drewN | apply IsS78.drew | apply IsS78.set_1 | apply IsS78.set_2 | refine IsS78.far ?_ NB0_171.out _ | refine IsS78.far ?_ NB0_177.out _) | exact HI0.out)) (by (with_reducible repeat (first | apply Kd.S_alloc | apply Kd.S_drewN | apply Kd.S_drew)); exact (Kd.S_mono (Kd.S_far (p := ⟨gb177, 0, none⟩) (Kd.S_types HO174.out BK177.out (by decide)) (fun _ hk => hk.2) (.slice Ao68 t172.length co68)) (fun _ h_ => h_.1))) (by decide)) hk (fun _ h => h.2)) (fun _ h => h.1)); have n2_ := Aside0.mk (KeepBut.blk hk (g' := gb177) (o := .cells #[.slice Ao68 t172.length co68] 26 (0, 0)) bq NB177_0.out (by simp)); have n3_ := Aside0.mk (KeepBut.trans (by repeat (first | (with_reducible first | exact HK.out | apply KeepBut.set_ | apply keep_drewN | apply keep_drew | apply keep_alloc | refine keep_far ?_ GW171.out _ | refine keep_far ?_ GW177.out _) | exact HK.out)) hk (.inl rfl)); have n4_ := Aside0.mk (hb); have n5_ := Aside0.mk (hi); clear BK171; clear HO174; clear BK177; clear HK; clear HB; clear HI0; have BK171 := n0_; have HO174 := n1_; have BK177 := n2_; have HK := n3_; have HB := n4_; have HI0 := n5_; clear n0_ n1_ n2_ n3_ n4_ n5_; (try clear hb); (try clear hb2); (try clear hk); (try clear hi); obtain ⟨hcz73_0, hfz73_0⟩ := bz1 BK177; have hnb74 := NB171_0.out; have hnc74 := NB0_171.out; obtain ⟨hcz75_0, hfz75_0⟩ := bz1 BK171))
    refine bodyPost_ret (results_cell_row rfl _ _ gb171 26 #[.slice Ao68 t172.length co68] (0, 0) _ rfl bq Tryz.underlying26 rfl (by kernel_rfl)) rfl ?_
    exact ⟨_, by first | rfl | (simp [errW_none, errW_some] <;> rfl) | (simp [*, errW_none, errW_some] <;> rfl), Kd.NF_of (by (with_reducible repeat (first | apply Kd.S_alloc | apply Kd.S_drewN | apply Kd.S_drew)); exact Kd.S_mono (Kd.S_far (p := ⟨gb171, 0, none⟩) (Kd.S_types HO174.out BK171.out (by decide)) (fun _ hk => hk.2) (.slice Ao68 t172.length co68)) (fun _ hk => trivial)), by repeat (first | (with_reducible first | exact HI0.out | apply IsS78.alloc | apply IsS78.drewN | apply IsS78.drew | apply IsS78.set_1 | apply IsS78.set_2 | refine IsS78.far ?_ NB0_171.out _ | refine IsS78.far ?_ NB0_177.out _) | exact HI0.out), by repeat (first | (with_reducible first | exact HB.out | apply below_alloc | apply pw_below_drewN | apply below_drew1 | refine below_set ?_ (IsS78.ge HI0.out) | refine below_set ?_ GE171.out | refine below_set ?_ GE177.out) | exact HB.out), by repeat (first | (with_reducible first | exact HK.out | apply KeepBut.set_ | apply keep_drewN | apply keep_drew | apply keep_alloc | refine keep_far ?_ GW171.out _ | refine keep_far ?_ GW177.out _) | exact HK.out)⟩

/-! ### spec_l1New: function 29 -/
def spec_l1New.l0 : Nat → List Int → Int → Int → Option (List Int × Int × Int)
  | 0, _, _, _ => none
  | k + 1, x0, x3, x4 => if x4 < (x0.length : Int) then (if x4 < 4000 then (if 0 ≤ x4 then (spec_l1New.l0 k x0 (Go.bits .and .i64 (wrap64 ((wrap64 ((wrap64 (x3 * 131)) + (wrap64 (rd x0 x4)))) + 7)) 1073741823) (wrap64 (x4 + 1))) else (none)) else (some (x0, 0, x3))) else (some (x0, 0, x3))
def spec_l1New.f (k : Nat) (l0 : List Int) : Option (List Int × Int × Int) := spec_l1New.l0 k l0 (wrap64 (10101 + (l0.length : Int))) 0
theorem spec_l1New.mono_l : ∀ k, (∀ y0 y1 y2, LeO (spec_l1New.l0 k y0 y1 y2) (spec_l1New.l0 (k + 1) y0 y1 y2))
  | 0 => fun _ _ _ r h => by simp [spec_l1New.l0] at h
  | k + 1 => by
    have ih0 := spec_l1New.mono_l k
    · intro y0 y1 y2
      unfold spec_l1New.l0
      exact mo
theorem spec_l1New.mono : ∀ a0 k, LeO (spec_l1New.f k a0) (spec_l1New.f (k + 1) a0) := by
  intro a0 k
  have ih0 := spec_l1New.mono_l k
  unfold spec_l1New.f
  exact mo
instance spec_l1New.mi (a0 k) : LeC (spec_l1New.f k a0) (spec_l1New.f (k + 1) a0) := ⟨spec_l1New.mono a0 k⟩
set_option maxHeartbeats 8000000 in
set_option maxRecDepth 100000 in
theorem spec_l1New.calls (k : Nat) (A0 : Option Addr) (c0 : Nat) (l0 : List Int) (r1 : List Int) (r2 : Int) (r3 : Int) (w0 w : World) (hB : Below w0.heap.size w0 w) (hr0 : Kd.C (Kd.int .u8) w0 A0 l0.length l0) (hc0 : l0.length ≤ c0) (h : spec_l1New.f k l0 = some (r1, r2, r3)) :
    Calls Tryz.prog 29 #[.slice A0 l0.length c0] w fun e w' => ∃ g_ : Nat, e = .returned (.pointer (some ⟨g_, 0, none⟩)) ∧ IsS78 w0 w' g_ r1 r2 r3 ∧ Below w0.heap.size w0 w' ∧ Below w.heap.size w w' := by
  have hu78 := Tryz.underlying78
  have HR0 := Aside0.mk hr0
  have HC0 := Aside0.mk hc0
  clear hr0 hc0
  have HBW := Aside0.mk (Below.refl w.heap.size w)
  have HW0 := Aside0.mk hB.size
  have HB := Aside0.mk hB
  clear hB
  have H : (spec_l1New.l0 k l0 (wrap64 (10101 + (l0.length : Int))) 0) = some (r1, r2, r3) := h
  clear h
  have H' := Aside0.mk H
  clear H
  go_enter Tryz.func29, Tryz.ntmps29
  go_wp2
  go_loopg [3, 4] k (fun kq v3 v4 w' => ∃ (x3_1 : Int) (x4_1 : Int), v3 = .int .i64 x3_1 ∧ v4 = .int .i64 x4_1 ∧ Aside0 (spec_l1New.l0 kq l0 x3_1 x4_1 = some (r1, r2, r3)) ∧ Aside0 (kq ≤ k) ∧ Aside0 (Below w0.heap.size w0 w') ∧ Aside0 (Below w.heap.size w w'))
  case atStart => exact ⟨(wrap64 (10101 + (l0.length : Int))), (0), (by first | rfl | (simp; done) | (simp [*]; done)), (by first | rfl | (simp; done) | (simp [*]; done)), H', ⟨Nat.le_refl _⟩, ⟨bl⟩, ⟨by repeat (first | (with_reducible first | exact HBW.out | apply below_alloc | apply pw_below_drewN | apply below_drew1) | exact HBW.out)⟩⟩
  case round =>
    clear H'
    obtain ⟨x3_1, x4_1, rfl, rfl, HA, HK1, HB, HBW⟩ := hrel
    cases gk with
    | zero => exact absurd HA.out (by simp [spec_l1New.l0])
    | succ k1 =>
      have H := HA.out
      clear HA
      simp only [spec_l1New.l0] at H
      by_cases c2 : x4_1 < (l0.length : Int)
      · rw [if_pos c2] at H
        have c2b0 : decide (x4_1 < (l0.length : Int)) = true := decide_eq_true c2
        clear c2
        by_cases c3 : x4_1 < 4000
        · rw [if_pos c3] at H
          have c3b0 : decide (x4_1 < 4000) = true := decide_eq_true c3
          clear c3
          by_cases c4 : 0 ≤ x4_1
          · rw [if_pos c4] at H
            have c4b0 : decide (0 ≤ x4_1) = true := decide_eq_true c4
            clear c4
            have H' := Aside0.mk H
            clear H
            have p101 : 0 ≤ (x4_1 : Int) := dt
            have q101 : x4_1 < (l0.length : Int) := dt
            obtain ⟨ad101, e101, hx101_0⟩ := Kd.at_int HR0.out x4_1 p101 q101
            cases e101
            replace hx101_0 := pw_cell_below HB.out hx101_0
            replace p101 := eq_true p101
            replace q101 := eq_true q101
            go_wp2
            go_roundg k1
            case measure => have := HK1.out; omega
            case rel => exact ⟨(Go.bits .and .i64 (wrap64 ((wrap64 ((wrap64 (x3_1 * 131)) + (wrap64 (rd l0 x4_1)))) + 7)) 1073741823), (wrap64 (x4_1 + 1)), (by first | rfl | (simp; done) | (simp [*]; done)), (by first | rfl | (simp; done) | (simp [*]; done)), H', ⟨by have := HK1.out; omega⟩, ⟨bl⟩, ⟨by repeat (first | (with_reducible first | exact HBW.out | apply below_alloc | apply pw_below_drewN | apply below_drew1) | exact HBW.out)⟩⟩
          · rw [if_neg c4] at H
            exact absurd H (by simp)
        · rw [if_neg c3] at H
          have c3b0 : decide (x4_1 < 4000) = false := decide_eq_false c3
          clear c3
          simp only [Option.some.injEq, Prod.mk.injEq] at H
          obtain ⟨rfl, rfl, rfl⟩ := H
          go_wp2
          go_ret
          exact ⟨_, rfl, (show IsS78 w0 _ wr.heap.size l0 0 x3_1 from ⟨_, _, (by show (wr.heap.push _)[wr.heap.size]? = _; rw [Array.getElem?_push]; rw [if_pos rfl]), HB.out.size, HR0.out⟩), below_alloc HB.out _, below_alloc HBW.out _⟩
      · rw [if_neg c2] at H
        have c2b0 : decide (x4_1 < (l0.length : Int)) = false := decide_eq_false c2
        clear c2
        simp only [Option.some.injEq, Prod.mk.injEq] at H
        obtain ⟨rfl, rfl, rfl⟩ := H
        go_wp2
        go_ret
        exact ⟨_, rfl, (show IsS78 w0 _ wr.heap.size l0 0 x3_1 from ⟨_, _, (by show (wr.heap.push _)[wr.heap.size]? = _; rw [Array.getElem?_push]; rw [if_pos rfl]), HB.out.size, HR0.out⟩), below_alloc HB.out _, below_alloc HBW.out _⟩

/-! ### spec_DrawFormatTable: function 5 -/
def spec_DrawFormatTable.f (k : Nat) (l0 : List Int) : Option ((List (S58))) := (spec_l1New.f k l0).bind fun bt203 => ((spec_l2AnyTable.f k bt203.1 bt203.2.1 bt203.2.2).bind fun bt207 => (some bt207.1))
theorem spec_DrawFormatTable.mono : ∀ a0 k, LeO (spec_DrawFormatTable.f k a0) (spec_DrawFormatTable.f (k + 1) a0) := by
  intro a0 k
  unfold spec_DrawFormatTable.f
  exact mo
instance spec_DrawFormatTable.mi (a0 k) : LeC (spec_DrawFormatTable.f k a0) (spec_DrawFormatTable.f (k + 1) a0) := ⟨spec_DrawFormatTable.mono a0 k⟩
set_option maxHeartbeats 8000000 in
set_option maxRecDepth 100000 in
theorem spec_DrawFormatTable.calls (k : Nat) (A0 : Option Addr) (c0 : Nat) (l0 : List Int) (r : List (S58)) (w : World) (hr0 : Kd.C (Kd.int .u8) w A0 l0.length l0) (hc0 : l0.length ≤ c0) (h : spec_DrawFormatTable.f k l0 = some r) :
    Calls Tryz.prog 5 #[.slice A0 l0.length c0] w fun e w' => ∃ v0_ : Value, e = .returned (.agg #[v0_]) ∧ Kd.NF k58 58 w' w.heap.size (fun _ => True) v0_ r ∧ Below w.heap.size w w' := by
  have hu26 := Tryz.underlying26
  have HR0 := Aside0.mk hr0
  have HC0 := Aside0.mk hc0
  clear hr0 hc0
  have HB := Aside0.mk (Below.refl w.heap.size w)
  have H : ((spec_l1New.f k l0).bind fun bt203 => ((spec_l2AnyTable.f k bt203.1 bt203.2.1 bt203.2.2).bind fun bt207 => (some bt207.1))) = some r := h
  clear h
  revert H; refine bo ?_; rintro ⟨t203, t204, t205⟩ A2 H
  dsimp only at H
  revert H; refine bo ?_; rintro ⟨t207, t210, t211⟩ A3 H
  dsimp only at H
  obtain rfl := Option.some.inj H
  go_enter Tryz.func5, Tryz.ntmps5
  go_wp2_with (first | ((with_reducible refine gate_dst (N := 2) rfl ?_); refine bx 2 #[.slice none 0 0] 26 ?_; intro gb202 hg w4 hbox hb; have BK202 := mk hbox; have GW202 := wg hg; have GE202 := wg hg; replace HB := wh hb; clear hb hbox hg) | ((with_reducible refine gate_callee (f := 29) rfl ?_); refine gl (some 4) rfl Tryz.func29 #[.slice A0 l0.length c0] ?_; (with_reducible refine (spec_l1New.calls k _ _ l0 t203 t204 t205 w _ ?side1 ?side2 ?side3 A2.out).mono ?_); (case side1 => exact bl); (case side2 => exact HR0.out); (case side3 => exact HC0.out); rintro e w5 ⟨g206, rfl, hi, hb, hb2⟩; refine ⟨_, rfl, ?_⟩; replace HB := mk hb; have HI206 := mk hi; have NB206_202 := mk (IsS78.ne_blk hi (blk_below (g := gb202) (o := .cells #[.slice none 0 0] 26 (0, 0)) (ub BK202.out) hb2) (by decide)); have NB202_206 := mk (Ne.symm (IsS78.ne_blk hi (blk_below (g := gb202) (o := .cells #[.slice none 0 0] 26 (0, 0)) (ub BK202.out) hb2) (by decide))); replace BK202 := mk (blk_below (g := gb202) (o := .cells #[.slice none 0 0] 26 (0, 0)) (ub BK202.out) hb2); (try clear hb); (try clear hb2); (try clear hk); (try clear hi)) | ((with_reducible refine gate_callee (f := 28) rfl ?_); refine gl (some 5) rfl Tryz.func28 #[.pointer (some ⟨g206, 0, none⟩)] ?_; (with_reducible refine (spec_l2AnyTable.calls k g206 t203 t204 t205 t207 t210 t211 w _ ?side1 ?side2 A3.out).mono ?_); (case side1 => exact (by repeat (first | (with_reducible first | exact HI206.out | apply IsS78.alloc | apply IsS78.drewN | apply IsS78.drew | apply IsS78.set_1 | apply IsS78.set_2 | refine IsS78.far ?_ NB206_202.out _) | exact HI206.out))); (case side2 => exact (by repeat (first | (with_reducible first | exact HB.out | apply below_alloc | apply pw_below_drewN | apply below_drew1 | refine below_set ?_ (IsS78.ge HI206.out) | refine below_set ?_ GE202.out) | exact HB.out))); rintro e w6 ⟨v208, rfl, ho0, hi, hb, hk⟩; refine ⟨_, rfl, ?_⟩; replace BK202 := mk (KeepBut.blk hk (g' := gb202) (o := .cells #[.slice none 0 0] 26 (0, 0)) (ub BK202.out) NB202_206.out (by simp)); have HO209 := mk (Kd.NF_lower ho0 (below_size (by repeat (first | (with_reducible first | exact HB.out | apply below_alloc | apply pw_below_drewN | apply below_drew1 | refine below_set ?_ (IsS78.ge HI206.out) | refine below_set ?_ GE202.out) | exact HB.out)))); replace HB := mk hb; replace HI206 := mk hi; (try clear hb); (try clear hb2); (try clear hk); (try clear hi); (try clear ho0); obtain ⟨Ao7, co7, eo7⟩ := Kd.NF_slice HO209.out; subst eo7; have hnb8 := NB202_206.out; have hnc8 := NB206_202.out; obtain ⟨hcz9_0, hfz9_0⟩ := bz1 BK202))
  refine bodyPost_ret (results_cell_row rfl _ _ gb202 26 #[.slice Ao7 t207.length co7] (0, 0) _ rfl bq Tryz.underlying26 rfl (by kernel_rfl)) rfl ?_
  exact ⟨_, by first | rfl | (simp [errW_none, errW_some] <;> rfl) | (simp [*, errW_none, errW_some] <;> rfl), by (with_reducible repeat (first | apply Kd.NF_alloc | apply Kd.NF_drewN | apply Kd.NF_drew)); exact Kd.NF_mono (Kd.NF_far (p := ⟨gb202, 0, none⟩) (Kd.NF_types HO209.out BK202.out (by decide)) (fun _ hk => hk.2) (.slice Ao7 t207.length co7)) (fun _ hk => trivial), by repeat (first | (with_reducible first | exact HB.out | apply below_alloc | apply pw_below_drewN | apply below_drew1 | refine below_set ?_ (IsS78.ge HI206.out) | refine below_set ?_ GE202.out) | exact HB.out)⟩

end Go.Proofs.YtfjanffppobheaaGreatDoor.PFnTexts
