/- slices.Insert of one element at structs of two cells: in place behind the end, in place with a shift, into a new row. No condition. -/
import Derived.Test.YtmliclopdbkbeaaWMore
import Derived.Test.YtmliclopdbkbeaaProg
import Derived.Shelf.Spec.SlicesInsert
import Derived.Lib.AppendZerosOnto
import Derived.Laws.NewBlocks
import Derived.Laws.AppendOwn
set_option linter.unusedVariables false
set_option linter.unusedSimpArgs false
namespace Go.Proofs.Ytmliclopdbkbeaa.Ins
open Go.Shelf Go.RowKit Go.Lib Go.Proofs.YtmliclopdbkbeaaW.PrintWords Go.Proofs.YtmliclopdbkbeaaW.PrintLast Go.Proofs.YtmliclopdbkbeaaW.PrintMore
theorem run_copy_rowK {P : Program} (w : World) (dT sT ty elem : TypeId) (z : Nat) (g o dLen dCap : Nat) (a : Addr) (sLen sCap : Nat) (cur : Array Value) (t : TypeId) (cs : List Value)
    (hu : P.underlying dT = some (.slice elem)) (hs : (P.info? elem).map (·.size) = some z)
    (hg : w.heap[g]? = some (.cells cur t (0, 0))) (hn : cs.length = Nat.min sLen dLen * z)
    (hsrc : ∀ j v, cs[j]? = some v → w.cell? (a.add j) = some v) (hfit : o + cs.length ≤ cur.size) (h1 : ∀ v ∈ cs, v.oneCell' = true) :
    (Builtin.copy_ #[dT, sT] ty #[.slice (some ⟨g, o, none⟩) dLen dCap, .slice (some a) sLen sCap]).run P w =
      .ok (goInt (Nat.min sLen dLen)) (w.setRow g (cur.toList.take o ++ cs ++ cur.toList.drop (o + cs.length)).toArray) := by
  have hst := run_storeCells_at P g o t cs 0 cur w hg (by simpa using hfit) h1
  simp only [Nat.add_zero] at hst
  cases hq : P.info? elem with
  | none => simp [hq] at hs
  | some i =>
    have hi : i.size = z := by simpa [hq] using hs
    have hf := run_firstCells_some (P := P) w z (Nat.min sLen dLen) a sLen sCap cs hn hsrc
    simp [Builtin.copy_, run_underlying hu, Builtin.lenOf, sizeOf, typeInfo, hq, hi, hf, hst]
theorem grown_set {w W : World} {g : Nat} {cur : Array Value} (h : w.grownBy W (some g)) : w.grownBy (W.setRow g cur) (some g) :=
  ⟨h.os, h.tape, h.output, by simpa using h.size, fun k hk hn => (setRow_other W g k _ (fun e => hn (by rw [e]))).trans (h.block k hk hn)⟩
theorem grown_drew {w W : World} {r : Option Nat} (h : w.grownBy W r) : w.grownBy W.drew r := ⟨h.os, h.tape, h.output, h.size, h.block⟩
theorem grown_refl (w : World) (r : Option Nat) : w.grownBy w r := ⟨rfl, rfl, rfl, Nat.le_refl _, fun _ _ _ => rfl⟩
set_option maxHeartbeats 4000000 in
set_option maxRecDepth 100000 in
theorem shift (g n cap i vb : Nat) (cur : Array Value) (p q : Value) (w : World) (hi : i < n) (hroom : n + 1 ≤ cap) (hc : cap ≤ maxLen) (hg : w.heap[g]? = some (.cells cur 35 (0, 0))) (hcs : cur.size = cap * 2) (hv : w.heap[vb]? = some (.cells #[p, q] 35 (0, 0))) (hne : vb ≠ g) (h1 : ∀ v ∈ cur.toList.take (n * 2), v.oneCell' = true) (hp : p.oneCell' = true) (hq : q.oneCell' = true) :
    Calls Try.prog 33 #[.slice (some ⟨g, 0, none⟩) n cap, .int .i64 i, .slice (some ⟨vb, 0, none⟩) 1 1] w fun e w' =>
      e = .returned (.slice (some ⟨g, 0, none⟩) (n + 1) cap) ∧ ∃ cur' : Array Value, w'.heap[g]? = some (.cells cur' 35 (0, 0)) ∧ cur'.size = cap * 2 ∧ cur'.toList.take ((n + 1) * 2) = cur.toList.take (i * 2) ++ [p, q] ++ (cur.toList.take (n * 2)).drop (i * 2) ∧ w.grownBy w' (some g) := by
  have hcm : cap ≤ 9223372036854775807 := by unfold maxLen at hc; omega
  have hu := Try.underlying29
  have hsz : (Try.prog.info? 35).map (·.size) = some 2 := by kernel_rfl
  have hso : ∀ w, (Go.sizeOf 35).run Try.prog w = .ok 2 w := fun w => by
    cases hq : Try.prog.info? 35 with
    | none => rw [hq] at hsz; cases hsz
    | some i0 =>
      rw [hq] at hsz
      have hi : i0.size = 2 := by simpa using hsz
      simp [sizeOf, typeInfo, hq, hi]
  have hov : ∀ lb cb o, (callFunc 41 #[.slice (some ⟨vb, 0, none⟩) 1 1, .slice (some ⟨g, o, none⟩) lb cb]).run Try.prog w = .ok (.value (.bool false)) w := fun lb cb o => by
    rw [run_callFunc_extern Try.func41 (by kernel_rfl) (by kernel_rfl) (by kernel_rfl) (e := Extern.SlicesOverlaps.overlaps #[29, 29] #[4]) (by kernel_rfl),
      Lib.run_overlaps_apart w 29 4 35 hu 2 hso ⟨vb, 0, none⟩ ⟨g, o, none⟩ 1 1 lb cb hne 35 35 2 (cap * 2) (by simp [World.shape?, hv]) (by simp [World.shape?, hg, hcs]) (by omega) (by simp [World.frozen?, hv]) (by simp [World.frozen?, hv])]
    rfl
  have hcl : cur.toList.length = cap * 2 := by simpa using hcs
  obtain ⟨cs, hcsd⟩ : ∃ cs, cs = (cur.toList.take (n * 2)).drop (i * 2) := ⟨_, rfl⟩
  have hdl : cs.length = (n - i) * 2 := by rw [hcsd, List.length_drop, List.length_take]; omega
  have hcp1 : ∀ dl sl, Nat.min sl dl = n - i → ∀ ty dc sc, (Builtin.copy_ #[29, 29] ty #[.slice (some ⟨g, (i + 1) * 2, none⟩) dl dc, .slice (some ⟨g, i * 2, none⟩) sl sc]).run Try.prog w.drew = .ok (goInt (n - i)) (w.drew.setRow g (cur.toList.take ((i + 1) * 2) ++ cs ++ cur.toList.drop ((i + 1) * 2 + cs.length)).toArray) := fun dl sl hmin1 ty dc sc => by
    have h := run_copy_rowK (P := Try.prog) w.drew 29 29 ty 35 2 g ((i + 1) * 2) dl dc ⟨g, i * 2, none⟩ sl sc cur 35 cs hu hsz hg (by rw [hdl, hmin1])
      (fun j v hj => by
        rw [Addr.add_lit]
        rw [hcsd, List.getElem?_drop, List.getElem?_take] at hj
        split at hj
        · exact (cell_of_row w.drew g (i * 2 + j) cur 35 (0, 0) hg).trans (by simpa using hj)
        · cases hj) (by rw [hdl]; omega) (fun v hv => h1 v (by rw [hcsd] at hv; exact List.mem_of_mem_drop hv))
    rw [hmin1] at h
    rw [show (n : Int) - (i : Int) = ((n - i : Nat) : Int) by omega]
    exact h
  obtain ⟨cur1, hcur1⟩ : ∃ cur1 : Array Value, cur1 = (cur.toList.take ((i + 1) * 2) ++ cs ++ cur.toList.drop ((i + 1) * 2 + cs.length)).toArray := ⟨_, rfl⟩
  rw [← hcur1] at hcp1
  have hc1l : cur1.toList.length = cap * 2 := by rw [hcur1]; simp [hdl]; omega
  have hcp2 : ∀ (W : World), W.heap[g]? = some (.cells cur1 35 (0, 0)) → (∀ x, x.block = vb → W.cell? x = w.cell? x) → ∀ dl, 1 ≤ dl → ∀ ty dc, (Builtin.copy_ #[29, 29] ty #[.slice (some ⟨g, i * 2, none⟩) dl dc, .slice (some ⟨vb, 0, none⟩) 1 1]).run Try.prog W = .ok (goInt 1) (W.setRow g (cur1.toList.take (i * 2) ++ [p, q] ++ cur1.toList.drop (i * 2 + 2)).toArray) := fun W hW hWv dl hdl1 ty dc => by
    have hm : Nat.min 1 dl = 1 := by simp only [Nat.min_def]; split <;> omega
    have h := run_copy_rowK (P := Try.prog) W 29 29 ty 35 2 g (i * 2) dl dc ⟨vb, 0, none⟩ 1 1 cur1 35 [p, q] hu hsz hW (by rw [hm]; rfl)
      (fun j v hj => by
        rw [Addr.add_lit, hWv _ rfl, Nat.zero_add]
        exact (cell_of_row w vb j #[p, q] 35 (0, 0) hv).trans (by simpa using hj)) (by simp; rw [← Array.length_toList, hc1l]; omega) (fun v hv => by
        rcases List.mem_cons.1 hv with e | hv
        · rw [e]; exact hp
        · rcases List.mem_cons.1 hv with e | hv
          · rw [e]; exact hq
          · cases hv)
    rw [hm] at h
    exact h
  obtain ⟨cur2, hcur2⟩ : ∃ cur2 : Array Value, cur2 = (cur1.toList.take (i * 2) ++ [p, q] ++ cur1.toList.drop (i * 2 + 2)).toArray := ⟨_, rfl⟩
  rw [← hcur2] at hcp2
  have hA : (cur.toList.take ((i + 1) * 2)).length = (i + 1) * 2 := by rw [List.length_take]; omega
  have e1 : cur1.toList = cur.toList.take ((i + 1) * 2) ++ (cs ++ cur.toList.drop ((i + 1) * 2 + cs.length)) := by rw [hcur1, List.append_assoc]
  have e2 : cur1.toList.take (i * 2) = cur.toList.take (i * 2) := by
    rw [e1, List.take_append_of_le_length (by omega), List.take_take, Nat.min_eq_left (by omega)]
  have e3 : cur1.toList.drop (i * 2 + 2) = cs ++ cur.toList.drop ((i + 1) * 2 + cs.length) := by
    rw [e1, show i * 2 + 2 = (cur.toList.take ((i + 1) * 2)).length by omega, List.drop_left]
  have f1 : cur2.size = cap * 2 := by
    rw [← Array.length_toList, hcur2]
    show (cur1.toList.take (i * 2) ++ [p, q] ++ cur1.toList.drop (i * 2 + 2)).length = _
    rw [List.length_append, List.length_append, List.length_take, List.length_drop, List.length_cons, List.length_cons, List.length_nil, hc1l]
    omega
  have f2 : cur2.toList.take ((n + 1) * 2) = cur.toList.take (i * 2) ++ [p, q] ++ (cur.toList.take (n * 2)).drop (i * 2) := by
    rw [hcur2]
    show (cur1.toList.take (i * 2) ++ [p, q] ++ cur1.toList.drop (i * 2 + 2)).take ((n + 1) * 2) = _
    rw [e2, e3, ← List.append_assoc, ← hcsd]
    have hl : (cur.toList.take (i * 2) ++ [p, q] ++ cs).length = (n + 1) * 2 := by
      rw [List.length_append, List.length_append, List.length_take, List.length_cons, List.length_cons, List.length_nil, hdl]
      omega
    rw [← hl, List.take_left]
  have F := Aside0.mk (And.intro f1 f2)
  clear f1 f2 e1 e2 e3 hA
  have mixed : Try.prog.follows .mixedOrders = true := by kernel_rfl
  have hw1 : IntKind.i64.wrap ((i : Int) + 1) = (i : Int) + 1 := by rw [IntKind.wrap_i64]; omega
  have hb1 : (0 : Int) ≤ (i : Int) + 1 := by omega
  have hb5 : (i : Int) + 1 ≤ (n : Int) + 1 := by omega
  have hb6 : (i : Int) ≤ (n : Int) := by omega
  have hin : i ≤ n := by omega
  have htn : ((i : Int) + 1).toNat = i + 1 := by omega
  have hb2 : ¬ (cap = i + 1) := by omega
  have hb3 : (i : Int) ≤ (n : Int) + 1 := by omega
  have hb4 : ¬ (cap = i) := by omega
  clear hcur1 hcur2 hcsd hcs hcl
  go_enter Try.func33, Try.ntmps33
  go_wp2_with (simp only [hov])
  have hm1 : Nat.min (n + 1 - i) (n - i) = n - i := by simp only [Nat.min_def]; split <;> omega
  have hW : (w.drew.setRow g cur1).heap[g]? = some (.cells cur1 35 (0, 0)) := setRow_heap w.drew g cur _ 35 _ hg
  have hWv : ∀ x : Addr, x.block = vb → (w.drew.setRow g cur1).cell? x = w.cell? x := fun x hx => World.cell?_of_block (setRow_other w.drew g x.block _ (by rw [hx]; exact hne))
  go_region_law_o (refine step_copy_runI rfl _ _ 29 29 rfl (.slice (some ⟨g, (i + 1) * 2, none⟩) (n - i) (cap - (i + 1))) (.slice (some ⟨g, i * 2, none⟩) (n + 1 - i) (cap - i)) (by simp [Act.eval, Act.put]) (by simp [Act.eval, Act.put]) (hcp1 (n - i) (n + 1 - i) hm1 3 (cap - (i + 1)) (cap - i)) ?_)
  go_wp2_with (rw [hcp2 _ hW hWv _ (by omega)])
  go_ret
  refine ⟨rfl, cur2, setRow_heap _ g cur1 _ _ _ hW, F.out.1, F.out.2, ?_⟩
  exact grown_set (grown_set (grown_drew (grown_refl w _)))
set_option maxHeartbeats 4000000 in
set_option maxRecDepth 100000 in
theorem grow (g n cap i vb : Nat) (cur : Array Value) (p q : Value) (w : World) (hi : i < n) (hnc : n ≤ cap) (hroom : cap < n + 1) (hbig : (n + 1) * 16 ≤ 140737488355328) (hg : w.heap[g]? = some (.cells cur 35 (0, 0))) (hcs : cur.size = cap * 2) (hv : w.heap[vb]? = some (.cells #[p, q] 35 (0, 0))) (h1 : ∀ v ∈ cur.toList.take (n * 2), v.oneCell' = true) (hp : p.oneCell' = true) (hq : q.oneCell' = true) :
    Calls Try.prog 33 #[.slice (some ⟨g, 0, none⟩) n cap, .int .i64 i, .slice (some ⟨vb, 0, none⟩) 1 1] w fun e w' =>
      ∃ (G : Nat) (cur' : Array Value), e = .returned (.slice (some ⟨w.heap.size, 0, none⟩) (n + 1) G) ∧ n + 1 ≤ G ∧ G ≤ maxLen ∧ w'.heap[w.heap.size]? = some (.cells cur' 35 (0, 0)) ∧ cur'.size = G * 2 ∧ cur'.toList.take ((n + 1) * 2) = cur.toList.take (i * 2) ++ [p, q] ++ (cur.toList.take (n * 2)).drop (i * 2) ∧ w.grownBy w' none := by
  have hu := Try.underlying29
  have htn3 := Try.underlying3
  have hsz : (Try.prog.info? 35).map (·.size) = some 2 := by kernel_rfl
  obtain ⟨i0, hi0, hzz⟩ := Option.map_eq_some_iff.1 (show (Try.prog.info? 35).map (fun i => (i.zero, i.size, i.bytes)) = some (some (.agg #[(.int .i64 0), (.int .i64 0)]), 2, 16) by kernel_rfl)
  simp only [Prod.mk.injEq] at hzz
  obtain ⟨hz0, hzs, hzb⟩ := hzz
  have hz1 : ¬ ((i : Int) = (n : Int)) := by omega
  have hz3 : (cap : Int) < (n : Int) + 1 := by omega
  have hcl : cur.toList.length = cap * 2 := by simpa using hcs
  have hgw : g < w.heap.size := blk_lt hg
  have hvw : vb < w.heap.size := blk_lt hv
  have hold : (Builtin.firstCells i0.size i (.slice (some ⟨g, 0, none⟩) i cap)).run Try.prog w.drew = .ok (cur.toList.take (i * 2)).toArray w.drew := by
    rw [hzs]
    exact run_firstCells_some w.drew 2 i ⟨g, 0, none⟩ i cap (cur.toList.take (i * 2)) (by rw [List.length_take]; omega) (fun j v hj => by
      rw [Addr.add_lit, Nat.zero_add]
      rw [List.getElem?_take] at hj
      split at hj
      · exact (cell_of_row w.drew g j cur 35 (0, 0) hg).trans (by simpa using hj)
      · cases hj)
  have hkk : (n : Int) + 1 - (i : Int) = ((n + 1 - i : Nat) : Int) := by omega
  have hik : i + (n + 1 - i) = n + 1 := by omega
  obtain ⟨G, hG⟩ : ∃ G, G = grownCap w (n + 1) cap 35 := ⟨_, rfl⟩
  obtain ⟨ROW, hROW⟩ : ∃ ROW : Array Value, ROW = (cur.toList.take (i * 2)).toArray ++ Builtin.zeroCells (Value.agg #[(.int .i64 0), (.int .i64 0)]).cells (n + 1 - i) ++ Builtin.zeroCells (Value.agg #[(.int .i64 0), (.int .i64 0)]).cells (G - (n + 1)) := ⟨_, rfl⟩
  have hrz : ∀ ty, (Builtin.append_ #[29, 3] ty #[.slice (some ⟨g, 0, none⟩) i cap, .int .i64 ((n : Int) + 1 - (i : Int))]).run Try.prog w =
      .ok (.slice (some ⟨w.heap.size, 0, none⟩) (n + 1) G) (w.drew.alloc (.cells ROW 35)) := fun ty => by
    have h := Lib.run_append_grow_zeros w 29 3 ty 35 i0 _ .i64 .i64 hu htn3 hi0 hz0 (some ⟨g, 0, none⟩) i cap (cur.toList.take (i * 2)) hold (n + 1 - i) (by omega) (by omega) (by omega) (by omega) (by rw [hzb]; omega) (by rw [hzb, hik]; exact growslice_fits hroom hbig)
    rw [hik, ← hG] at h
    rw [hkk, hROW]
    exact h
  have hGn : n + 1 ≤ G := by rw [hG]; exact grownCap_ge w _ _ _
  have hGm : G ≤ maxLen := by rw [hG]; exact grownCap_le_maxLen w (n + 1) cap 35 (by unfold maxLen; omega)
  have hRs : ROW.size = G * 2 := by
    have hz2 : (Value.agg #[(.int .i64 0), (.int .i64 0)] : Value).cells.size = 2 := rfl
    rw [hROW, Array.size_append, Array.size_append, size_zeroCells, size_zeroCells, hz2, List.size_toArray, List.length_take]
    omega
  have hRl : ROW.toList.length = G * 2 := by rw [Array.length_toList, hRs]
  obtain ⟨cs, hcsd⟩ : ∃ cs, cs = (cur.toList.take (n * 2)).drop (i * 2) := ⟨_, rfl⟩
  have hdl : cs.length = (n - i) * 2 := by rw [hcsd, List.length_drop, List.length_take]; omega
  obtain ⟨R2, hR2⟩ : ∃ R2 : Array Value, R2 = (ROW.toList.take (i * 2) ++ [p, q] ++ ROW.toList.drop (i * 2 + 2)).toArray := ⟨_, rfl⟩
  have hR2e : R2.toList = ROW.toList.take (i * 2) ++ [p, q] ++ ROW.toList.drop (i * 2 + 2) := by rw [hR2]
  have hR2l : R2.toList.length = G * 2 := by
    rw [hR2e, List.length_append, List.length_append, List.length_take, List.length_drop, List.length_cons, List.length_cons, List.length_nil, hRl]; omega
  obtain ⟨R3, hR3⟩ : ∃ R3 : Array Value, R3 = (R2.toList.take ((i + 1) * 2) ++ cs ++ R2.toList.drop ((i + 1) * 2 + cs.length)).toArray := ⟨_, rfl⟩
  have hR3e : R3.toList = R2.toList.take ((i + 1) * 2) ++ cs ++ R2.toList.drop ((i + 1) * 2 + cs.length) := by rw [hR3]
  have hcpA : ∀ (W : World), W.heap[w.heap.size]? = some (.cells ROW 35 (0, 0)) → (∀ x, x.block = vb → W.cell? x = w.cell? x) → ∀ dl, 1 ≤ dl → ∀ ty dc, (Builtin.copy_ #[29, 29] ty #[.slice (some ⟨w.heap.size, i * 2, none⟩) dl dc, .slice (some ⟨vb, 0, none⟩) 1 1]).run Try.prog W = .ok (goInt 1) (W.setRow w.heap.size R2) := fun W hW hWv dl hdl1 ty dc => by
    have hm : Nat.min 1 dl = 1 := by simp only [Nat.min_def]; split <;> omega
    have h := run_copy_rowK (P := Try.prog) W 29 29 ty 35 2 w.heap.size (i * 2) dl dc ⟨vb, 0, none⟩ 1 1 ROW 35 [p, q] hu hsz hW (by rw [hm]; rfl)
      (fun j v hj => by
        rw [Addr.add_lit, hWv _ rfl, Nat.zero_add]
        exact (cell_of_row w vb j #[p, q] 35 (0, 0) hv).trans (by simpa using hj)) (by simp; rw [hRs]; omega) (fun v hv => by
        rcases List.mem_cons.1 hv with e | hv
        · rw [e]; exact hp
        · rcases List.mem_cons.1 hv with e | hv
          · rw [e]; exact hq
          · cases hv)
    rw [hm] at h
    rw [hR2]
    exact h
  have hcpB : ∀ (W : World), W.heap[w.heap.size]? = some (.cells R2 35 (0, 0)) → (∀ x, x.block = g → W.cell? x = w.cell? x) → ∀ dl sl, Nat.min sl dl = n - i → ∀ ty dc sc, (Builtin.copy_ #[29, 29] ty #[.slice (some ⟨w.heap.size, (i + 1) * 2, none⟩) dl dc, .slice (some ⟨g, i * 2, none⟩) sl sc]).run Try.prog W = .ok (goInt (n - i)) (W.setRow w.heap.size R3) := fun W hW hWg dl sl hmin ty dc sc => by
    have h := run_copy_rowK (P := Try.prog) W 29 29 ty 35 2 w.heap.size ((i + 1) * 2) dl dc ⟨g, i * 2, none⟩ sl sc R2 35 cs hu hsz hW (by rw [hdl, hmin])
      (fun j v hj => by
        rw [Addr.add_lit, hWg _ rfl]
        rw [hcsd, List.getElem?_drop, List.getElem?_take] at hj
        split at hj
        · exact (cell_of_row w g (i * 2 + j) cur 35 (0, 0) hg).trans (by simpa using hj)
        · cases hj) (by rw [← Array.length_toList, hR2l, hdl]; omega) (fun v hv => h1 v (by rw [hcsd] at hv; exact List.mem_of_mem_drop hv))
    rw [hmin] at h
    rw [hR3, show (n : Int) - (i : Int) = ((n - i : Nat) : Int) by omega]
    exact h
  have f1 : R3.size = G * 2 := by
    rw [← Array.length_toList, hR3e, List.length_append, List.length_append, List.length_take, List.length_drop, hR2l, hdl]; omega
  have f2 : R3.toList.take ((n + 1) * 2) = cur.toList.take (i * 2) ++ [p, q] ++ (cur.toList.take (n * 2)).drop (i * 2) := by
    have e0 : ROW.toList.take (i * 2) = cur.toList.take (i * 2) := by
      rw [hROW]
      simp only [Array.toList_append, List.append_assoc]
      rw [List.take_append_of_le_length (by rw [List.length_take]; omega), List.take_take, Nat.min_self]
    have e1 : R2.toList.take ((i + 1) * 2) = cur.toList.take (i * 2) ++ [p, q] := by
      have hl : (cur.toList.take (i * 2) ++ [p, q]).length = (i + 1) * 2 := by
        rw [List.length_append, List.length_take, List.length_cons, List.length_cons, List.length_nil]; omega
      rw [hR2e, e0, ← hl, List.take_left]
    have hl : (cur.toList.take (i * 2) ++ [p, q] ++ cs).length = (n + 1) * 2 := by
      rw [List.length_append, List.length_append, List.length_take, List.length_cons, List.length_cons, List.length_nil, hdl]
      omega
    rw [hR3e, e1, ← hcsd, ← hl, List.take_left]
  have F := Aside0.mk (And.intro f1 f2)
  have hG63 : G ≤ 9223372036854775807 := by unfold maxLen at hGm; omega
  have hGi : ¬ (G = i) := by omega
  have hGim : ¬ (G = i + 1) := by omega
  have hci : ¬ (cap = i) := by omega
  have hw1 : IntKind.i64.wrap ((i : Int) + 1) = (i : Int) + 1 := by rw [IntKind.wrap_i64]; omega
  have hb1 : (0 : Int) ≤ (i : Int) + 1 := by omega
  have hb5 : (i : Int) + 1 ≤ (n : Int) + 1 := by omega
  have hin : i ≤ n := by omega
  have htn : ((i : Int) + 1).toNat = i + 1 := by omega
  have hb3 : (i : Int) ≤ (n : Int) := by omega
  have mixed : Try.prog.follows .mixedOrders = true := by kernel_rfl
  have HGM := Aside0.mk hGm
  have HV := Aside0.mk hv
  have HG := Aside0.mk hg
  have HGW := Aside0.mk hgw
  have HVW := Aside0.mk hvw
  clear f1 f2 hkk hik hold hROW hG hRl hR2 hR2e hR3 hR3e hcsd hRs hR2l hGm hv hg hcl hcs hz0 hzs hzb hgw hvw
  have hgN : g ≠ w.heap.size := Nat.ne_of_lt HGW.out
  have hWA : ((w.alloc (.cells ROW 35)).drew).heap[w.heap.size]? = some (.cells ROW 35 (0, 0)) := heap_alloc_new w _
  have hWAv : ∀ x : Addr, x.block = vb → ((w.alloc (.cells ROW 35)).drew).cell? x = w.cell? x := fun x hx => World.cell?_of_block (by rw [hx]; exact heap_alloc_old w (.cells ROW 35) HVW.out)
  have hWB : (((w.alloc (.cells ROW 35)).drew.setRow w.heap.size R2).drew).heap[w.heap.size]? = some (.cells R2 35 (0, 0)) := setRow_heap _ w.heap.size ROW _ 35 _ hWA
  have hWBg : ∀ x : Addr, x.block = g → (((w.alloc (.cells ROW 35)).drew.setRow w.heap.size R2).drew).cell? x = w.cell? x := fun x hx => World.cell?_of_block (by rw [hx]; exact (setRow_other _ w.heap.size g _ hgN).trans (heap_alloc_old w (.cells ROW 35) HGW.out))
  have hm1 : Nat.min (n - i) (n - i) = n - i := by simp only [Nat.min_def]; split <;> omega
  clear hgN
  go_enter Try.func33, Try.ntmps33
  go_wp2_with (first | (at_builtin; refine Lib.wpList_append_run _ rfl _ _ _ _ rfl _ _ rfl rfl _ _ (hrz _) ?_) | (rw [hrz]) | (rw [hcpA _ hWA hWAv _ (by omega)]))
  go_region_law_o (refine step_copy_runI rfl _ _ 29 29 rfl (.slice (some ⟨w.heap.size, (i + 1) * 2, none⟩) (n - i) (G - (i + 1))) (.slice (some ⟨g, i * 2, none⟩) (n - i) (cap - i)) (by simp [Act.eval, Act.put]) (by simp [Act.eval, Act.put]) (hcpB _ hWB hWBg (n - i) (n - i) hm1 3 (G - (i + 1)) (cap - i)) ?_)
  go_wp2
  go_ret
  refine ⟨G, R3, rfl, hGn, HGM.out, setRow_heap _ w.heap.size R2 _ 35 _ hWB, F.out.1, F.out.2, rfl, rfl, rfl, by simp, fun k hk _ => ?_⟩
  exact ((setRow_other _ w.heap.size k _ (Nat.ne_of_lt hk)).trans (setRow_other _ w.heap.size k _ (Nat.ne_of_lt hk))).trans (heap_alloc_old w (.cells ROW 35) hk)
set_option maxHeartbeats 4000000 in
set_option maxRecDepth 100000 in
theorem atEnd (base n vb : Nat) (v : Value) (xs : List Value) (p q : Value) (w : World) (hown : w.ownsRow base 35 2 v n xs) (hbase : base ≤ w.heap.size) (hbig : (n + 1) * 16 ≤ 140737488355328) (hv : w.heap[vb]? = some (.cells #[p, q] 35 (0, 0))) (hp : p.oneCell' = true) (hq : q.oneCell' = true) :
    Calls Try.prog 33 #[v, .int .i64 n, .slice (some ⟨vb, 0, none⟩) 1 1] w fun e w' =>
      ∃ v', e = .returned v' ∧ w'.ownsRow base 35 2 v' (n + 1) (xs ++ [p, q]) ∧ w.grownBy w' v.ownBlock := by
  have hu := Try.underlying29
  obtain ⟨i0, hi0, hzz⟩ := Option.map_eq_some_iff.1 (show (Try.prog.info? 35).map (fun i => (i.zero, i.size, i.bytes)) = some (some (.agg #[(.int .i64 0), (.int .i64 0)]), 2, 16) by kernel_rfl)
  simp only [Prod.mk.injEq] at hzz
  obtain ⟨hz0, hzs, hzb⟩ := hzz
  obtain ⟨A, c, hv0⟩ : ∃ A c, v = .slice A n c ∧ n ≤ c ∧ c ≤ 9223372036854775807 ∧ (A = none → n = 0 ∧ c = 0) := by
    rcases hown.2 with ⟨rfl, rfl⟩ | ⟨g, cap, cur, rfl, _, _, hnc, hcm, _⟩
    · exact ⟨none, 0, rfl, by omega, by omega, fun _ => ⟨rfl, rfl⟩⟩
    · exact ⟨some ⟨g, 0, none⟩, cap, rfl, hnc, by unfold maxLen at hcm; omega, fun h => by cases h⟩
  obtain ⟨rfl, hnc, hc63, hnil⟩ := hv0
  have hnews : ∀ j u, ([p, q] : List Value)[j]? = some u → w.cell? ((⟨vb, 0, none⟩ : Addr).add j) = some u := fun j u hj => by
    rw [Addr.add_lit, Nat.zero_add]
    exact (cell_of_row w vb j #[p, q] 35 (0, 0) hv).trans (by simpa using hj)
  have h1 : ∀ u ∈ ([p, q] : List Value), u.oneCell' = true := fun v hv => by
    rcases List.mem_cons.1 hv with e | hv
    · rw [e]; exact hp
    · rcases List.mem_cons.1 hv with e | hv
      · rw [e]; exact hq
      · cases hv
  obtain ⟨v', w', hr, h2, h3, _⟩ := run_append_own (P := Try.prog) w base 29 29 35 i0 _ 2 16 hu hi0 hz0 hzs hzb rfl (by omega) _ n xs hown ⟨vb, 0, none⟩ 1 1 [p, q] rfl hnews h1 (by unfold maxLen; omega) hbig hbase
  have H2 := Aside0.mk h2
  have H3 := Aside0.mk h3
  have hr' : ∀ ty, (Builtin.append_ #[29, 29] ty #[.slice A n c, .slice (some ⟨vb, 0, none⟩) 1 1]).run Try.prog w = .ok v' w' := fun ty => hr
  have hin : n ≤ c := hnc
  have HN := Aside0.mk hnil
  clear h2 h3 hr hv hnews h1 hown hnil hz0 hzs hzb
  rcases A with _ | ad
  · obtain ⟨rfl, rfl⟩ := HN.out rfl
    go_enter Try.func33, Try.ntmps33
    go_wp2_with (first | (at_builtin; refine Lib.wpList_append_run _ rfl _ _ _ _ rfl _ _ rfl rfl _ _ (hr' _) ?_) | (rw [hr']))
    go_ret
    exact ⟨v', rfl, H2.out, H3.out⟩
  · go_enter Try.func33, Try.ntmps33
    go_wp2_with (first | (at_builtin; refine Lib.wpList_append_run _ rfl _ _ _ _ rfl _ _ rfl rfl _ _ (hr' _) ?_) | (rw [hr']))
    all_goals (go_ret; exact ⟨v', rfl, H2.out, H3.out⟩)
/-- slices.Insert of one element of two cells into a row of one's own. -/
theorem insert (base n i vb : Nat) (v : Value) (xs : List Value) (p q : Value) (w : World) (hown : w.ownsRow base 35 2 v n xs) (hi : i ≤ n) (hbase : base ≤ w.heap.size) (hbig : (n + 1) * 16 ≤ 140737488355328) (hv : w.heap[vb]? = some (.cells #[p, q] 35 (0, 0))) (hne : v.ownBlock ≠ some vb) (h1 : ∀ u ∈ xs, u.oneCell' = true) (hp : p.oneCell' = true) (hq : q.oneCell' = true) :
    Calls Try.prog 33 #[v, .int .i64 i, .slice (some ⟨vb, 0, none⟩) 1 1] w fun e w' =>
      ∃ v', e = .returned v' ∧ w'.ownsRow base 35 2 v' (n + 1) (xs.take (i * 2) ++ [p, q] ++ xs.drop (i * 2)) ∧ w.grownBy w' v.ownBlock := by
  by_cases hin : i = n
  · subst hin
    have hx := hown.1
    refine (atEnd base i vb v xs p q w hown hbase hbig hv hp hq).mono ?_
    rintro e w' ⟨v', rfl, h2, h3⟩
    refine ⟨v', rfl, ?_, h3⟩
    rw [List.take_of_length_le (by omega), List.drop_eq_nil_of_le (by omega), List.append_nil]
    exact h2
  · have hx := hown.1
    rcases hown.2 with ⟨rfl, hn⟩ | ⟨g, cap, cur, rfl, hbg, hg, hnc, hcm, hcs, htake⟩
    · omega
    · have hne' : vb ≠ g := fun e => hne (by rw [e]; rfl)
      have h1' : ∀ u ∈ cur.toList.take (n * 2), u.oneCell' = true := fun u hu => h1 u (by rw [← htake]; exact hu)
      have hlen : (xs.take (i * 2) ++ [p, q] ++ xs.drop (i * 2)).length = (n + 1) * 2 := by
        rw [List.length_append, List.length_append, List.length_take, List.length_drop, List.length_cons, List.length_cons, List.length_nil]; omega
      have hxe : xs.take (i * 2) = cur.toList.take (i * 2) := by rw [← htake, List.take_take, Nat.min_eq_left (by omega)]
      by_cases hroom : n + 1 ≤ cap
      · refine (shift g n cap i vb cur p q w (by omega) hroom hcm hg hcs hv hne' h1' hp hq).mono ?_
        rintro e w' ⟨rfl, cur', hg', hs', ht', hgr⟩
        refine ⟨_, rfl, ⟨hlen, .inr ⟨g, cap, cur', rfl, hbg, hg', hroom, hcm, hs', ?_⟩⟩, hgr⟩
        rw [ht', hxe, ← htake]
      · refine (grow g n cap i vb cur p q w (by omega) hnc (by omega) hbig hg hcs hv h1' hp hq).mono ?_
        rintro e w' ⟨G, cur', rfl, hG1, hG2, hg', hs', ht', hgr⟩
        refine ⟨_, rfl, ⟨hlen, .inr ⟨w.heap.size, G, cur', rfl, hbase, hg', hG1, hG2, hs', ?_⟩⟩, ⟨hgr.os, hgr.tape, hgr.output, hgr.size, fun k hk _ => hgr.block k hk (by simp)⟩⟩
        rw [ht', hxe, ← htake]
end Go.Proofs.Ytmliclopdbkbeaa.Ins
