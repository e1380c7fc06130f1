-- written by a program of this session (head.py)
import Derived.Test.YtfjanffppobheaaGreatDoorRows
import Derived.JoinedOf
/- THREE FACTS THAT READ THE PROGRAM'S HEAD LINE, ONCE FOR THE SEAT: by kernel_rfl each row would take the string apart anew. -/
namespace Go.Proofs.YtfjanffppobheaaGreatDoor.Head
set_option maxRecDepth 100000
theorem step : ∀ (w r : List Char), w.all (· != (Char.ofNat 32)) = true → wordsSigns (w ++ (Char.ofNat 32) :: r) = w :: wordsSigns r
  | [], r, _ => by simp [wordsSigns]
  | c :: w, r, h => by
    simp only [List.all_cons, Bool.and_eq_true, bne_iff_ne, ne_eq] at h
    have i := step w r h.2
    rw [List.cons_append, wordsSigns.eq_3 _ _ (fun e => h.1 e), i]
theorem last : ∀ (w : List Char), w.all (· != (Char.ofNat 32)) = true → wordsSigns w = [w]
  | [], _ => rfl
  | c :: w, h => by
    simp only [List.all_cons, Bool.and_eq_true, bne_iff_ne, ne_eq] at h
    rw [wordsSigns.eq_3 _ _ (fun e => h.1 e), last w h.2]
def w0 : List Char := [104,97,114,110,101,115,115].map Char.ofNat
def w1 : List Char := [57,100,97,54,101,54,57,102,54,101,53,101,49,48,98,50,98,55,48,100,97,53,49,49,51,55,51,50,57,98,52,97,48,48,100,48,99,53,97,53,51,54,101,56,100,99,54,102,48,98,50,99,101,52,52,56,55,56,52,53,49,97,97,50].map Char.ofNat
def w2 : List Char := [99,117,116].map Char.ofNat
def w3 : List Char := [97,116].map Char.ofNat
def w4 : List Char := [108,111,111,112,46,101,120,97,109,112,108,101,47,103,48,49,57,56,52,47,108,97,119,115,46,70,110,84,101,120,116,115].map Char.ofNat
theorem signs : Tryz.prog.initOrder.toList = w0 ++ (Char.ofNat 32) :: (w1 ++ (Char.ofNat 32) :: (w2 ++ (Char.ofNat 32) :: (w3 ++ (Char.ofNat 32) :: (w4)))) := by
  rw [show Tryz.prog.initOrder = String.ofList (w0 ++ (Char.ofNat 32) :: (w1 ++ (Char.ofNat 32) :: (w2 ++ (Char.ofNat 32) :: (w3 ++ (Char.ofNat 32) :: (w4))))) by kernel_rfl]
  exact String.toList_ofList
theorem words : wordsSigns Tryz.prog.initOrder.toList = [w0, w1, w2, w3, w4] := by
  rw [signs, step w0 _ (by decide), step w1 _ (by decide), step w2 _ (by decide), step w3 _ (by decide), last w4 (by decide)]
theorem t0 : isSumSigns w1 = true := by kernel_rfl
theorem t1 : (w2 == "gc".toList) = false := by kernel_rfl
theorem t2 : (w2 == "cut".toList) = true := by kernel_rfl
theorem t3 : (w0 == "harness".toList) = true := by kernel_rfl
theorem t4 : (w2 == "spec".toList) = false := by kernel_rfl
theorem t5 : (w2 == "carried".toList) = false := by kernel_rfl
theorem behind {c : List Char} {r : List (List Char)} : behindMainWord (w0 :: w1 :: c :: r) = c :: r := by
  show (if ((w0 == "harness".toList || w0 == "ownmain".toList) && isSumSigns w1) = true then c :: r else w0 :: w1 :: c :: r) = c :: r
  rw [t3, t0]
  rfl
theorem st (o : String) (os ws) (h : (w2 == o.toList) = false) : stripLifts (o :: os) (w2 :: ws) = stripLifts os (w2 :: ws) := by
  rw [stripLifts, h]
  rfl
theorem strip {r : List (List Char)} : stripLifts liftWords (w2 :: r) = ([], w2 :: r) := by
  unfold liftWords
  iterate 15 rw [st _ _ _ (by kernel_rfl)]
  rw [stripLifts]
theorem mk0 (P : Program) (c r) (h : behindMainWord (wordsSigns P.initOrder.toList) = c :: r) (hc : (c == "cut".toList) = true) (hg : (c == "gc".toList) = false) (hs : (c == "spec".toList) = false) : P.make = some .cut := by
  rw [Program.make, h]
  dsimp only
  rw [hg, hs, hc, if_neg (by decide), Bool.true_or, if_pos rfl]
theorem me0 (P : Program) (c r) (h : behindMainWord (wordsSigns P.initOrder.toList) = c :: r) (hg : (c == "gc".toList) = false) (hs : (c == "spec".toList) = false) (hy : (c == "carried".toList) = false)
    (s : stripLifts liftWords (c :: r) = ([], c :: r)) (hc : ((c :: r).head? == some "cut".toList) = true) (l : P.laysLater = false) (b : P.bearsReflect = false) (d : P.doorFits [] = true) : P.mayEnter = true := by
  rw [Program.mayEnter, h]
  dsimp only
  rw [hg, hs, hy, s]
  dsimp only
  rw [hc, l, b, d]
  rfl
theorem hl0 (P : Program) (c r) (h : behindMainWord (wordsSigns P.initOrder.toList) = c :: r) (s : stripLifts liftWords (c :: r) = ([], c :: r)) : P.headLifts = [] := by
  rw [Program.headLifts, h, s]
  split <;> rfl
theorem lf0 (P : Program) (c r) (h : behindMainWord (wordsSigns P.initOrder.toList) = c :: r) (l : P.headLifts = []) (hy : ((c :: r).head? == some "carried".toList) = false) : P.liftsFinal = false := by
  rw [Program.liftsFinal, h, l, hy]
  rfl
theorem hd : behindMainWord (wordsSigns Tryz.prog.initOrder.toList) = w2 :: [w3, w4] := by
  rw [words, behind]
theorem tc : ((w2 :: [w3, w4] : List (List Char)).head? == some "cut".toList) = true := by kernel_rfl
theorem ty : ((w2 :: [w3, w4] : List (List Char)).head? == some "carried".toList) = false := by kernel_rfl
theorem mayEnter : Tryz.prog.mayEnter = true := me0 _ _ _ hd t1 t4 t5 strip tc (by kernel_rfl) (by kernel_rfl) (by kernel_rfl)
theorem headLifts : Tryz.prog.headLifts = [] := hl0 _ _ _ hd strip
theorem liftsFinal : Tryz.prog.liftsFinal = false := lf0 _ _ _ hd headLifts ty
theorem make : Tryz.prog.make = some .cut := mk0 _ _ _ hd t2 t1 t4
end Go.Proofs.YtfjanffppobheaaGreatDoor.Head
