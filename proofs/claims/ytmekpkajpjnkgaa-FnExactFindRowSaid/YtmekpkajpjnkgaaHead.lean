-- written by a program of this session (head.py)
import Derived.Test.YtmekpkajpjnkgaaRows
import Derived.JoinedOf
/- THREE FACTS THAT READ THE PROGRAM'S HEAD LINE, ONCE FOR THE SEAT: by kernel_rfl each row would take the string apart anew. -/
namespace Go.Proofs.Ytmekpkajpjnkgaa.Head
set_option maxRecDepth 100000
theorem step : ∀ (w r : List Char), w.all (· != (Char.ofNat 32)) = true → wordsSigns (w ++ (Char.ofNat 32) :: r) = w :: wordsSigns r
  | [], r, _ => by simp [wordsSigns]
  | c :: w, r, h => by
    simp only [List.all_cons, Bool.and_eq_true, bne_iff_ne, ne_eq] at h
    have i := step w r h.2
    rw [List.cons_append, wordsSigns.eq_3 _ _ (fun e => h.1 e), i]
theorem last : ∀ (w : List Char), w.all (· != (Char.ofNat 32)) = true → wordsSigns w = [w]
  | [], _ => rfl
  | c :: w, h => by
    simp only [List.all_cons, Bool.and_eq_true, bne_iff_ne, ne_eq] at h
    rw [wordsSigns.eq_3 _ _ (fun e => h.1 e), last w h.2]
def w0 : List Char := [104,97,114,110,101,115,115].map Char.ofNat
def w1 : List Char := [48,102,55,51,48,54,101,50,99,98,53,57,49,56,49,55,53,53,54,56,98,100,102,99,100,100,57,53,55,98,97,56,102,102,101,51,99,54,97,48,57,53,57,56,51,49,49,97,97,99,99,55,54,97,51,57,54,48,56,49,100,97,55,54].map Char.ofNat
def w2 : List Char := [99,117,116].map Char.ofNat
def w3 : List Char := [97,116].map Char.ofNat
def w4 : List Char := [108,111,111,112,46,101,120,97,109,112,108,101,47,103,48,49,57,56,52,47,108,97,119,115,46,70,110,69,120,97,99,116,69,110,99,111,100,101,86,97,114,105,110,116].map Char.ofNat
def w5 : List Char := [108,111,111,112,46,101,120,97,109,112,108,101,47,103,48,49,57,56,52,47,108,97,119,115,46,70,110,69,120,97,99,116,69,110,99,111,100,101,70,105,120,101,100].map Char.ofNat
def w6 : List Char := [108,111,111,112,46,101,120,97,109,112,108,101,47,103,48,49,57,56,52,47,108,97,119,115,46,70,110,69,120,97,99,116,87,111,114,115,116,81,117,101,114,121].map Char.ofNat
def w7 : List Char := [108,111,111,112,46,101,120,97,109,112,108,101,47,103,48,49,57,56,52,47,108,97,119,115,46,70,110,69,120,97,99,116,77,101,101,116,82,97,110,103,101,115].map Char.ofNat
def w8 : List Char := [108,111,111,112,46,101,120,97,109,112,108,101,47,103,48,49,57,56,52,47,108,97,119,115,46,70,110,69,120,97,99,116,68,101,99,111,100,101,72,101,120].map Char.ofNat
def w9 : List Char := [108,111,111,112,46,101,120,97,109,112,108,101,47,103,48,49,57,56,52,47,108,97,119,115,46,70,110,69,120,97,99,116,65,114,101,86,97,108,117,101,115].map Char.ofNat
def w10 : List Char := [108,111,111,112,46,101,120,97,109,112,108,101,47,103,48,49,57,56,52,47,108,97,119,115,46,70,110,69,120,97,99,116,68,101,99,111,100,101,86,97,114,105,110,116].map Char.ofNat
def w11 : List Char := [108,111,111,112,46,101,120,97,109,112,108,101,47,103,48,49,57,56,52,47,108,97,119,115,46,70,110,69,120,97,99,116,83,119,97,112,66,111,117,110,100].map Char.ofNat
def w12 : List Char := [108,111,111,112,46,101,120,97,109,112,108,101,47,103,48,49,57,56,52,47,108,97,119,115,46,70,110,69,120,97,99,116,84,111,116,97,108,83,119,97,112,115].map Char.ofNat
def w13 : List Char := [108,111,111,112,46,101,120,97,109,112,108,101,47,103,48,49,57,56,52,47,108,97,119,115,46,70,110,69,120,97,99,116,79,119,110,101,114,79,102].map Char.ofNat
def w14 : List Char := [108,111,111,112,46,101,120,97,109,112,108,101,47,103,48,49,57,56,52,47,108,97,119,115,46,70,110,69,120,97,99,116,83,99,97,110,82,97,110,103,101].map Char.ofNat
def w15 : List Char := [108,111,111,112,46,101,120,97,109,112,108,101,47,103,48,49,57,56,52,47,108,97,119,115,46,70,110,69,120,97,99,116,83,119,97,112,115,79,102].map Char.ofNat
def w16 : List Char := [108,111,111,112,46,101,120,97,109,112,108,101,47,103,48,49,57,56,52,47,108,97,119,115,46,70,110,69,120,97,99,116,70,105,110,100,80,105,118,111,116].map Char.ofNat
def w17 : List Char := [108,111,111,112,46,101,120,97,109,112,108,101,47,103,48,49,57,56,52,47,108,97,119,115,46,70,110,69,120,97,99,116,70,105,110,100,82,111,119].map Char.ofNat
def w18 : List Char := [108,111,111,112,46,101,120,97,109,112,108,101,47,103,48,49,57,56,52,47,108,97,119,115,46,70,110,69,120,97,99,116,70,105,110,100,67,111,108,117,109,110].map Char.ofNat
def w19 : List Char := [108,111,111,112,46,101,120,97,109,112,108,101,47,103,48,49,57,56,52,47,108,97,119,115,46,70,110,69,120,97,99,116,80,97,114,116,105,116,105,111,110].map Char.ofNat
def w20 : List Char := [108,111,111,112,46,101,120,97,109,112,108,101,47,103,48,49,57,56,52,47,108,97,119,115,46,70,110,69,120,97,99,116,69,113,117,97,108,67,114,97,99,107,101,114,115].map Char.ofNat
def w21 : List Char := [108,111,111,112,46,101,120,97,109,112,108,101,47,103,48,49,57,56,52,47,108,97,119,115,46,70,110,69,120,97,99,116,78,101,119,67,114,97,99,107,101,114].map Char.ofNat
def w22 : List Char := [108,111,111,112,46,101,120,97,109,112,108,101,47,103,48,49,57,56,52,47,108,97,119,115,46,70,110,69,120,97,99,116,73,115,84,97,98,108,101].map Char.ofNat
def w23 : List Char := [108,111,111,112,46,101,120,97,109,112,108,101,47,103,48,49,57,56,52,47,108,97,119,115,46,70,110,80,97,114,116,105,116,105,111,110,115].map Char.ofNat
theorem signs : Try.prog.initOrder.toList = w0 ++ (Char.ofNat 32) :: (w1 ++ (Char.ofNat 32) :: (w2 ++ (Char.ofNat 32) :: (w3 ++ (Char.ofNat 32) :: (w4 ++ (Char.ofNat 32) :: (w5 ++ (Char.ofNat 32) :: (w6 ++ (Char.ofNat 32) :: (w7 ++ (Char.ofNat 32) :: (w8 ++ (Char.ofNat 32) :: (w9 ++ (Char.ofNat 32) :: (w10 ++ (Char.ofNat 32) :: (w11 ++ (Char.ofNat 32) :: (w12 ++ (Char.ofNat 32) :: (w13 ++ (Char.ofNat 32) :: (w14 ++ (Char.ofNat 32) :: (w15 ++ (Char.ofNat 32) :: (w16 ++ (Char.ofNat 32) :: (w17 ++ (Char.ofNat 32) :: (w18 ++ (Char.ofNat 32) :: (w19 ++ (Char.ofNat 32) :: (w20 ++ (Char.ofNat 32) :: (w21 ++ (Char.ofNat 32) :: (w22 ++ (Char.ofNat 32) :: (w23))))))))))))))))))))))) := by
  rw [show Try.prog.initOrder = String.ofList (w0 ++ (Char.ofNat 32) :: (w1 ++ (Char.ofNat 32) :: (w2 ++ (Char.ofNat 32) :: (w3 ++ (Char.ofNat 32) :: (w4 ++ (Char.ofNat 32) :: (w5 ++ (Char.ofNat 32) :: (w6 ++ (Char.ofNat 32) :: (w7 ++ (Char.ofNat 32) :: (w8 ++ (Char.ofNat 32) :: (w9 ++ (Char.ofNat 32) :: (w10 ++ (Char.ofNat 32) :: (w11 ++ (Char.ofNat 32) :: (w12 ++ (Char.ofNat 32) :: (w13 ++ (Char.ofNat 32) :: (w14 ++ (Char.ofNat 32) :: (w15 ++ (Char.ofNat 32) :: (w16 ++ (Char.ofNat 32) :: (w17 ++ (Char.ofNat 32) :: (w18 ++ (Char.ofNat 32) :: (w19 ++ (Char.ofNat 32) :: (w20 ++ (Char.ofNat 32) :: (w21 ++ (Char.ofNat 32) :: (w22 ++ (Char.ofNat 32) :: (w23)))))))))))))))))))))))) by kernel_rfl]
  exact String.toList_ofList
theorem words : wordsSigns Try.prog.initOrder.toList = [w0, w1, w2, w3, w4, w5, w6, w7, w8, w9, w10, w11, w12, w13, w14, w15, w16, w17, w18, w19, w20, w21, w22, w23] := by
  rw [signs, step w0 _ (by decide), step w1 _ (by decide), step w2 _ (by decide), step w3 _ (by decide), step w4 _ (by decide), step w5 _ (by decide), step w6 _ (by decide), step w7 _ (by decide), step w8 _ (by decide), step w9 _ (by decide), step w10 _ (by decide), step w11 _ (by decide), step w12 _ (by decide), step w13 _ (by decide), step w14 _ (by decide), step w15 _ (by decide), step w16 _ (by decide), step w17 _ (by decide), step w18 _ (by decide), step w19 _ (by decide), step w20 _ (by decide), step w21 _ (by decide), step w22 _ (by decide), last w23 (by decide)]
theorem t0 : isSumSigns w1 = true := by kernel_rfl
theorem t1 : (w2 == "gc".toList) = false := by kernel_rfl
theorem t2 : (w2 == "cut".toList) = true := by kernel_rfl
theorem t3 : (w0 == "harness".toList) = true := by kernel_rfl
theorem t4 : (w2 == "spec".toList) = false := by kernel_rfl
theorem t5 : (w2 == "carried".toList) = false := by kernel_rfl
theorem behind {c : List Char} {r : List (List Char)} : behindMainWord (w0 :: w1 :: c :: r) = c :: r := by
  show (if ((w0 == "harness".toList || w0 == "ownmain".toList) && isSumSigns w1) = true then c :: r else w0 :: w1 :: c :: r) = c :: r
  rw [t3, t0]
  rfl
theorem st (o : String) (os ws) (h : (w2 == o.toList) = false) : stripLifts (o :: os) (w2 :: ws) = stripLifts os (w2 :: ws) := by
  rw [stripLifts, h]
  rfl
theorem strip {r : List (List Char)} : stripLifts liftWords (w2 :: r) = ([], w2 :: r) := by
  unfold liftWords
  iterate 15 rw [st _ _ _ (by kernel_rfl)]
  rw [stripLifts]
theorem mk0 (P : Program) (c r) (h : behindMainWord (wordsSigns P.initOrder.toList) = c :: r) (hc : (c == "cut".toList) = true) (hg : (c == "gc".toList) = false) (hs : (c == "spec".toList) = false) : P.make = some .cut := by
  rw [Program.make, h]
  dsimp only
  rw [hg, hs, hc, if_neg (by decide), Bool.true_or, if_pos rfl]
theorem me0 (P : Program) (c r) (h : behindMainWord (wordsSigns P.initOrder.toList) = c :: r) (hg : (c == "gc".toList) = false) (hs : (c == "spec".toList) = false) (hy : (c == "carried".toList) = false)
    (s : stripLifts liftWords (c :: r) = ([], c :: r)) (hc : ((c :: r).head? == some "cut".toList) = true) (l : P.laysLater = false) (b : P.bearsReflect = false) (d : P.doorFits [] = true) : P.mayEnter = true := by
  rw [Program.mayEnter, h]
  dsimp only
  rw [hg, hs, hy, s]
  dsimp only
  rw [hc, l, b, d]
  rfl
theorem hl0 (P : Program) (c r) (h : behindMainWord (wordsSigns P.initOrder.toList) = c :: r) (s : stripLifts liftWords (c :: r) = ([], c :: r)) : P.headLifts = [] := by
  rw [Program.headLifts, h, s]
  split <;> rfl
theorem lf0 (P : Program) (c r) (h : behindMainWord (wordsSigns P.initOrder.toList) = c :: r) (l : P.headLifts = []) (hy : ((c :: r).head? == some "carried".toList) = false) : P.liftsFinal = false := by
  rw [Program.liftsFinal, h, l, hy]
  rfl
theorem hd : behindMainWord (wordsSigns Try.prog.initOrder.toList) = w2 :: [w3, w4, w5, w6, w7, w8, w9, w10, w11, w12, w13, w14, w15, w16, w17, w18, w19, w20, w21, w22, w23] := by
  rw [words, behind]
theorem tc : ((w2 :: [w3, w4, w5, w6, w7, w8, w9, w10, w11, w12, w13, w14, w15, w16, w17, w18, w19, w20, w21, w22, w23] : List (List Char)).head? == some "cut".toList) = true := by kernel_rfl
theorem ty : ((w2 :: [w3, w4, w5, w6, w7, w8, w9, w10, w11, w12, w13, w14, w15, w16, w17, w18, w19, w20, w21, w22, w23] : List (List Char)).head? == some "carried".toList) = false := by kernel_rfl
theorem mayEnter : Try.prog.mayEnter = true := me0 _ _ _ hd t1 t4 t5 strip tc (by kernel_rfl) (by kernel_rfl) (by kernel_rfl)
theorem headLifts : Try.prog.headLifts = [] := hl0 _ _ _ hd strip
theorem liftsFinal : Try.prog.liftsFinal = false := lf0 _ _ _ hd headLifts ty
theorem make : Try.prog.make = some .cut := mk0 _ _ _ hd t2 t1 t4
end Go.Proofs.Ytmekpkajpjnkgaa.Head
