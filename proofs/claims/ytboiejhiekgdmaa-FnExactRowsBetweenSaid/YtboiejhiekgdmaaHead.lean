-- written by a program of this session (head.py)
import Derived.Test.YtboiejhiekgdmaaRows
import Derived.JoinedOf
/- THREE FACTS THAT READ THE PROGRAM'S HEAD LINE, ONCE FOR THE SEAT: by kernel_rfl each row would take the string apart anew. -/
namespace Go.Proofs.Ytboiejhiekgdmaa.Head
set_option maxRecDepth 100000
theorem step : ∀ (w r : List Char), w.all (· != ' ') = true → wordsSigns (w ++ ' ' :: r) = w :: wordsSigns r
  | [], r, _ => by simp [wordsSigns]
  | c :: w, r, h => by
    simp only [List.all_cons, Bool.and_eq_true, bne_iff_ne, ne_eq] at h
    have i := step w r h.2
    rw [List.cons_append, wordsSigns.eq_3 _ _ (fun e => h.1 e), i]
theorem last : ∀ (w : List Char), w.all (· != ' ') = true → wordsSigns w = [w]
  | [], _ => rfl
  | c :: w, h => by
    simp only [List.all_cons, Bool.and_eq_true, bne_iff_ne, ne_eq] at h
    rw [wordsSigns.eq_3 _ _ (fun e => h.1 e), last w h.2]
def w0 : List Char := ['h','a','r','n','e','s','s']
def w1 : List Char := ['0','b','e','0','a','0','6','0','4','5','0','6','4','d','c','8','1','0','8','5','5','5','8','a','b','c','d','8','3','c','d','f','9','a','7','1','9','9','2','0','3','1','3','7','3','3','6','2','4','4','6','8','2','2','0','b','7','6','7','e','7','8','3','e']
def w2 : List Char := ['c','u','t']
def w3 : List Char := ['a','t']
def w4 : List Char := ['l','o','o','p','.','e','x','a','m','p','l','e','/','g','0','1','9','8','4','/','l','a','w','s','.','F','n','E','x','a','c','t','R','o','w','s','B','e','t','w','e','e','n']
def w5 : List Char := ['l','o','o','p','.','e','x','a','m','p','l','e','/','g','0','1','9','8','4','/','l','a','w','s','.','F','n','E','x','a','c','t','C','h','o','o','s','e','P','i','v','o','t']
def w6 : List Char := ['l','o','o','p','.','e','x','a','m','p','l','e','/','g','0','1','9','8','4','/','l','a','w','s','.','F','n','M','e','d','i','a','n','s']
theorem signs : Try.prog.initOrder.toList = w0 ++ ' ' :: (w1 ++ ' ' :: (w2 ++ ' ' :: (w3 ++ ' ' :: (w4 ++ ' ' :: (w5 ++ ' ' :: (w6)))))) := by
  rw [show Try.prog.initOrder = String.ofList (w0 ++ ' ' :: (w1 ++ ' ' :: (w2 ++ ' ' :: (w3 ++ ' ' :: (w4 ++ ' ' :: (w5 ++ ' ' :: (w6))))))) by kernel_rfl]
  exact String.toList_ofList
theorem words : wordsSigns Try.prog.initOrder.toList = [w0, w1, w2, w3, w4, w5, w6] := by
  rw [signs, step w0 _ (by decide), step w1 _ (by decide), step w2 _ (by decide), step w3 _ (by decide), step w4 _ (by decide), step w5 _ (by decide), last w6 (by decide)]
theorem t0 : isSumSigns w1 = true := by kernel_rfl
theorem t1 : (w2 == "gc".toList) = false := by kernel_rfl
theorem t2 : (w2 == "cut".toList) = true := by kernel_rfl
theorem t3 : (w0 == "harness".toList) = true := by kernel_rfl
theorem t4 : (w2 == "spec".toList) = false := by kernel_rfl
theorem t5 : (w2 == "carried".toList) = false := by kernel_rfl
theorem behind {c : List Char} {r : List (List Char)} : behindMainWord (w0 :: w1 :: c :: r) = c :: r := by
  show (if ((w0 == "harness".toList || w0 == "ownmain".toList) && isSumSigns w1) = true then c :: r else w0 :: w1 :: c :: r) = c :: r
  rw [t3, t0]
  rfl
theorem st (o : String) (os ws) (h : (w2 == o.toList) = false) : stripLifts (o :: os) (w2 :: ws) = stripLifts os (w2 :: ws) := by
  rw [stripLifts, h]
  rfl
theorem strip {r : List (List Char)} : stripLifts liftWords (w2 :: r) = ([], w2 :: r) := by
  unfold liftWords
  iterate 15 rw [st _ _ _ (by kernel_rfl)]
  rw [stripLifts]
theorem mk0 (P : Program) (c r) (h : behindMainWord (wordsSigns P.initOrder.toList) = c :: r) (hc : (c == "cut".toList) = true) (hg : (c == "gc".toList) = false) (hs : (c == "spec".toList) = false) : P.make = some .cut := by
  rw [Program.make, h]
  dsimp only
  rw [hg, hs, hc, if_neg (by decide), Bool.true_or, if_pos rfl]
theorem me0 (P : Program) (c r) (h : behindMainWord (wordsSigns P.initOrder.toList) = c :: r) (hg : (c == "gc".toList) = false) (hs : (c == "spec".toList) = false) (hy : (c == "carried".toList) = false)
    (s : stripLifts liftWords (c :: r) = ([], c :: r)) (hc : ((c :: r).head? == some "cut".toList) = true) (l : P.laysLater = false) (b : P.bearsReflect = false) (d : P.doorFits [] = true) : P.mayEnter = true := by
  rw [Program.mayEnter, h]
  dsimp only
  rw [hg, hs, hy, s]
  dsimp only
  rw [hc, l, b, d]
  rfl
theorem hl0 (P : Program) (c r) (h : behindMainWord (wordsSigns P.initOrder.toList) = c :: r) (s : stripLifts liftWords (c :: r) = ([], c :: r)) : P.headLifts = [] := by
  rw [Program.headLifts, h, s]
  split <;> rfl
theorem lf0 (P : Program) (c r) (h : behindMainWord (wordsSigns P.initOrder.toList) = c :: r) (l : P.headLifts = []) (hy : ((c :: r).head? == some "carried".toList) = false) : P.liftsFinal = false := by
  rw [Program.liftsFinal, h, l, hy]
  rfl
theorem hd : behindMainWord (wordsSigns Try.prog.initOrder.toList) = w2 :: [w3, w4, w5, w6] := by
  rw [words, behind]
theorem tc : ((w2 :: [w3, w4, w5, w6] : List (List Char)).head? == some "cut".toList) = true := by kernel_rfl
theorem ty : ((w2 :: [w3, w4, w5, w6] : List (List Char)).head? == some "carried".toList) = false := by kernel_rfl
theorem mayEnter : Try.prog.mayEnter = true := me0 _ _ _ hd t1 t4 t5 strip tc (by kernel_rfl) (by kernel_rfl) (by kernel_rfl)
theorem headLifts : Try.prog.headLifts = [] := hl0 _ _ _ hd strip
theorem liftsFinal : Try.prog.liftsFinal = false := lf0 _ _ _ hd headLifts ty
theorem make : Try.prog.make = some .cut := mk0 _ _ _ hd t2 t1 t4
end Go.Proofs.Ytboiejhiekgdmaa.Head
