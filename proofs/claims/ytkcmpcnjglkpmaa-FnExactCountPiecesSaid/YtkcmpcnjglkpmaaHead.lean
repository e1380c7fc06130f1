-- written by a program of this session (head.py)
import Derived.Test.YtkcmpcnjglkpmaaRows
import Derived.JoinedOf
/- THREE FACTS THAT READ THE PROGRAM'S HEAD LINE, ONCE FOR THE SEAT: by kernel_rfl each row would take the string apart anew. -/
namespace Go.Proofs.Ytkcmpcnjglkpmaa.Head
set_option maxRecDepth 100000
theorem step : ∀ (w r : List Char), w.all (· != ' ') = true → wordsSigns (w ++ ' ' :: r) = w :: wordsSigns r
  | [], r, _ => by simp [wordsSigns]
  | c :: w, r, h => by
    simp only [List.all_cons, Bool.and_eq_true, bne_iff_ne, ne_eq] at h
    have i := step w r h.2
    rw [List.cons_append, wordsSigns.eq_3 _ _ (fun e => h.1 e), i]
theorem last : ∀ (w : List Char), w.all (· != ' ') = true → wordsSigns w = [w]
  | [], _ => rfl
  | c :: w, h => by
    simp only [List.all_cons, Bool.and_eq_true, bne_iff_ne, ne_eq] at h
    rw [wordsSigns.eq_3 _ _ (fun e => h.1 e), last w h.2]
def w0 : List Char := ['h','a','r','n','e','s','s']
def w1 : List Char := ['6','d','b','e','e','e','5','8','4','0','b','2','3','d','a','3','9','d','4','f','b','9','2','1','e','2','0','0','e','e','8','8','b','4','1','e','8','0','2','d','d','7','d','d','c','0','d','a','6','b','3','e','6','7','1','0','2','1','2','8','6','e','8','e']
def w2 : List Char := ['c','u','t']
def w3 : List Char := ['a','t']
def w4 : List Char := ['l','o','o','p','.','e','x','a','m','p','l','e','/','g','0','1','9','8','4','/','l','a','w','s','.','F','n','E','x','a','c','t','R','o','w','C','o','u','n','t']
def w5 : List Char := ['l','o','o','p','.','e','x','a','m','p','l','e','/','g','0','1','9','8','4','/','l','a','w','s','.','F','n','E','x','a','c','t','I','s','C','r','a','c','k','e','r']
def w6 : List Char := ['l','o','o','p','.','e','x','a','m','p','l','e','/','g','0','1','9','8','4','/','l','a','w','s','.','F','n','E','x','a','c','t','P','i','e','c','e','O','f']
def w7 : List Char := ['l','o','o','p','.','e','x','a','m','p','l','e','/','g','0','1','9','8','4','/','l','a','w','s','.','F','n','E','x','a','c','t','C','o','u','n','t','P','i','e','c','e','s']
def w8 : List Char := ['l','o','o','p','.','e','x','a','m','p','l','e','/','g','0','1','9','8','4','/','l','a','w','s','.','F','n','E','x','a','c','t','L','a','r','g','e','s','t','P','i','e','c','e']
def w9 : List Char := ['l','o','o','p','.','e','x','a','m','p','l','e','/','g','0','1','9','8','4','/','l','a','w','s','.','F','n','E','x','a','c','t','C','o','l','u','m','n','O','f']
def w10 : List Char := ['l','o','o','p','.','e','x','a','m','p','l','e','/','g','0','1','9','8','4','/','l','a','w','s','.','F','n','E','x','a','c','t','A','p','p','l','y','S','w','a','p','s']
theorem signs : Try.prog.initOrder.toList = w0 ++ ' ' :: (w1 ++ ' ' :: (w2 ++ ' ' :: (w3 ++ ' ' :: (w4 ++ ' ' :: (w5 ++ ' ' :: (w6 ++ ' ' :: (w7 ++ ' ' :: (w8 ++ ' ' :: (w9 ++ ' ' :: (w10)))))))))) := by
  rw [show Try.prog.initOrder = String.ofList (w0 ++ ' ' :: (w1 ++ ' ' :: (w2 ++ ' ' :: (w3 ++ ' ' :: (w4 ++ ' ' :: (w5 ++ ' ' :: (w6 ++ ' ' :: (w7 ++ ' ' :: (w8 ++ ' ' :: (w9 ++ ' ' :: (w10))))))))))) by kernel_rfl]
  exact String.toList_ofList
theorem words : wordsSigns Try.prog.initOrder.toList = [w0, w1, w2, w3, w4, w5, w6, w7, w8, w9, w10] := by
  rw [signs, step w0 _ (by decide), step w1 _ (by decide), step w2 _ (by decide), step w3 _ (by decide), step w4 _ (by decide), step w5 _ (by decide), step w6 _ (by decide), step w7 _ (by decide), step w8 _ (by decide), step w9 _ (by decide), last w10 (by decide)]
theorem t0 : isSumSigns w1 = true := by kernel_rfl
theorem t1 : (w2 == "gc".toList) = false := by kernel_rfl
theorem t2 : (w2 == "cut".toList) = true := by kernel_rfl
theorem t3 : (w0 == "harness".toList) = true := by kernel_rfl
theorem t4 : (w2 == "spec".toList) = false := by kernel_rfl
theorem t5 : (w2 == "carried".toList) = false := by kernel_rfl
theorem behind {c : List Char} {r : List (List Char)} : behindMainWord (w0 :: w1 :: c :: r) = c :: r := by
  show (if ((w0 == "harness".toList || w0 == "ownmain".toList) && isSumSigns w1) = true then c :: r else w0 :: w1 :: c :: r) = c :: r
  rw [t3, t0]
  rfl
theorem st (o : String) (os ws) (h : (w2 == o.toList) = false) : stripLifts (o :: os) (w2 :: ws) = stripLifts os (w2 :: ws) := by
  rw [stripLifts, h]
  rfl
theorem strip {r : List (List Char)} : stripLifts liftWords (w2 :: r) = ([], w2 :: r) := by
  unfold liftWords
  iterate 15 rw [st _ _ _ (by kernel_rfl)]
  rw [stripLifts]
theorem mk0 (P : Program) (c r) (h : behindMainWord (wordsSigns P.initOrder.toList) = c :: r) (hc : (c == "cut".toList) = true) (hg : (c == "gc".toList) = false) (hs : (c == "spec".toList) = false) : P.make = some .cut := by
  rw [Program.make, h]
  dsimp only
  rw [hg, hs, hc, if_neg (by decide), Bool.true_or, if_pos rfl]
theorem me0 (P : Program) (c r) (h : behindMainWord (wordsSigns P.initOrder.toList) = c :: r) (hg : (c == "gc".toList) = false) (hs : (c == "spec".toList) = false) (hy : (c == "carried".toList) = false)
    (s : stripLifts liftWords (c :: r) = ([], c :: r)) (hc : ((c :: r).head? == some "cut".toList) = true) (l : P.laysLater = false) (b : P.bearsReflect = false) (d : P.doorFits [] = true) : P.mayEnter = true := by
  rw [Program.mayEnter, h]
  dsimp only
  rw [hg, hs, hy, s]
  dsimp only
  rw [hc, l, b, d]
  rfl
theorem hl0 (P : Program) (c r) (h : behindMainWord (wordsSigns P.initOrder.toList) = c :: r) (s : stripLifts liftWords (c :: r) = ([], c :: r)) : P.headLifts = [] := by
  rw [Program.headLifts, h, s]
  split <;> rfl
theorem lf0 (P : Program) (c r) (h : behindMainWord (wordsSigns P.initOrder.toList) = c :: r) (l : P.headLifts = []) (hy : ((c :: r).head? == some "carried".toList) = false) : P.liftsFinal = false := by
  rw [Program.liftsFinal, h, l, hy]
  rfl
theorem hd : behindMainWord (wordsSigns Try.prog.initOrder.toList) = w2 :: [w3, w4, w5, w6, w7, w8, w9, w10] := by
  rw [words, behind]
theorem tc : ((w2 :: [w3, w4, w5, w6, w7, w8, w9, w10] : List (List Char)).head? == some "cut".toList) = true := by kernel_rfl
theorem ty : ((w2 :: [w3, w4, w5, w6, w7, w8, w9, w10] : List (List Char)).head? == some "carried".toList) = false := by kernel_rfl
theorem mayEnter : Try.prog.mayEnter = true := me0 _ _ _ hd t1 t4 t5 strip tc (by kernel_rfl) (by kernel_rfl) (by kernel_rfl)
theorem headLifts : Try.prog.headLifts = [] := hl0 _ _ _ hd strip
theorem liftsFinal : Try.prog.liftsFinal = false := lf0 _ _ _ hd headLifts ty
theorem make : Try.prog.make = some .cut := mk0 _ _ _ hd t2 t1 t4
end Go.Proofs.Ytkcmpcnjglkpmaa.Head
