/- What the translation's head word says, word by word; the same for every row of this seat. -/
import Derived.Test.YtmkfmbjemdbigaaRows
import Derived.ProofKit
namespace Go.Proofs.Ytmkfmbjemdbigaa.MyFacts
abbrev rest : List (List Char) := [([99, 117, 116].map Char.ofNat), ([97, 116].map Char.ofNat), ([108, 111, 111, 112, 46, 101, 120, 97, 109, 112, 108, 101, 47, 113, 117, 97, 110, 116, 105, 102, 105, 101, 114, 115, 47, 108, 97, 119, 115, 46, 70, 110, 87, 101, 105, 103, 104, 70, 111, 108, 108, 111, 119, 115].map Char.ofNat)]
theorem ws_nil (a : List Char) (h : a.all (fun c => c != Char.ofNat 32) = true) : wordsSigns a = [a] := by
  induction a with
  | nil => rfl
  | cons c a ih =>
    simp only [List.all_cons, Bool.and_eq_true, bne_iff_ne, ne_eq] at h
    rw [wordsSigns, ih (by simpa using h.2)]
    exact h.1
theorem ws_word (a b : List Char) (h : a.all (fun c => c != Char.ofNat 32) = true) : wordsSigns (a ++ Char.ofNat 32 :: b) = a :: wordsSigns b := by
  induction a with
  | nil => rfl
  | cons c a ih =>
    simp only [List.all_cons, Bool.and_eq_true, bne_iff_ne, ne_eq] at h
    rw [List.cons_append, wordsSigns, ih (by simpa using h.2)]
    exact h.1
set_option maxRecDepth 100000 in
theorem initIs : Try.prog.initOrder = String.ofList (([104, 97, 114, 110, 101, 115, 115].map Char.ofNat) ++ Char.ofNat 32 :: (([99, 57, 101, 101, 102, 49, 49, 54, 56, 100, 101, 54, 97, 51, 57, 54, 101, 50, 100, 101, 100, 51, 57, 52, 99, 54, 102, 101, 53, 52, 48, 57, 50, 52, 57, 48, 101, 98, 49, 49, 99, 102, 100, 102, 48, 98, 57, 102, 52, 55, 49, 56, 98, 102, 54, 57, 48, 50, 99, 49, 51, 102, 52, 54].map Char.ofNat) ++ Char.ofNat 32 :: (([99, 117, 116].map Char.ofNat) ++ Char.ofNat 32 :: (([97, 116].map Char.ofNat) ++ Char.ofNat 32 :: (([108, 111, 111, 112, 46, 101, 120, 97, 109, 112, 108, 101, 47, 113, 117, 97, 110, 116, 105, 102, 105, 101, 114, 115, 47, 108, 97, 119, 115, 46, 70, 110, 87, 101, 105, 103, 104, 70, 111, 108, 108, 111, 119, 115].map Char.ofNat)))))) := by kernel_rfl
theorem initList : Try.prog.initOrder.toList = (([104, 97, 114, 110, 101, 115, 115].map Char.ofNat) ++ Char.ofNat 32 :: (([99, 57, 101, 101, 102, 49, 49, 54, 56, 100, 101, 54, 97, 51, 57, 54, 101, 50, 100, 101, 100, 51, 57, 52, 99, 54, 102, 101, 53, 52, 48, 57, 50, 52, 57, 48, 101, 98, 49, 49, 99, 102, 100, 102, 48, 98, 57, 102, 52, 55, 49, 56, 98, 102, 54, 57, 48, 50, 99, 49, 51, 102, 52, 54].map Char.ofNat) ++ Char.ofNat 32 :: (([99, 117, 116].map Char.ofNat) ++ Char.ofNat 32 :: (([97, 116].map Char.ofNat) ++ Char.ofNat 32 :: (([108, 111, 111, 112, 46, 101, 120, 97, 109, 112, 108, 101, 47, 113, 117, 97, 110, 116, 105, 102, 105, 101, 114, 115, 47, 108, 97, 119, 115, 46, 70, 110, 87, 101, 105, 103, 104, 70, 111, 108, 108, 111, 119, 115].map Char.ofNat)))))) := by rw [initIs, String.toList_ofList]
set_option maxRecDepth 100000 in
theorem words : wordsSigns Try.prog.initOrder.toList = [([104, 97, 114, 110, 101, 115, 115].map Char.ofNat), ([99, 57, 101, 101, 102, 49, 49, 54, 56, 100, 101, 54, 97, 51, 57, 54, 101, 50, 100, 101, 100, 51, 57, 52, 99, 54, 102, 101, 53, 52, 48, 57, 50, 52, 57, 48, 101, 98, 49, 49, 99, 102, 100, 102, 48, 98, 57, 102, 52, 55, 49, 56, 98, 102, 54, 57, 48, 50, 99, 49, 51, 102, 52, 54].map Char.ofNat), ([99, 117, 116].map Char.ofNat), ([97, 116].map Char.ofNat), ([108, 111, 111, 112, 46, 101, 120, 97, 109, 112, 108, 101, 47, 113, 117, 97, 110, 116, 105, 102, 105, 101, 114, 115, 47, 108, 97, 119, 115, 46, 70, 110, 87, 101, 105, 103, 104, 70, 111, 108, 108, 111, 119, 115].map Char.ofNat)] := by
  rw [initList]
  rw [ws_word _ _ (by kernel_rfl)]
  rw [ws_word _ _ (by kernel_rfl)]
  rw [ws_word _ _ (by kernel_rfl)]
  rw [ws_word _ _ (by kernel_rfl)]
  rw [ws_nil _ (by kernel_rfl)]
theorem behind : behindMainWord (wordsSigns Try.prog.initOrder.toList) = rest := by rw [words]; kernel_rfl
theorem make_gen (P : Program) (h : behindMainWord (wordsSigns P.initOrder.toList) = rest) : P.make = some .cut := by unfold Program.make; rw [h]; kernel_rfl
theorem lift_gen (P : Program) (h : behindMainWord (wordsSigns P.initOrder.toList) = rest) : P.liftsFinal = false := by unfold Program.liftsFinal Program.headLifts; rw [h]; kernel_rfl
theorem may_gen (P : Program) (h : behindMainWord (wordsSigns P.initOrder.toList) = rest) (h1 : P.laysLater = false) (h2 : P.bearsReflect = false) (h3 : ∀ l, stripLifts liftWords (rest) = l → P.doorFits l.1 = true) : P.mayEnter = true := by
  unfold Program.mayEnter
  rw [h]
  have e := h3 _ rfl
  dsimp only
  rw [h1, h2, e]
  rfl
theorem makeIs : Try.prog.make = some .cut := make_gen _ behind
theorem liftIs : Try.prog.liftsFinal = false := lift_gen _ behind
theorem layIs : Try.prog.laysLater = false := by kernel_rfl
theorem reflIs : Try.prog.bearsReflect = false := by kernel_rfl
theorem stripIs : stripLifts liftWords (rest) = ([], rest) := by kernel_rfl
theorem doorIs : Try.prog.doorFits [] = true := by kernel_rfl
theorem mayIs : Try.prog.mayEnter = true := may_gen _ behind layIs reflIs (fun l h => by rw [← h, stripIs]; exact doorIs)
end Go.Proofs.Ytmkfmbjemdbigaa.MyFacts
