/- What the translation's head word says, word by word; the same for every row of this seat. -/
import Derived.Test.YthodcgkhianecaaDoorRows
import Derived.ProofKit
namespace Go.Proofs.YthodcgkhianecaaDoor.MyFacts
abbrev rest : List (List Char) := [([99, 117, 116].map Char.ofNat), ([97, 116].map Char.ofNat), ([108, 111, 111, 112, 46, 101, 120, 97, 109, 112, 108, 101, 47, 113, 117, 97, 110, 116, 105, 102, 105, 101, 114, 115, 47, 108, 97, 119, 115, 46, 70, 110, 83, 97, 121, 115, 89, 101, 115].map Char.ofNat), ([108, 111, 111, 112, 46, 101, 120, 97, 109, 112, 108, 101, 47, 113, 117, 97, 110, 116, 105, 102, 105, 101, 114, 115, 47, 108, 97, 119, 115, 46, 70, 110, 77, 97, 99, 104, 105, 110, 101, 66, 111, 116, 104].map Char.ofNat)]
theorem ws_nil (a : List Char) (h : a.all (fun c => c != Char.ofNat 32) = true) : wordsSigns a = [a] := by
  induction a with
  | nil => rfl
  | cons c a ih =>
    simp only [List.all_cons, Bool.and_eq_true, bne_iff_ne, ne_eq] at h
    rw [wordsSigns, ih (by simpa using h.2)]
    exact h.1
theorem ws_word (a b : List Char) (h : a.all (fun c => c != Char.ofNat 32) = true) : wordsSigns (a ++ Char.ofNat 32 :: b) = a :: wordsSigns b := by
  induction a with
  | nil => rfl
  | cons c a ih =>
    simp only [List.all_cons, Bool.and_eq_true, bne_iff_ne, ne_eq] at h
    rw [List.cons_append, wordsSigns, ih (by simpa using h.2)]
    exact h.1
set_option maxRecDepth 100000 in
theorem initIs : Tryd.prog.initOrder = String.ofList (([104, 97, 114, 110, 101, 115, 115].map Char.ofNat) ++ Char.ofNat 32 :: (([97, 49, 49, 56, 53, 57, 53, 56, 49, 97, 53, 51, 49, 55, 51, 102, 57, 97, 48, 50, 50, 56, 97, 57, 99, 55, 50, 56, 102, 52, 53, 53, 49, 98, 102, 102, 50, 98, 53, 102, 54, 98, 48, 100, 53, 51, 56, 51, 52, 54, 102, 102, 50, 49, 54, 100, 56, 50, 56, 100, 98, 53, 56, 101].map Char.ofNat) ++ Char.ofNat 32 :: (([99, 117, 116].map Char.ofNat) ++ Char.ofNat 32 :: (([97, 116].map Char.ofNat) ++ Char.ofNat 32 :: (([108, 111, 111, 112, 46, 101, 120, 97, 109, 112, 108, 101, 47, 113, 117, 97, 110, 116, 105, 102, 105, 101, 114, 115, 47, 108, 97, 119, 115, 46, 70, 110, 83, 97, 121, 115, 89, 101, 115].map Char.ofNat) ++ Char.ofNat 32 :: (([108, 111, 111, 112, 46, 101, 120, 97, 109, 112, 108, 101, 47, 113, 117, 97, 110, 116, 105, 102, 105, 101, 114, 115, 47, 108, 97, 119, 115, 46, 70, 110, 77, 97, 99, 104, 105, 110, 101, 66, 111, 116, 104].map Char.ofNat))))))) := by kernel_rfl
theorem initList : Tryd.prog.initOrder.toList = (([104, 97, 114, 110, 101, 115, 115].map Char.ofNat) ++ Char.ofNat 32 :: (([97, 49, 49, 56, 53, 57, 53, 56, 49, 97, 53, 51, 49, 55, 51, 102, 57, 97, 48, 50, 50, 56, 97, 57, 99, 55, 50, 56, 102, 52, 53, 53, 49, 98, 102, 102, 50, 98, 53, 102, 54, 98, 48, 100, 53, 51, 56, 51, 52, 54, 102, 102, 50, 49, 54, 100, 56, 50, 56, 100, 98, 53, 56, 101].map Char.ofNat) ++ Char.ofNat 32 :: (([99, 117, 116].map Char.ofNat) ++ Char.ofNat 32 :: (([97, 116].map Char.ofNat) ++ Char.ofNat 32 :: (([108, 111, 111, 112, 46, 101, 120, 97, 109, 112, 108, 101, 47, 113, 117, 97, 110, 116, 105, 102, 105, 101, 114, 115, 47, 108, 97, 119, 115, 46, 70, 110, 83, 97, 121, 115, 89, 101, 115].map Char.ofNat) ++ Char.ofNat 32 :: (([108, 111, 111, 112, 46, 101, 120, 97, 109, 112, 108, 101, 47, 113, 117, 97, 110, 116, 105, 102, 105, 101, 114, 115, 47, 108, 97, 119, 115, 46, 70, 110, 77, 97, 99, 104, 105, 110, 101, 66, 111, 116, 104].map Char.ofNat))))))) := by rw [initIs, String.toList_ofList]
set_option maxRecDepth 100000 in
theorem words : wordsSigns Tryd.prog.initOrder.toList = [([104, 97, 114, 110, 101, 115, 115].map Char.ofNat), ([97, 49, 49, 56, 53, 57, 53, 56, 49, 97, 53, 51, 49, 55, 51, 102, 57, 97, 48, 50, 50, 56, 97, 57, 99, 55, 50, 56, 102, 52, 53, 53, 49, 98, 102, 102, 50, 98, 53, 102, 54, 98, 48, 100, 53, 51, 56, 51, 52, 54, 102, 102, 50, 49, 54, 100, 56, 50, 56, 100, 98, 53, 56, 101].map Char.ofNat), ([99, 117, 116].map Char.ofNat), ([97, 116].map Char.ofNat), ([108, 111, 111, 112, 46, 101, 120, 97, 109, 112, 108, 101, 47, 113, 117, 97, 110, 116, 105, 102, 105, 101, 114, 115, 47, 108, 97, 119, 115, 46, 70, 110, 83, 97, 121, 115, 89, 101, 115].map Char.ofNat), ([108, 111, 111, 112, 46, 101, 120, 97, 109, 112, 108, 101, 47, 113, 117, 97, 110, 116, 105, 102, 105, 101, 114, 115, 47, 108, 97, 119, 115, 46, 70, 110, 77, 97, 99, 104, 105, 110, 101, 66, 111, 116, 104].map Char.ofNat)] := by
  rw [initList]
  rw [ws_word _ _ (by kernel_rfl)]
  rw [ws_word _ _ (by kernel_rfl)]
  rw [ws_word _ _ (by kernel_rfl)]
  rw [ws_word _ _ (by kernel_rfl)]
  rw [ws_word _ _ (by kernel_rfl)]
  rw [ws_nil _ (by kernel_rfl)]
theorem behind : behindMainWord (wordsSigns Tryd.prog.initOrder.toList) = rest := by rw [words]; kernel_rfl
theorem make_gen (P : Program) (h : behindMainWord (wordsSigns P.initOrder.toList) = rest) : P.make = some .cut := by unfold Program.make; rw [h]; kernel_rfl
theorem lift_gen (P : Program) (h : behindMainWord (wordsSigns P.initOrder.toList) = rest) : P.liftsFinal = false := by unfold Program.liftsFinal Program.headLifts; rw [h]; kernel_rfl
theorem may_gen (P : Program) (h : behindMainWord (wordsSigns P.initOrder.toList) = rest) (h1 : P.laysLater = false) (h2 : P.bearsReflect = false) (h3 : ∀ l, stripLifts liftWords (rest) = l → P.doorFits l.1 = true) : P.mayEnter = true := by
  unfold Program.mayEnter
  rw [h]
  have e := h3 _ rfl
  dsimp only
  rw [h1, h2, e]
  first | done | rfl | kernel_rfl | decide
theorem makeIs : Tryd.prog.make = some .cut := make_gen _ behind
theorem liftIs : Tryd.prog.liftsFinal = false := lift_gen _ behind
theorem layIs : Tryd.prog.laysLater = false := by kernel_rfl
theorem reflIs : Tryd.prog.bearsReflect = false := by kernel_rfl
theorem stripIs : stripLifts liftWords (rest) = ([], rest) := by kernel_rfl
theorem doorIs : Tryd.prog.doorFits [] = true := by kernel_rfl
theorem mayIs : Tryd.prog.mayEnter = true := may_gen _ behind layIs reflIs (fun l h => by rw [← h, stripIs]; exact doorIs)
end Go.Proofs.YthodcgkhianecaaDoor.MyFacts
