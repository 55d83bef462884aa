/- The machines of names, in plain words: the program's own answer; no condition. -/
import Derived.Test.YtgaapfldimokpaaSemNamed
namespace Go.Proofs.Ytgaapfldimokpaa.Sem
open Go.RowKit Go.Proofs.Ytgaapfldimokpaa.PA Go.Proofs.YtgaapfldimokpaaW.PrintWords Go.Proofs.YtgaapfldimokpaaW.PrintLast Go.Proofs.YtgaapfldimokpaaW.PrintMore
set_option linter.unusedVariables false
set_option linter.unusedSimpArgs false

theorem far_J (a0 : ByteArray) (n : Nat) (hn2 : n ≤ 5) (hn' : a0.data.toList = sJ ++ [dg n]) : Ev (fun k => ((impl_counting.f k (n : Int) (wrap64 ((n : Int) + 2))).bind fun bt253 => (some (bt253.1, bt253.2.1, bt253.2.2, true)))) (byDigit a0.data.toList [0, 1, 2, 3, 4, 5]) := by
  rw [hn', byDigit_J n hn2]
  exact Ev.bind (ev_one (fun k => impl_counting.mono _ _ k) (counting_lit2 n hn2)) (Ev.now _)
theorem far_A (a0 : ByteArray) (n : Nat) (hn1 : 1 ≤ n) (hn2 : n ≤ 5) (hn' : a0.data.toList = sA ++ [dg n]) : Ev (fun k => ((impl_counting.f k (n : Int) (wrap64 ((n : Int) + 1))).bind fun bt253 => (some (bt253.1, bt253.2.1, bt253.2.2, true)))) (byDigit a0.data.toList [0, 1, 2, 3, 4, 5]) := by
  rw [hn', byDigit_A n hn1 hn2]
  exact Ev.bind (ev_one (fun k => impl_counting.mono _ _ k) (counting_lit n hn2)) (Ev.now _)
theorem bind_true {α : Type} {o : Option (Int × Bool)} {n : Int} (h : o = some (n, true)) (f : Int → Option α) (g : Int × Bool → Option α) : (o.bind fun b => if b.2 = true then f b.1 else g b) = f n := by
  subst h
  rw [Option.bind_some]
  exact if_pos rfl
theorem bind_false {α : Type} {o : Option (Int × Bool)} {n : Int} (h : o = some (n, false)) (f : Int → Option α) (g : Option α) : (o.bind fun b => if b.2 = true then f b.1 else g) = g := by
  subst h
  rw [Option.bind_some]
  exact if_neg Bool.false_ne_true
theorem impl_far2 (a0 : ByteArray) (hA : ∀ n : Nat, 1 ≤ n → n ≤ 5 → ¬ a0.data.toList = sA ++ [dg n]) : Ev (fun k => (impl_countIn.f a0 (⟨#[106, 117, 115, 116]⟩ : ByteArray) 0 5).bind fun bt251 => (if bt251.2 = true then ((impl_counting.f k bt251.1 (wrap64 (bt251.1 + 2))).bind fun bt253 => (some (bt253.1, bt253.2.1, bt253.2.2, true))) else (some (([] : List Int), ([] : List Int), ([] : List Int), false)))) (byDigit a0.data.toList [0, 1, 2, 3, 4, 5]) := by
  rcases countIn_eq a0 (⟨#[106, 117, 115, 116]⟩ : ByteArray) 0 5 with ⟨x', hx', hn'⟩ | ⟨n, hx', hn1, hn2, hn3, hn'⟩ | hbad | hbad
  · have e (k : Nat) := bind_false hx' (fun x => (impl_counting.f k x (wrap64 (x + 2))).bind fun bt253 => (some (bt253.1, bt253.2.1, bt253.2.2, true))) (some (([] : List Int), ([] : List Int), ([] : List Int), false))
    simp only [e]
    rw [wordJ] at hn'
    rw [byDigit_no _ _ (by decide) hA (fun n e2 => hn' n (by omega) (by omega) (by omega))]
    exact Ev.now _
  · have e (k : Nat) := bind_true hx' (fun x => (impl_counting.f k x (wrap64 (x + 2))).bind fun bt253 => (some (bt253.1, bt253.2.1, bt253.2.2, true))) (fun _ => some (([] : List Int), ([] : List Int), ([] : List Int), false))
    simp only [e]
    rw [wordJ] at hn'
    exact far_J a0 n (by omega) hn'
  · exact absurd hbad (by decide)
  · exact absurd hbad (by decide)
theorem impl_far (a0 : ByteArray) : Ev (fun k => (impl_countIn.f a0 (⟨#[97, 116, 108, 101, 97, 115, 116]⟩ : ByteArray) 1 5).bind fun bt240 => (if bt240.2 = true then ((impl_counting.f k bt240.1 (wrap64 (bt240.1 + 1))).bind fun bt242 => (some (bt242.1, bt242.2.1, bt242.2.2, true))) else ((impl_countIn.f a0 (⟨#[106, 117, 115, 116]⟩ : ByteArray) 0 5).bind fun bt251 => (if bt251.2 = true then ((impl_counting.f k bt251.1 (wrap64 (bt251.1 + 2))).bind fun bt253 => (some (bt253.1, bt253.2.1, bt253.2.2, true))) else (some (([] : List Int), ([] : List Int), ([] : List Int), false)))))) (byDigit a0.data.toList [0, 1, 2, 3, 4, 5]) := by
  rcases countIn_eq a0 (⟨#[97, 116, 108, 101, 97, 115, 116]⟩ : ByteArray) 1 5 with ⟨x, hx, hn⟩ | ⟨n, hx, hn1, hn2, hn3, hn⟩ | hbad | hbad
  · have e (k : Nat) := bind_false hx (fun x => (impl_counting.f k x (wrap64 (x + 1))).bind fun bt242 => (some (bt242.1, bt242.2.1, bt242.2.2, true))) ((impl_countIn.f a0 (⟨#[106, 117, 115, 116]⟩ : ByteArray) 0 5).bind fun bt251 => (if bt251.2 = true then ((impl_counting.f k bt251.1 (wrap64 (bt251.1 + 2))).bind fun bt253 => (some (bt253.1, bt253.2.1, bt253.2.2, true))) else (some (([] : List Int), ([] : List Int), ([] : List Int), false))))
    simp only [e]
    rw [wordA] at hn
    exact impl_far2 a0 (fun n e1 e2 => hn n (by omega) (by omega) (by omega))
  · have e (k : Nat) := bind_true hx (fun x => (impl_counting.f k x (wrap64 (x + 1))).bind fun bt242 => (some (bt242.1, bt242.2.1, bt242.2.2, true))) (fun _ => (impl_countIn.f a0 (⟨#[106, 117, 115, 116]⟩ : ByteArray) 0 5).bind fun bt251 => (if bt251.2 = true then ((impl_counting.f k bt251.1 (wrap64 (bt251.1 + 2))).bind fun bt253 => (some (bt253.1, bt253.2.1, bt253.2.2, true))) else (some (([] : List Int), ([] : List Int), ([] : List Int), false))))
    simp only [e]
    rw [wordA] at hn
    exact far_A a0 n (by omega) (by omega) hn
  · exact absurd hbad (by decide)
  · exact absurd hbad (by decide)
theorem impl_cnt12 : Ev (fun k => (impl_counting.f k 1 2).bind fun bt222 => (some (bt222.1, bt222.2.1, bt222.2.2, true))) (cntM 2 [0, 1]) := Ev.bind (ev_one (fun k => impl_counting.mono _ _ k) (k := 20) (x := ([0, 1], [1, 1], [0, 1])) (by kernel_rfl)) (Ev.now _)
theorem impl_cnt02 : Ev (fun k => (impl_counting.f k 0 2).bind fun bt222 => (some (bt222.1, bt222.2.1, bt222.2.2, true))) (cntM 2 [1, 0]) := Ev.bind (ev_one (fun k => impl_counting.mono _ _ k) (k := 20) (x := ([0, 1], [1, 1], [1, 0])) (by kernel_rfl)) (Ev.now _)
theorem impl_NamedMachine_eq (a0 : ByteArray) : Ev (fun k => impl_NamedMachine.f k a0) (namedM a0.data.toList) := by
  unfold impl_NamedMachine.f namedM
  simp only [nm_data a0]
  rw [show ([101, 118, 101, 114, 121] : List UInt8) = sE from rfl, show ([115, 111, 109, 101] : List UInt8) = sS from rfl, show ([110, 111] : List UInt8) = sN from rfl, show ([101, 118, 101, 110] : List UInt8) = sV from rfl]
  by_cases h1 : a0.data.toList = sE
  · simp only [if_pos h1]; exact Ev.now _
  · simp only [if_neg h1]
    by_cases h4 : a0.data.toList = sV
    · have h2 : ¬ a0.data.toList = sS := by rw [h4]; decide
      have h3 : ¬ a0.data.toList = sN := by rw [h4]; decide
      simp only [if_pos h4, if_neg h2, if_neg h3]
      exact Ev.now _
    · simp only [if_neg h4]
      by_cases h2 : a0.data.toList = sS
      · simp only [if_pos h2]; exact impl_cnt12
      · simp only [if_neg h2]
        by_cases h3 : a0.data.toList = sN
        · simp only [if_pos h3]; exact impl_cnt02
        · simp only [if_neg h3]
          exact impl_far a0

end Go.Proofs.Ytgaapfldimokpaa.Sem
