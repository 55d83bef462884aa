/- The machines of names, in plain words: the program's own answer; no condition. -/
import Derived.Test.YtiplbleghaoehaaSemNamed
import Derived.Test.YtiplbleghaoehaaPAx6
import Derived.Test.YtiplbleghaoehaaPAx5
namespace Go.Proofs.Ytiplbleghaoehaa.Sem
open Go.RowKit Go.Proofs.Ytiplbleghaoehaa.PA Go.Proofs.YtiplbleghaoehaaW.PrintWords Go.Proofs.YtiplbleghaoehaaW.PrintLast Go.Proofs.YtiplbleghaoehaaW.PrintMore
set_option linter.unusedVariables false
set_option linter.unusedSimpArgs false

/-- A name's number, if it is one of a word. -/
theorem countIn_eq (a0 w : ByteArray) (lo hi : Int) : (∃ x, impl_countIn.f a0 w lo hi = some (x, false) ∧ ∀ n : Nat, lo ≤ n → n ≤ hi → n ≤ 9 → ¬ a0.data.toList = w.data.toList ++ [dg n]) ∨
    (∃ n : Nat, impl_countIn.f a0 w lo hi = some ((n : Int), true) ∧ lo ≤ n ∧ n ≤ hi ∧ n ≤ 9 ∧ a0.data.toList = w.data.toList ++ [dg n]) ∨ hi > 9 ∨ lo < 0 := by
  by_cases hh : hi > 9
  · exact .inr (.inr (.inl hh))
  by_cases hl : lo < 0
  · exact .inr (.inr (.inr hl))
  have sz (b : ByteArray) : b.size = b.data.toList.length := by rw [Array.length_toList]; rfl
  unfold impl_countIn.f strings_CutPrefix.f stringslite_CutPrefix.f stringslite_HasPrefix.f
  by_cases h1 : (a0.size : Int) ≥ (w.size : Int)
  · rw [if_pos h1, if_pos (by omega), if_pos (by omega)]
    simp only [Option.bind_some, Int.toNat_natCast]
    have hx : (a0.extract 0 w.size).toList = a0.data.toList.take w.size := by rw [nm_data, ByteArray.data_extract, Array.toList_extract, List.extract_eq_take_drop, List.drop_zero, Nat.sub_zero]
    by_cases h2 : a0.data.toList.take w.size = w.data.toList
    · rw [hx, nm_data w, h2, beq_self_eq_true, if_pos rfl, if_pos (by omega), if_pos (by omega)]
      simp only [Option.bind_some, if_true]
      have hr : (a0.extract w.size a0.size).data.toList = a0.data.toList.drop w.size := by rw [ByteArray.data_extract, Array.toList_extract, List.extract_eq_take_drop]; exact List.take_of_length_le (by rw [List.length_drop, ← sz]; omega)
      have ha := List.take_append_drop w.size a0.data.toList
      rw [h2] at ha
      by_cases h3 : ((a0.extract w.size a0.size).size : Int) = 1
      · rw [if_pos h3, if_pos (by omega)]
        obtain ⟨b, hb⟩ : ∃ b, a0.data.toList.drop w.size = [b] := by
          have : (a0.data.toList.drop w.size).length = 1 := by rw [← hr, ← sz]; omega
          match a0.data.toList.drop w.size, this with
          | [b], _ => exact ⟨b, rfl⟩
        have hbt : bt (a0.extract w.size a0.size) 0 = (b.toNat : Int) := by
          unfold bt
          have hlt : (0 : Int).toNat < (a0.extract w.size a0.size).size := by rw [show (0 : Int).toNat = 0 from rfl]; omega
          rw [dif_pos hlt]
          have : (a0.extract w.size a0.size).data.toList[0]? = some b := by rw [hr, hb]; rfl
          have e2 : (a0.extract w.size a0.size)[(0 : Int).toNat]'hlt = b := by
            have e3 := (List.getElem?_eq_some_iff.1 this).2
            rw [Array.getElem_toList] at e3
            exact e3
          rw [e2]
        rw [hbt]
        have hb255 : b.toNat < 256 := UInt8.toNat_lt b
        have hw1 : wrap64 (b.toNat : Int) = b.toNat := by unfold wrap64; omega
        have hw2 : wrap64 ((b.toNat : Int) - 48) = b.toNat - 48 := by unfold wrap64; omega
        rw [hw1, hw2]
        have key (n : Nat) (hn : n ≤ 9) : a0.data.toList = w.data.toList ++ [dg n] ↔ (b.toNat : Int) - 48 = n := by
          rw [← ha, hb, List.append_cancel_left_eq]
          simp only [List.cons.injEq, and_true]
          constructor
          · rintro rfl
            unfold dg
            rw [UInt8.toNat_ofNat']
            omega
          · intro e
            apply UInt8.toNat_inj.1
            unfold dg
            rw [UInt8.toNat_ofNat']
            omega
        by_cases h4 : (b.toNat : Int) - 48 ≥ lo
        · rw [if_pos h4]
          by_cases h5 : (b.toNat : Int) - 48 ≤ hi
          · refine .inr (.inl ⟨b.toNat - 48, ?_, by omega, by omega, by omega, (key _ (by omega)).2 (by omega)⟩)
            rw [decide_eq_true h5, show (((b.toNat - 48 : Nat) : Int)) = (b.toNat : Int) - 48 by omega]
          · refine .inl ⟨_, by rw [decide_eq_false h5], fun n e1 e2 e3 e4 => ?_⟩
            have := (key n e3).1 e4
            omega
        · rw [if_neg h4]
          refine .inl ⟨_, rfl, fun n e1 e2 e3 e4 => ?_⟩
          have := (key n e3).1 e4
          omega
      · rw [if_neg h3]
        refine .inl ⟨_, rfl, fun n e1 e2 e3 e4 => h3 ?_⟩
        have e5 := congrArg List.length e4
        rw [← sz, List.length_append, ← sz, List.length_singleton] at e5
        rw [ByteArray.size_extract]
        omega
    · have hn : ((a0.extract 0 w.size).toList == w.toList) = false := by rw [hx, nm_data w]; exact beq_eq_false_iff_ne.2 h2
      rw [hn]
      simp only [Bool.false_eq_true, if_false, Option.bind_some]
      refine .inl ⟨_, rfl, fun n e1 e2 e3 e4 => h2 ?_⟩
      rw [e4, List.take_append_of_le_length (by rw [← sz]; omega), sz, List.take_length]
  · rw [if_neg h1]
    simp only [Option.bind_some, Bool.false_eq_true, if_false]
    refine .inl ⟨_, rfl, fun n e1 e2 e3 e4 => h1 ?_⟩
    have e5 := congrArg List.length e4
    rw [← sz, List.length_append, ← sz, List.length_singleton] at e5
    omega

theorem lits3 : ((List.range 6).all fun n : Nat => decide (impl_counting.f 20 (n : Int) (wrap64 ((n : Int) + 1)) = some ((cntM (n + 1) (List.replicate n 0 ++ [1])).1, (cntM (n + 1) (List.replicate n 0 ++ [1])).2.1, List.replicate n 0 ++ [1]))) = true := by kernel_rfl
theorem counting_lit (n : Nat) (h : n ≤ 5) : impl_counting.f 20 (n : Int) (wrap64 ((n : Int) + 1)) = some ((cntM (n + 1) (List.replicate n 0 ++ [1])).1, (cntM (n + 1) (List.replicate n 0 ++ [1])).2.1, List.replicate n 0 ++ [1]) := of_decide_eq_true (List.all_eq_true.1 lits3 n (List.mem_range.2 (by omega)))
theorem lits4 : ((List.range 6).all fun n : Nat => decide (impl_counting.f 20 (n : Int) (wrap64 ((n : Int) + 2)) = some ((cntM (n + 2) (List.replicate n 0 ++ [1, 0])).1, (cntM (n + 2) (List.replicate n 0 ++ [1, 0])).2.1, List.replicate n 0 ++ [1, 0]))) = true := by kernel_rfl
theorem counting_lit2 (n : Nat) (h : n ≤ 5) : impl_counting.f 20 (n : Int) (wrap64 ((n : Int) + 2)) = some ((cntM (n + 2) (List.replicate n 0 ++ [1, 0])).1, (cntM (n + 2) (List.replicate n 0 ++ [1, 0])).2.1, List.replicate n 0 ++ [1, 0]) := of_decide_eq_true (List.all_eq_true.1 lits4 n (List.mem_range.2 (by omega)))
theorem lits5 : ((List.range 6).all fun n : Nat => decide (n = 0) || decide (byDigit (sA ++ [dg n]) [0, 1, 2, 3, 4, 5] = cntM (n + 1) (List.replicate n 0 ++ [1]))) = true := by kernel_rfl
theorem byDigit_A (n : Nat) (h0 : 1 ≤ n) (h : n ≤ 5) : byDigit (sA ++ [dg n]) [0, 1, 2, 3, 4, 5] = cntM (n + 1) (List.replicate n 0 ++ [1]) := by
  have := List.all_eq_true.1 lits5 n (List.mem_range.2 (by omega))
  rw [decide_eq_false (show ¬ n = 0 by omega), Bool.false_or] at this
  exact of_decide_eq_true this
theorem lits6 : ((List.range 6).all fun n : Nat => decide (byDigit (sJ ++ [dg n]) [0, 1, 2, 3, 4, 5] = cntM (n + 2) (List.replicate n 0 ++ [1, 0]))) = true := by kernel_rfl
theorem byDigit_J (n : Nat) (h : n ≤ 5) : byDigit (sJ ++ [dg n]) [0, 1, 2, 3, 4, 5] = cntM (n + 2) (List.replicate n 0 ++ [1, 0]) := of_decide_eq_true (List.all_eq_true.1 lits6 n (List.mem_range.2 (by omega)))
theorem byDigit_no (l : List UInt8) : ∀ r : List Nat, (∀ n ∈ r, n ≤ 5) → (∀ n : Nat, 1 ≤ n → n ≤ 5 → ¬ l = sA ++ [dg n]) → (∀ n : Nat, n ≤ 5 → ¬ l = sJ ++ [dg n]) → byDigit l r = ([], [], [], false)
  | [], _, _, _ => rfl
  | n :: r, h, h1, h2 => by
    unfold byDigit
    rw [if_neg (fun x => h1 n x.2 (h n (List.mem_cons_self)) x.1), if_neg (h2 n (h n List.mem_cons_self))]
    exact byDigit_no l r (fun m hm => h m (List.mem_cons_of_mem _ hm)) h1 h2

theorem wordA : (⟨#[97, 116, 108, 101, 97, 115, 116]⟩ : ByteArray).data.toList = sA := rfl
theorem wordJ : (⟨#[106, 117, 115, 116]⟩ : ByteArray).data.toList = sJ := rfl
theorem far_J (a0 : ByteArray) (n : Nat) (hn2 : n ≤ 5) (hn' : a0.data.toList = sJ ++ [dg n]) : Ev (fun k => ((impl_counting.f k (n : Int) (wrap64 ((n : Int) + 2))).bind fun bt253 => (some (bt253.1, bt253.2.1, bt253.2.2, true)))) (byDigit a0.data.toList [0, 1, 2, 3, 4, 5]) := by
  rw [hn', byDigit_J n hn2]
  exact Ev.bind (ev_one (fun k => impl_counting.mono _ _ k) (counting_lit2 n hn2)) (Ev.now _)
theorem far_A (a0 : ByteArray) (n : Nat) (hn1 : 1 ≤ n) (hn2 : n ≤ 5) (hn' : a0.data.toList = sA ++ [dg n]) : Ev (fun k => ((impl_counting.f k (n : Int) (wrap64 ((n : Int) + 1))).bind fun bt253 => (some (bt253.1, bt253.2.1, bt253.2.2, true)))) (byDigit a0.data.toList [0, 1, 2, 3, 4, 5]) := by
  rw [hn', byDigit_A n hn1 hn2]
  exact Ev.bind (ev_one (fun k => impl_counting.mono _ _ k) (counting_lit n hn2)) (Ev.now _)
theorem bind_true {α : Type} {o : Option (Int × Bool)} {n : Int} (h : o = some (n, true)) (f : Int → Option α) (g : Int × Bool → Option α) : (o.bind fun b => if b.2 = true then f b.1 else g b) = f n := by
  subst h
  rw [Option.bind_some]
  exact if_pos rfl
theorem bind_false {α : Type} {o : Option (Int × Bool)} {n : Int} (h : o = some (n, false)) (f : Int → Option α) (g : Option α) : (o.bind fun b => if b.2 = true then f b.1 else g) = g := by
  subst h
  rw [Option.bind_some]
  exact if_neg Bool.false_ne_true
theorem impl_far2 (a0 : ByteArray) (hA : ∀ n : Nat, 1 ≤ n → n ≤ 5 → ¬ a0.data.toList = sA ++ [dg n]) : Ev (fun k => (impl_countIn.f a0 (⟨#[106, 117, 115, 116]⟩ : ByteArray) 0 5).bind fun bt251 => (if bt251.2 = true then ((impl_counting.f k bt251.1 (wrap64 (bt251.1 + 2))).bind fun bt253 => (some (bt253.1, bt253.2.1, bt253.2.2, true))) else (some (([] : List Int), ([] : List Int), ([] : List Int), false)))) (byDigit a0.data.toList [0, 1, 2, 3, 4, 5]) := by
  rcases countIn_eq a0 (⟨#[106, 117, 115, 116]⟩ : ByteArray) 0 5 with ⟨x', hx', hn'⟩ | ⟨n, hx', hn1, hn2, hn3, hn'⟩ | hbad | hbad
  · have e (k : Nat) := bind_false hx' (fun x => (impl_counting.f k x (wrap64 (x + 2))).bind fun bt253 => (some (bt253.1, bt253.2.1, bt253.2.2, true))) (some (([] : List Int), ([] : List Int), ([] : List Int), false))
    simp only [e]
    rw [wordJ] at hn'
    rw [byDigit_no _ _ (by decide) hA (fun n e2 => hn' n (by omega) (by omega) (by omega))]
    exact Ev.now _
  · have e (k : Nat) := bind_true hx' (fun x => (impl_counting.f k x (wrap64 (x + 2))).bind fun bt253 => (some (bt253.1, bt253.2.1, bt253.2.2, true))) (fun _ => some (([] : List Int), ([] : List Int), ([] : List Int), false))
    simp only [e]
    rw [wordJ] at hn'
    exact far_J a0 n (by omega) hn'
  · exact absurd hbad (by decide)
  · exact absurd hbad (by decide)
theorem impl_far (a0 : ByteArray) : Ev (fun k => (impl_countIn.f a0 (⟨#[97, 116, 108, 101, 97, 115, 116]⟩ : ByteArray) 1 5).bind fun bt240 => (if bt240.2 = true then ((impl_counting.f k bt240.1 (wrap64 (bt240.1 + 1))).bind fun bt242 => (some (bt242.1, bt242.2.1, bt242.2.2, true))) else ((impl_countIn.f a0 (⟨#[106, 117, 115, 116]⟩ : ByteArray) 0 5).bind fun bt251 => (if bt251.2 = true then ((impl_counting.f k bt251.1 (wrap64 (bt251.1 + 2))).bind fun bt253 => (some (bt253.1, bt253.2.1, bt253.2.2, true))) else (some (([] : List Int), ([] : List Int), ([] : List Int), false)))))) (byDigit a0.data.toList [0, 1, 2, 3, 4, 5]) := by
  rcases countIn_eq a0 (⟨#[97, 116, 108, 101, 97, 115, 116]⟩ : ByteArray) 1 5 with ⟨x, hx, hn⟩ | ⟨n, hx, hn1, hn2, hn3, hn⟩ | hbad | hbad
  · have e (k : Nat) := bind_false hx (fun x => (impl_counting.f k x (wrap64 (x + 1))).bind fun bt242 => (some (bt242.1, bt242.2.1, bt242.2.2, true))) ((impl_countIn.f a0 (⟨#[106, 117, 115, 116]⟩ : ByteArray) 0 5).bind fun bt251 => (if bt251.2 = true then ((impl_counting.f k bt251.1 (wrap64 (bt251.1 + 2))).bind fun bt253 => (some (bt253.1, bt253.2.1, bt253.2.2, true))) else (some (([] : List Int), ([] : List Int), ([] : List Int), false))))
    simp only [e]
    rw [wordA] at hn
    exact impl_far2 a0 (fun n e1 e2 => hn n (by omega) (by omega) (by omega))
  · have e (k : Nat) := bind_true hx (fun x => (impl_counting.f k x (wrap64 (x + 1))).bind fun bt242 => (some (bt242.1, bt242.2.1, bt242.2.2, true))) (fun _ => (impl_countIn.f a0 (⟨#[106, 117, 115, 116]⟩ : ByteArray) 0 5).bind fun bt251 => (if bt251.2 = true then ((impl_counting.f k bt251.1 (wrap64 (bt251.1 + 2))).bind fun bt253 => (some (bt253.1, bt253.2.1, bt253.2.2, true))) else (some (([] : List Int), ([] : List Int), ([] : List Int), false))))
    simp only [e]
    rw [wordA] at hn
    exact far_A a0 n (by omega) (by omega) hn
  · exact absurd hbad (by decide)
  · exact absurd hbad (by decide)
theorem impl_cnt12 : Ev (fun k => (impl_counting.f k 1 2).bind fun bt222 => (some (bt222.1, bt222.2.1, bt222.2.2, true))) (cntM 2 [0, 1]) := Ev.bind (ev_one (fun k => impl_counting.mono _ _ k) (k := 20) (x := ([0, 1], [1, 1], [0, 1])) (by kernel_rfl)) (Ev.now _)
theorem impl_cnt02 : Ev (fun k => (impl_counting.f k 0 2).bind fun bt222 => (some (bt222.1, bt222.2.1, bt222.2.2, true))) (cntM 2 [1, 0]) := Ev.bind (ev_one (fun k => impl_counting.mono _ _ k) (k := 20) (x := ([0, 1], [1, 1], [1, 0])) (by kernel_rfl)) (Ev.now _)
theorem impl_NamedMachine_eq (a0 : ByteArray) : Ev (fun k => impl_NamedMachine.f k a0) (namedM a0.data.toList) := by
  unfold impl_NamedMachine.f namedM
  simp only [nm_data a0]
  rw [show ([101, 118, 101, 114, 121] : List UInt8) = sE from rfl, show ([115, 111, 109, 101] : List UInt8) = sS from rfl, show ([110, 111] : List UInt8) = sN from rfl, show ([101, 118, 101, 110] : List UInt8) = sV from rfl]
  by_cases h1 : a0.data.toList = sE
  · simp only [if_pos h1]; exact Ev.now _
  · simp only [if_neg h1]
    by_cases h4 : a0.data.toList = sV
    · have h2 : ¬ a0.data.toList = sS := by rw [h4]; decide
      have h3 : ¬ a0.data.toList = sN := by rw [h4]; decide
      simp only [if_pos h4, if_neg h2, if_neg h3]
      exact Ev.now _
    · simp only [if_neg h4]
      by_cases h2 : a0.data.toList = sS
      · simp only [if_pos h2]; exact impl_cnt12
      · simp only [if_neg h2]
        by_cases h3 : a0.data.toList = sN
        · simp only [if_pos h3]; exact impl_cnt02
        · simp only [if_neg h3]
          exact impl_far a0

end Go.Proofs.Ytiplbleghaoehaa.Sem
