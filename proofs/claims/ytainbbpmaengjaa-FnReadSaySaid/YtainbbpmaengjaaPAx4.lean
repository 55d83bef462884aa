/- The machine side of functions of this seat, written by the session's program myprint.py: for each Go function a Lean function and the proof that the call answers just it. -/
import Derived.Test.YtainbbpmaengjaaPAx0
namespace Go.Proofs.Ytainbbpmaengjaa.PA
open Go.RowKit Go.Proofs.YtainbbpmaengjaaW.PrintWords Go.Proofs.YtainbbpmaengjaaW.PrintLast Go.Proofs.YtainbbpmaengjaaW.PrintMore
attribute [local go_sem] max2_int min2_int max_two min_two max_three min_three max_four min_four   -- for this text's walks alone
set_option linter.unusedVariables false
set_option linter.unusedSimpArgs false

/-! ### spec_l5Term: function 51 -/
def spec_l5Term.f (a0 : Int) : Option (ByteArray) := (some (([(⟨#[]⟩ : ByteArray), (⟨#[110, 111, 110, 45]⟩ : ByteArray)] : List ByteArray) : List ByteArray)).bind fun y121 => (if 0 ≤ (Int.tmod a0 2) then (if (Int.tmod a0 2) < (y121.length : Int) then ((some (([(⟨#[97]⟩ : ByteArray), (⟨#[98]⟩ : ByteArray), (⟨#[99]⟩ : ByteArray)] : List ByteArray) : List ByteArray)).bind fun y125 => (if 0 ≤ (wrap64 (Int.tdiv a0 2)) then (if (wrap64 (Int.tdiv a0 2)) < (y125.length : Int) then (if (rdOf ByteArray.empty y121 (Int.tmod a0 2)).size + (rdOf ByteArray.empty y125 (wrap64 (Int.tdiv a0 2))).size ≤ 9223372036854775807 then (some ((rdOf ByteArray.empty y121 (Int.tmod a0 2)) ++ (rdOf ByteArray.empty y125 (wrap64 (Int.tdiv a0 2))))) else (none)) else (none)) else (none))) else (none)) else (none))
def spec_l5Term.T1 : Bool × List (List Nat × List Nat) := (true, [([], []), ([], []), ([1], [1]), ([0, 2], [0, 2]), ([3], [3]), ([], []), ([], []), ([6], [6]), ([5, 7], [5, 7]), ([8], [8]), ([4, 9], [4, 9]), ([10, 0, 1, 2, 3, 4, 5, 6, 7, 8, 9, 10], [10])])
def spec_l5Term.B1 : List Nat := [0, 0, 2, 7, 15, 0, 0, 64, 224, 480, 1023, 2047]
theorem spec_l5Term.tab1 : rtab .any (opsOf Try.f51 1) = spec_l5Term.T1 := by kernel_rfl
theorem spec_l5Term.bits1 : waitsOk spec_l5Term.T1.2 spec_l5Term.B1 = true := by kernel_rfl
set_option maxHeartbeats 8000000 in
set_option maxRecDepth 100000 in
theorem spec_l5Term.calls (a0 : Int) (r : ByteArray) (w : World) (h : spec_l5Term.f a0 = some r) :
    Calls Try.prog 51 #[.int .i64 a0] w fun e w' => e = .returned (.string r) ∧ Below w.heap.size w w' := by
  have HB := Aside0.mk (Below.refl w.heap.size w)
  have H : ((some (([(⟨#[]⟩ : ByteArray), (⟨#[110, 111, 110, 45]⟩ : ByteArray)] : List ByteArray) : List ByteArray)).bind fun y121 => (if 0 ≤ (Int.tmod a0 2) then (if (Int.tmod a0 2) < (y121.length : Int) then ((some (([(⟨#[97]⟩ : ByteArray), (⟨#[98]⟩ : ByteArray), (⟨#[99]⟩ : ByteArray)] : List ByteArray) : List ByteArray)).bind fun y125 => (if 0 ≤ (wrap64 (Int.tdiv a0 2)) then (if (wrap64 (Int.tdiv a0 2)) < (y125.length : Int) then (if (rdOf ByteArray.empty y121 (Int.tmod a0 2)).size + (rdOf ByteArray.empty y125 (wrap64 (Int.tdiv a0 2))).size ≤ 9223372036854775807 then (some ((rdOf ByteArray.empty y121 (Int.tmod a0 2)) ++ (rdOf ByteArray.empty y125 (wrap64 (Int.tdiv a0 2))))) else (none)) else (none)) else (none))) else (none)) else (none))) = some r := h; clear h
  obtain ⟨y121, hy121⟩ : ∃ y_ : List ByteArray, y_ = (([(⟨#[]⟩ : ByteArray), (⟨#[110, 111, 110, 45]⟩ : ByteArray)] : List ByteArray)) := ⟨_, rfl⟩
  replace H : (if 0 ≤ (Int.tmod a0 2) then (if (Int.tmod a0 2) < (y121.length : Int) then ((some (([(⟨#[97]⟩ : ByteArray), (⟨#[98]⟩ : ByteArray), (⟨#[99]⟩ : ByteArray)] : List ByteArray) : List ByteArray)).bind fun y125 => (if 0 ≤ (wrap64 (Int.tdiv a0 2)) then (if (wrap64 (Int.tdiv a0 2)) < (y125.length : Int) then (if (rdOf ByteArray.empty y121 (Int.tmod a0 2)).size + (rdOf ByteArray.empty y125 (wrap64 (Int.tdiv a0 2))).size ≤ 9223372036854775807 then (some ((rdOf ByteArray.empty y121 (Int.tmod a0 2)) ++ (rdOf ByteArray.empty y125 (wrap64 (Int.tdiv a0 2))))) else (none)) else (none)) else (none))) else (none)) else (none)) = some r := by first | (rw [hy121]; with_reducible exact H) | (have H2_ := (Option.bind_some _ _).symm.trans H; rw [hy121]; with_reducible exact H2_) | (have H2_ := (Option.bind_some _ _).symm.trans H; with_reducible exact H2_) | with_reducible exact H | (rw [hy121]; exact H) | exact H
  have Ny121 := Aside0.mk hy121; clear hy121
  obtain ⟨ji2, hji2⟩ : ∃ j_ : Int, (Int.tmod a0 2) = j_ := ⟨_, rfl⟩
  replace H : (if 0 ≤ (ji2) then (if (ji2) < (y121.length : Int) then ((some (([(⟨#[97]⟩ : ByteArray), (⟨#[98]⟩ : ByteArray), (⟨#[99]⟩ : ByteArray)] : List ByteArray) : List ByteArray)).bind fun y125 => (if 0 ≤ (wrap64 (Int.tdiv a0 2)) then (if (wrap64 (Int.tdiv a0 2)) < (y125.length : Int) then (if (rdOf ByteArray.empty y121 (ji2)).size + (rdOf ByteArray.empty y125 (wrap64 (Int.tdiv a0 2))).size ≤ 9223372036854775807 then (some ((rdOf ByteArray.empty y121 (ji2)) ++ (rdOf ByteArray.empty y125 (wrap64 (Int.tdiv a0 2))))) else (none)) else (none)) else (none))) else (none)) else (none)) = some r := by first | (rw [hji2] at H; exact H) | (simp only [hji2] at H ⊢; exact H)
  by_cases c3 : 0 ≤ (ji2)
  · rw [if_pos c3] at H
    have c3b0 : decide (0 ≤ (ji2)) = true := decide_eq_true c3; clear c3
    by_cases c4 : (ji2) < (y121.length : Int)
    · rw [if_pos c4] at H
      have c4b0 : decide ((ji2) < (y121.length : Int)) = true := decide_eq_true c4; clear c4
      obtain ⟨y125, hy125⟩ : ∃ y_ : List ByteArray, y_ = (([(⟨#[97]⟩ : ByteArray), (⟨#[98]⟩ : ByteArray), (⟨#[99]⟩ : ByteArray)] : List ByteArray)) := ⟨_, rfl⟩
      replace H : (if 0 ≤ (wrap64 (Int.tdiv a0 2)) then (if (wrap64 (Int.tdiv a0 2)) < (y125.length : Int) then (if (rdOf ByteArray.empty y121 (ji2)).size + (rdOf ByteArray.empty y125 (wrap64 (Int.tdiv a0 2))).size ≤ 9223372036854775807 then (some ((rdOf ByteArray.empty y121 (ji2)) ++ (rdOf ByteArray.empty y125 (wrap64 (Int.tdiv a0 2))))) else (none)) else (none)) else (none)) = some r := by first | (rw [hy125]; with_reducible exact H) | (have H2_ := (Option.bind_some _ _).symm.trans H; rw [hy125]; with_reducible exact H2_) | (have H2_ := (Option.bind_some _ _).symm.trans H; with_reducible exact H2_) | with_reducible exact H | (rw [hy125]; exact H) | exact H
      have Ny125 := Aside0.mk hy125; clear hy125
      obtain ⟨ji5, hji5⟩ : ∃ j_ : Int, (wrap64 (Int.tdiv a0 2)) = j_ := ⟨_, rfl⟩
      replace H : (if 0 ≤ (ji5) then (if (ji5) < (y125.length : Int) then (if (rdOf ByteArray.empty y121 (ji2)).size + (rdOf ByteArray.empty y125 (ji5)).size ≤ 9223372036854775807 then (some ((rdOf ByteArray.empty y121 (ji2)) ++ (rdOf ByteArray.empty y125 (ji5)))) else (none)) else (none)) else (none)) = some r := by first | (rw [hji5] at H; exact H) | (simp only [hji5] at H ⊢; exact H)
      have hji5w : (IntKind.i64.wrap (Int.tdiv a0 2)) = ji5 := (i64_w _).trans hji5
      by_cases c6 : 0 ≤ (ji5)
      · rw [if_pos c6] at H
        have c6b0 : decide (0 ≤ (ji5)) = true := decide_eq_true c6; clear c6
        by_cases c7 : (ji5) < (y125.length : Int)
        · rw [if_pos c7] at H
          have c7b0 : decide ((ji5) < (y125.length : Int)) = true := decide_eq_true c7; clear c7
          by_cases c8 : (rdOf ByteArray.empty y121 (ji2)).size + (rdOf ByteArray.empty y125 (ji5)).size ≤ 9223372036854775807
          · rw [if_pos c8] at H
            have c8b0 := eq_true c8
            have c8b1 : decide ((rdOf ByteArray.empty y121 (ji2)).size + (rdOf ByteArray.empty y125 (ji5)).size ≤ 9223372036854775807) = true := decide_eq_true c8
            try have c8b2 : (9223372036854775807 < (rdOf ByteArray.empty y121 (ji2)).size + (rdOf ByteArray.empty y125 (ji5)).size) = False := eq_false (Nat.not_lt.2 c8)
            have zl0 : (⟨#[110, 111, 110, 45]⟩ : ByteArray).size = 4 := rfl
            have zl1 : (⟨#[97]⟩ : ByteArray).size = 1 := rfl
            have zl2 : (⟨#[98]⟩ : ByteArray).size = 1 := rfl
            have zl3 : (⟨#[99]⟩ : ByteArray).size = 1 := rfl
            have zl4 : (⟨#[]⟩ : ByteArray).size = 0 := rfl; have c8n := c8
            (try simp only [ByteArray.size_append, zl0, zl1, zl2, zl3, zl4, Nat.reduceAdd] at c8n)
            (try have c8n0 := eq_true c8n)
            (try have c8n1 := decide_eq_true c8n)
            (try have c8n2 := eq_false (Nat.not_lt.2 c8n)); clear zl0 zl1 zl2 zl3 zl4
            obtain rfl := Option.some.inj H
            go_enter Try.func51, Try.ntmps51
            try go_wp2
            have pi124 : (0 ≤ ((ji2) : Int)) = True := eq_true (of_decide_eq_true (by first | (with_reducible assumption) | assumption))
            have qi124 : ((ji2) < (y121.length : Int)) = True := eq_true (of_decide_eq_true (by first | (with_reducible assumption) | assumption))
            have pi128 : (0 ≤ ((ji5) : Int)) = True := eq_true (of_decide_eq_true (by first | (with_reducible assumption) | assumption))
            have qi128 : ((ji5) < (y125.length : Int)) = True := eq_true (of_decide_eq_true (by first | (with_reducible assumption) | assumption)); have n0_ := Aside0.mk (below_drew1 HB.out); clear HB; have HB := n0_; clear n0_
            refine start_ (n := 12) (S := fun w' => True) (ds := []) #[false, false, false, false, false, false, false, false, false, false, false, false] (by kernel_rfl) rfl rfl trivial (fun hHeld => ?_); refine with_tabW spec_l5Term.tab1 spec_l5Term.bits1 (fun HT_ HW_ => ?_)
            generalize w.drew = w9 at HB hHeld ⊢
            refine pure_ (i := 1) (N := some 4) (v := ?_) (a' := ?_) #[false, true, false, false, false, false, false, false, false, false, false, false] rfl rfl (any_of HT_.out (by kernel_rfl)) (fun _ _ _ h => h) (Or.inl ⟨by rfl, ?_⟩) ?_ ?_; rotate_left
            · intro w'
              go_simp
              with_reducible rfl
            rotate_left
            · simp only [Act.put, List.setIfInBounds_toArray, List.set_cons_zero, List.set_cons_succ, i64_w, i32_w]
              rfl
            refine pure_ (i := 6) (N := some 9) (v := ?_) (a' := ?_) #[false, true, false, false, false, false, true, false, false, false, false, false] rfl rfl (any_of HT_.out (by kernel_rfl)) (fun _ _ _ h => h) (Or.inl ⟨by rfl, ?_⟩) ?_ ?_; rotate_left
            · intro w'
              go_simp
              with_reducible rfl
            rotate_left
            · simp only [Act.put, List.setIfInBounds_toArray, List.set_cons_zero, List.set_cons_succ, i64_w, i32_w]
              rfl
            refine inv_at [0, 2, 3, 4, 5, 7, 8, 9, 10, 11] (fun a0_ b a w' => ∃ (v122 : Value) (adz_v122 : Addr) (v126 : Value) (adz_v126 : Addr) (m3_ : Value) (m8_ : Value), a = putSel a0_ b [(0, 3, v122), (2, 5, .int .i64 ji2), (3, 6, m3_), (4, 7, .string (rdOf ByteArray.empty y121 (ji2))), (5, 8, v126), (7, 10, .int .i64 ji5), (8, 11, m8_), (9, 12, .string (rdOf ByteArray.empty y125 (ji5))), (10, 13, .string ((rdOf ByteArray.empty y121 (ji2)) ++ (rdOf ByteArray.empty y125 (ji5)))), (11, 2, .string ((rdOf ByteArray.empty y121 (ji2)) ++ (rdOf ByteArray.empty y125 (ji5))))] ∧ (Below w.heap.size w w') ∧ (b 0 = true → Kd.R Kd.string 9 w' w.heap.size (fun _ => True) v122 y121) ∧ (b 0 = true → ∃ c_, (v122 : Value) = .slice (some adz_v122) y121.length c_) ∧ (b 5 = true → Kd.R Kd.string 9 w' w.heap.size (fun _ => True) v126 y125) ∧ (b 5 = true → ∃ c_, (v126 : Value) = .slice (some adz_v126) y125.length c_) ∧ (b 3 = true → (m3_ : Value) = .pointer (some (adz_v122.add ((ji2)).toNat))) ∧ (b 8 = true → (m8_ : Value) = .pointer (some (adz_v126.add ((ji5)).toNat)))) HT_.out HW_.out (by kernel_rfl) (by kernel_rfl) ?_ ?_ ?_
            · exact ⟨.bool false, ⟨0, 0, none⟩, .bool false, ⟨0, 0, none⟩, .bool false, .bool false, by simp only [putSel, Bool.false_eq_true, if_false], HB.out, fun h_ => absurd h_ (by decide), fun h_ => absurd h_ (by decide), fun h_ => absurd h_ (by decide), fun h_ => absurd h_ (by decide), fun h_ => absurd h_ (by decide), fun h_ => absurd h_ (by decide)⟩
            · skip; clear HB
              refine steps_cons ?_ ?_
              · rintro b a w' ⟨v122, adz_v122, v126, adz_v126, m3_, m8_, ha, Q_HB, Q_HO123, Q_HA_HO123, Q_HO127, Q_HA_HO127, Q_X3_, Q_X8_⟩ hb_ hon hoff
                refine ⟨_, rfl, fun K hK => ?_⟩
                replace ha := Aside0.mk ha
                have HB := Aside0.mk Q_HB
                refine Kd.R_lit_step Kd.string _ 9 ?hg (N := 3) ?hd (xs := ([(⟨#[]⟩ : ByteArray), (⟨#[110, 111, 110, 45]⟩ : ByteArray)] : List ByteArray)) (inner := [.string (⟨#[]⟩ : ByteArray), .string (⟨#[110, 111, 110, 45]⟩ : ByteArray)]) (ok := fun _ => True) (okp := fun _ => True) ?hr ?hp (fun _ hk => hk) trivial (Below.refl _ _) (Nat.le_refl _) (by simp) ?_; (case hd => rfl); (case hg => rfl); (case hr => first | (go_simp; done) | (go_simp; rfl)); (case hp => exact (Reps.one (show Kd.M Kd.string _ _ _ (⟨#[]⟩ : ByteArray) [.string (⟨#[]⟩ : ByteArray)] from rfl) (Reps.one (show Kd.M Kd.string _ _ _ (⟨#[110, 111, 110, 45]⟩ : ByteArray) [.string (⟨#[110, 111, 110, 45]⟩ : ByteArray)] from rfl) (Reps.none _ _)))); intro v122 w10 ho11 hb hg_ hnew_; clear hg_ hnew_
                (first | rw [← Ny121.out] at ho11 | (simp only [Int.reduceToNat] at ho11; rw [← Ny121.out] at ho11)); have n0_ := Aside0.mk (Kd.R_lower ho11 (below_size (by repeat (first | (with_reducible first | exact HB.out | apply below_alloc | apply pw_below_drewN | apply below_drew1) | exact HB.out)))); have n1_ := Aside0.mk (below_step (by repeat (first | (with_reducible first | exact HB.out | apply below_alloc | apply pw_below_drewN | apply below_drew1) | exact HB.out)) hb)
                have z_HO127 := fun (h0_ : b 5 = true) => (show Kd.R Kd.string 9 w10 w.heap.size (fun _ => True) v126 y125 from by first | exact (Kd.R_elder' (by (with_reducible repeat (first | apply Kd.R_alloc | apply Kd.R_drewN | apply Kd.R_drew)); exact (Q_HO127 h0_)) (Kd.R_base ho11) hb) | exact Kd.R_mono (Kd.R_elder' (by (with_reducible repeat (first | apply Kd.R_alloc | apply Kd.R_drewN | apply Kd.R_drew)); exact (Q_HO127 h0_)) (Kd.R_base ho11) hb) (fun _ h_ => by first | trivial | exact h_ | exact h_.1))
                clear HB; have HO123 := n0_; have HB := n1_; clear n0_ n1_ hb ho11
                obtain ⟨Ao12, co12, eo12⟩ := Kd.R_slice HO123.out; subst eo12
                obtain ⟨ado12, fo12, _⟩ := Kd.at_string (Kd.R_reads' HO123.out).2.2 0 (by decide) (by rw [Ny121.out]; simp)
                cases fo12
                refine hK.out _ _ ⟨.slice (some ado12) y121.length co12, ado12, v126, adz_v126, m3_, m8_, (by rw [ha.out]; exact putSel_upk 0 hb_ rfl rfl rfl), (by repeat (first | (with_reducible first | exact HB.out | apply below_alloc | apply pw_below_drewN | apply below_drew1) | exact HB.out)), fun _ => (by (with_reducible repeat (first | apply Kd.R_alloc | apply Kd.R_drewN | apply Kd.R_drew)); exact HO123.out), fun _ => ⟨_, rfl⟩, z_HO127, Q_HA_HO127, fun h0_ => absurd ((hoff 3 (by kernel_rfl)).symm.trans h0_) (by decide), Q_X8_⟩
              refine steps_cons ?_ ?_
              · rintro b a w' ⟨v122, adz_v122, v126, adz_v126, m3_, m8_, ha, Q_HB, Q_HO123, Q_HA_HO123, Q_HO127, Q_HA_HO127, Q_X3_, Q_X8_⟩ hb_ hon hoff
                refine ⟨_, rfl, fun K hK => ?_⟩
                have e4 : a.tmps[4]? = some (.int .i64 a0) := by rw [ha]; exact (putSel_off rfl).trans rfl
                replace ha := Aside0.mk ha
                have HB := Aside0.mk Q_HB
                refine value_ (w1 := w') (v := .int .i64 ji2) (by rfl) rfl ?_ ?_
                · go_simp
                  (try simp only [i64_w])
                  try rfl
                  all_goals (have zl0 : (⟨#[110, 111, 110, 45]⟩ : ByteArray).size = 4 := rfl; have zl1 : (⟨#[97]⟩ : ByteArray).size = 1 := rfl; have zl2 : (⟨#[98]⟩ : ByteArray).size = 1 := rfl; have zl3 : (⟨#[99]⟩ : ByteArray).size = 1 := rfl; have zl4 : (⟨#[]⟩ : ByteArray).size = 0 := rfl; (try simp only [ByteArray.size_append, ByteArray.size_extract, zl0, zl1, zl2, zl3, zl4] at c8); (try simp only [ByteArray.size_append, ByteArray.size_extract, zl0, zl1, zl2, zl3, zl4]); omega)
                refine hK.out _ _ ⟨v122, adz_v122, v126, adz_v126, m3_, m8_, (by rw [ha.out]; exact putSel_upk 1 hb_ rfl rfl rfl), Q_HB, Q_HO123, Q_HA_HO123, Q_HO127, Q_HA_HO127, fun h0_ => absurd ((hoff 3 (by kernel_rfl)).symm.trans h0_) (by decide), Q_X8_⟩
              refine steps_cons ?_ ?_
              · rintro b a w' ⟨v122, adz_v122, v126, adz_v126, m3_, m8_, ha, Q_HB, Q_HO123, Q_HA_HO123, Q_HO127, Q_HA_HO127, Q_X3_, Q_X8_⟩ hb_ hon hoff
                refine ⟨_, rfl, fun K hK => ?_⟩
                have e3 : a.tmps[3]? = some (v122) := by rw [ha]; exact putSel_on (e := (0, 3, v122)) 0 rfl rfl (hon 0 (by kernel_rfl)) rfl
                have e5 : a.tmps[5]? = some (.int .i64 ji2) := by rw [ha]; exact putSel_on (e := (2, 5, .int .i64 ji2)) 1 rfl rfl (hon 2 (by kernel_rfl)) rfl
                replace ha := Aside0.mk ha
                have HB := Aside0.mk Q_HB; have HO123 := Aside0.mk (Q_HO123 (hon 0 (by kernel_rfl))); have HA_HO123 := Aside0.mk (Q_HA_HO123 (hon 0 (by kernel_rfl)))
                obtain ⟨c_, hv_⟩ := HA_HO123.out
                rw [hv_] at e3
                refine value_ (w1 := w') (v := .pointer (some (adz_v122.add ((ji2)).toNat))) (by rfl) rfl ?_ ?_
                · go_simp
                  (try simp only [i64_w])
                  try rfl
                  all_goals (have zl0 : (⟨#[110, 111, 110, 45]⟩ : ByteArray).size = 4 := rfl; have zl1 : (⟨#[97]⟩ : ByteArray).size = 1 := rfl; have zl2 : (⟨#[98]⟩ : ByteArray).size = 1 := rfl; have zl3 : (⟨#[99]⟩ : ByteArray).size = 1 := rfl; have zl4 : (⟨#[]⟩ : ByteArray).size = 0 := rfl; (try simp only [ByteArray.size_append, ByteArray.size_extract, zl0, zl1, zl2, zl3, zl4] at c8); (try simp only [ByteArray.size_append, ByteArray.size_extract, zl0, zl1, zl2, zl3, zl4]); omega)
                refine hK.out _ _ ⟨v122, adz_v122, v126, adz_v126, (.pointer (some (adz_v122.add ((ji2)).toNat))), m8_, (by rw [ha.out]; exact putSel_upk 2 hb_ rfl rfl rfl), Q_HB, Q_HO123, Q_HA_HO123, Q_HO127, Q_HA_HO127, fun _ => rfl, Q_X8_⟩
              refine steps_cons ?_ ?_
              · rintro b a w' ⟨v122, adz_v122, v126, adz_v126, m3_, m8_, ha, Q_HB, Q_HO123, Q_HA_HO123, Q_HO127, Q_HA_HO127, Q_X3_, Q_X8_⟩ hb_ hon hoff
                refine ⟨_, rfl, fun K hK => ?_⟩
                have e6 : a.tmps[6]? = some (m3_) := by rw [ha]; exact putSel_on (e := (3, 6, m3_)) 2 rfl rfl (hon 3 (by kernel_rfl)) rfl
                rw [Q_X3_ (hon 3 (by kernel_rfl))] at e6
                replace ha := Aside0.mk ha
                have HB := Aside0.mk Q_HB; have HO123 := Aside0.mk (Q_HO123 (hon 0 (by kernel_rfl))); have HA_HO123 := Aside0.mk (Q_HA_HO123 (hon 0 (by kernel_rfl)))
                obtain ⟨c_, hv_⟩ := HA_HO123.out; have hF_ := HO123.out
                rw [hv_] at hF_
                obtain ⟨ad_, ea_, hx_⟩ := Kd.at_string (Kd.R_reads' hF_).2.2 (ji2) (of_eq_true pi124) (of_eq_true qi124)
                cases ea_
                refine value_ (w1 := w') (v := .string (rdOf ByteArray.empty y121 (ji2))) (by rfl) rfl ?_ ?_
                · go_simp
                  (try simp only [i64_w])
                  try rfl
                  all_goals (have zl0 : (⟨#[110, 111, 110, 45]⟩ : ByteArray).size = 4 := rfl; have zl1 : (⟨#[97]⟩ : ByteArray).size = 1 := rfl; have zl2 : (⟨#[98]⟩ : ByteArray).size = 1 := rfl; have zl3 : (⟨#[99]⟩ : ByteArray).size = 1 := rfl; have zl4 : (⟨#[]⟩ : ByteArray).size = 0 := rfl; (try simp only [ByteArray.size_append, ByteArray.size_extract, zl0, zl1, zl2, zl3, zl4] at c8); (try simp only [ByteArray.size_append, ByteArray.size_extract, zl0, zl1, zl2, zl3, zl4]); omega)
                refine hK.out _ _ ⟨v122, adz_v122, v126, adz_v126, m3_, m8_, (by rw [ha.out]; exact putSel_upk 3 hb_ rfl rfl rfl), Q_HB, Q_HO123, Q_HA_HO123, Q_HO127, Q_HA_HO127, Q_X3_, Q_X8_⟩
              refine steps_cons ?_ ?_
              · rintro b a w' ⟨v122, adz_v122, v126, adz_v126, m3_, m8_, ha, Q_HB, Q_HO123, Q_HA_HO123, Q_HO127, Q_HA_HO127, Q_X3_, Q_X8_⟩ hb_ hon hoff
                refine ⟨_, rfl, fun K hK => ?_⟩
                replace ha := Aside0.mk ha
                have HB := Aside0.mk Q_HB
                refine Kd.R_lit_step Kd.string _ 9 ?hg (N := 8) ?hd (xs := ([(⟨#[97]⟩ : ByteArray), (⟨#[98]⟩ : ByteArray), (⟨#[99]⟩ : ByteArray)] : List ByteArray)) (inner := [.string (⟨#[97]⟩ : ByteArray), .string (⟨#[98]⟩ : ByteArray), .string (⟨#[99]⟩ : ByteArray)]) (ok := fun _ => True) (okp := fun _ => True) ?hr ?hp (fun _ hk => hk) trivial (Below.refl _ _) (Nat.le_refl _) (by simp) ?_; (case hd => rfl); (case hg => rfl); (case hr => first | (go_simp; done) | (go_simp; rfl)); (case hp => exact (Reps.one (show Kd.M Kd.string _ _ _ (⟨#[97]⟩ : ByteArray) [.string (⟨#[97]⟩ : ByteArray)] from rfl) (Reps.one (show Kd.M Kd.string _ _ _ (⟨#[98]⟩ : ByteArray) [.string (⟨#[98]⟩ : ByteArray)] from rfl) (Reps.one (show Kd.M Kd.string _ _ _ (⟨#[99]⟩ : ByteArray) [.string (⟨#[99]⟩ : ByteArray)] from rfl) (Reps.none _ _))))); intro v126 w10 ho11 hb hg_ hnew_; clear hg_ hnew_
                (first | rw [← Ny125.out] at ho11 | (simp only [Int.reduceToNat] at ho11; rw [← Ny125.out] at ho11)); have n0_ := Aside0.mk (Kd.R_lower ho11 (below_size (by repeat (first | (with_reducible first | exact HB.out | apply below_alloc | apply pw_below_drewN | apply below_drew1) | exact HB.out)))); have n1_ := Aside0.mk (below_step (by repeat (first | (with_reducible first | exact HB.out | apply below_alloc | apply pw_below_drewN | apply below_drew1) | exact HB.out)) hb)
                have z_HO123 := fun (h0_ : b 0 = true) => (show Kd.R Kd.string 9 w10 w.heap.size (fun _ => True) v122 y121 from by first | exact (Kd.R_elder' (by (with_reducible repeat (first | apply Kd.R_alloc | apply Kd.R_drewN | apply Kd.R_drew)); exact (Q_HO123 h0_)) (Kd.R_base ho11) hb) | exact Kd.R_mono (Kd.R_elder' (by (with_reducible repeat (first | apply Kd.R_alloc | apply Kd.R_drewN | apply Kd.R_drew)); exact (Q_HO123 h0_)) (Kd.R_base ho11) hb) (fun _ h_ => by first | trivial | exact h_ | exact h_.1))
                clear HB; have HO127 := n0_; have HB := n1_; clear n0_ n1_ hb ho11
                obtain ⟨Ao12, co12, eo12⟩ := Kd.R_slice HO127.out; subst eo12
                obtain ⟨ado12, fo12, _⟩ := Kd.at_string (Kd.R_reads' HO127.out).2.2 0 (by decide) (by rw [Ny125.out]; simp)
                cases fo12
                refine hK.out _ _ ⟨v122, adz_v122, .slice (some ado12) y125.length co12, ado12, m3_, m8_, (by rw [ha.out]; exact putSel_upk 4 hb_ rfl rfl rfl), (by repeat (first | (with_reducible first | exact HB.out | apply below_alloc | apply pw_below_drewN | apply below_drew1) | exact HB.out)), z_HO123, Q_HA_HO123, fun _ => (by (with_reducible repeat (first | apply Kd.R_alloc | apply Kd.R_drewN | apply Kd.R_drew)); exact HO127.out), fun _ => ⟨_, rfl⟩, Q_X3_, fun h0_ => absurd ((hoff 8 (by kernel_rfl)).symm.trans h0_) (by decide)⟩
              refine steps_cons ?_ ?_
              · rintro b a w' ⟨v122, adz_v122, v126, adz_v126, m3_, m8_, ha, Q_HB, Q_HO123, Q_HA_HO123, Q_HO127, Q_HA_HO127, Q_X3_, Q_X8_⟩ hb_ hon hoff
                refine ⟨_, rfl, fun K hK => ?_⟩
                have e9 : a.tmps[9]? = some (.int .i64 a0) := by rw [ha]; exact (putSel_off rfl).trans rfl
                replace ha := Aside0.mk ha
                have HB := Aside0.mk Q_HB
                refine value_ (w1 := w') (v := .int .i64 ji5) (by rfl) rfl ?_ ?_
                · go_simp
                  (try simp only [i64_w])
                  try rfl
                  all_goals (have zl0 : (⟨#[110, 111, 110, 45]⟩ : ByteArray).size = 4 := rfl; have zl1 : (⟨#[97]⟩ : ByteArray).size = 1 := rfl; have zl2 : (⟨#[98]⟩ : ByteArray).size = 1 := rfl; have zl3 : (⟨#[99]⟩ : ByteArray).size = 1 := rfl; have zl4 : (⟨#[]⟩ : ByteArray).size = 0 := rfl; (try simp only [ByteArray.size_append, ByteArray.size_extract, zl0, zl1, zl2, zl3, zl4] at c8); (try simp only [ByteArray.size_append, ByteArray.size_extract, zl0, zl1, zl2, zl3, zl4]); omega)
                refine hK.out _ _ ⟨v122, adz_v122, v126, adz_v126, m3_, m8_, (by rw [ha.out]; exact putSel_upk 5 hb_ rfl rfl rfl), Q_HB, Q_HO123, Q_HA_HO123, Q_HO127, Q_HA_HO127, Q_X3_, fun h0_ => absurd ((hoff 8 (by kernel_rfl)).symm.trans h0_) (by decide)⟩
              refine steps_cons ?_ ?_
              · rintro b a w' ⟨v122, adz_v122, v126, adz_v126, m3_, m8_, ha, Q_HB, Q_HO123, Q_HA_HO123, Q_HO127, Q_HA_HO127, Q_X3_, Q_X8_⟩ hb_ hon hoff
                refine ⟨_, rfl, fun K hK => ?_⟩
                have e8 : a.tmps[8]? = some (v126) := by rw [ha]; exact putSel_on (e := (5, 8, v126)) 4 rfl rfl (hon 5 (by kernel_rfl)) rfl
                have e10 : a.tmps[10]? = some (.int .i64 ji5) := by rw [ha]; exact putSel_on (e := (7, 10, .int .i64 ji5)) 5 rfl rfl (hon 7 (by kernel_rfl)) rfl
                replace ha := Aside0.mk ha
                have HB := Aside0.mk Q_HB; have HO127 := Aside0.mk (Q_HO127 (hon 5 (by kernel_rfl))); have HA_HO127 := Aside0.mk (Q_HA_HO127 (hon 5 (by kernel_rfl)))
                obtain ⟨c_, hv_⟩ := HA_HO127.out
                rw [hv_] at e8
                refine value_ (w1 := w') (v := .pointer (some (adz_v126.add ((ji5)).toNat))) (by rfl) rfl ?_ ?_
                · go_simp
                  (try simp only [i64_w])
                  try rfl
                  all_goals (have zl0 : (⟨#[110, 111, 110, 45]⟩ : ByteArray).size = 4 := rfl; have zl1 : (⟨#[97]⟩ : ByteArray).size = 1 := rfl; have zl2 : (⟨#[98]⟩ : ByteArray).size = 1 := rfl; have zl3 : (⟨#[99]⟩ : ByteArray).size = 1 := rfl; have zl4 : (⟨#[]⟩ : ByteArray).size = 0 := rfl; (try simp only [ByteArray.size_append, ByteArray.size_extract, zl0, zl1, zl2, zl3, zl4] at c8); (try simp only [ByteArray.size_append, ByteArray.size_extract, zl0, zl1, zl2, zl3, zl4]); omega)
                refine hK.out _ _ ⟨v122, adz_v122, v126, adz_v126, m3_, (.pointer (some (adz_v126.add ((ji5)).toNat))), (by rw [ha.out]; exact putSel_upk 6 hb_ rfl rfl rfl), Q_HB, Q_HO123, Q_HA_HO123, Q_HO127, Q_HA_HO127, Q_X3_, fun _ => rfl⟩
              refine steps_cons ?_ ?_
              · rintro b a w' ⟨v122, adz_v122, v126, adz_v126, m3_, m8_, ha, Q_HB, Q_HO123, Q_HA_HO123, Q_HO127, Q_HA_HO127, Q_X3_, Q_X8_⟩ hb_ hon hoff
                refine ⟨_, rfl, fun K hK => ?_⟩
                have e11 : a.tmps[11]? = some (m8_) := by rw [ha]; exact putSel_on (e := (8, 11, m8_)) 6 rfl rfl (hon 8 (by kernel_rfl)) rfl
                rw [Q_X8_ (hon 8 (by kernel_rfl))] at e11
                replace ha := Aside0.mk ha
                have HB := Aside0.mk Q_HB; have HO127 := Aside0.mk (Q_HO127 (hon 5 (by kernel_rfl))); have HA_HO127 := Aside0.mk (Q_HA_HO127 (hon 5 (by kernel_rfl)))
                obtain ⟨c_, hv_⟩ := HA_HO127.out; have hF_ := HO127.out
                rw [hv_] at hF_
                obtain ⟨ad_, ea_, hx_⟩ := Kd.at_string (Kd.R_reads' hF_).2.2 (ji5) (of_eq_true pi128) (of_eq_true qi128)
                cases ea_
                refine value_ (w1 := w') (v := .string (rdOf ByteArray.empty y125 (ji5))) (by rfl) rfl ?_ ?_
                · go_simp
                  (try simp only [i64_w])
                  try rfl
                  all_goals (have zl0 : (⟨#[110, 111, 110, 45]⟩ : ByteArray).size = 4 := rfl; have zl1 : (⟨#[97]⟩ : ByteArray).size = 1 := rfl; have zl2 : (⟨#[98]⟩ : ByteArray).size = 1 := rfl; have zl3 : (⟨#[99]⟩ : ByteArray).size = 1 := rfl; have zl4 : (⟨#[]⟩ : ByteArray).size = 0 := rfl; (try simp only [ByteArray.size_append, ByteArray.size_extract, zl0, zl1, zl2, zl3, zl4] at c8); (try simp only [ByteArray.size_append, ByteArray.size_extract, zl0, zl1, zl2, zl3, zl4]); omega)
                refine hK.out _ _ ⟨v122, adz_v122, v126, adz_v126, m3_, m8_, (by rw [ha.out]; exact putSel_upk 7 hb_ rfl rfl rfl), Q_HB, Q_HO123, Q_HA_HO123, Q_HO127, Q_HA_HO127, Q_X3_, Q_X8_⟩
              refine steps_cons ?_ ?_
              · rintro b a w' ⟨v122, adz_v122, v126, adz_v126, m3_, m8_, ha, Q_HB, Q_HO123, Q_HA_HO123, Q_HO127, Q_HA_HO127, Q_X3_, Q_X8_⟩ hb_ hon hoff
                refine ⟨_, rfl, fun K hK => ?_⟩
                have e7 : a.tmps[7]? = some (.string (rdOf ByteArray.empty y121 (ji2))) := by rw [ha]; exact putSel_on (e := (4, 7, .string (rdOf ByteArray.empty y121 (ji2)))) 3 rfl rfl (hon 4 (by kernel_rfl)) rfl
                have e12 : a.tmps[12]? = some (.string (rdOf ByteArray.empty y125 (ji5))) := by rw [ha]; exact putSel_on (e := (9, 12, .string (rdOf ByteArray.empty y125 (ji5)))) 7 rfl rfl (hon 9 (by kernel_rfl)) rfl
                replace ha := Aside0.mk ha
                have HB := Aside0.mk Q_HB; have HO123 := Aside0.mk (Q_HO123 (hon 0 (by kernel_rfl))); have HA_HO123 := Aside0.mk (Q_HA_HO123 (hon 0 (by kernel_rfl))); have HO127 := Aside0.mk (Q_HO127 (hon 5 (by kernel_rfl))); have HA_HO127 := Aside0.mk (Q_HA_HO127 (hon 5 (by kernel_rfl)))
                refine value_ (w1 := w') (v := .string ((rdOf ByteArray.empty y121 (ji2)) ++ (rdOf ByteArray.empty y125 (ji5)))) (by rfl) rfl ?_ ?_
                · go_simp
                  (try simp only [i64_w])
                  try rfl
                  all_goals (have zl0 : (⟨#[110, 111, 110, 45]⟩ : ByteArray).size = 4 := rfl; have zl1 : (⟨#[97]⟩ : ByteArray).size = 1 := rfl; have zl2 : (⟨#[98]⟩ : ByteArray).size = 1 := rfl; have zl3 : (⟨#[99]⟩ : ByteArray).size = 1 := rfl; have zl4 : (⟨#[]⟩ : ByteArray).size = 0 := rfl; (try simp only [ByteArray.size_append, ByteArray.size_extract, zl0, zl1, zl2, zl3, zl4] at c8); (try simp only [ByteArray.size_append, ByteArray.size_extract, zl0, zl1, zl2, zl3, zl4]); omega)
                refine hK.out _ _ ⟨v122, adz_v122, v126, adz_v126, m3_, m8_, (by rw [ha.out]; exact putSel_upk 8 hb_ rfl rfl rfl), Q_HB, Q_HO123, Q_HA_HO123, Q_HO127, Q_HA_HO127, Q_X3_, Q_X8_⟩
              refine steps_cons ?_ ?_
              · rintro b a w' ⟨v122, adz_v122, v126, adz_v126, m3_, m8_, ha, Q_HB, Q_HO123, Q_HA_HO123, Q_HO127, Q_HA_HO127, Q_X3_, Q_X8_⟩ hb_ hon hoff
                refine ⟨_, rfl, fun K hK => ?_⟩
                have e13 : a.tmps[13]? = some (.string ((rdOf ByteArray.empty y121 (ji2)) ++ (rdOf ByteArray.empty y125 (ji5)))) := by rw [ha]; exact putSel_on (e := (10, 13, .string ((rdOf ByteArray.empty y121 (ji2)) ++ (rdOf ByteArray.empty y125 (ji5))))) 8 rfl rfl (hon 10 (by kernel_rfl)) rfl
                replace ha := Aside0.mk ha
                have HB := Aside0.mk Q_HB; have HO123 := Aside0.mk (Q_HO123 (hon 0 (by kernel_rfl))); have HA_HO123 := Aside0.mk (Q_HA_HO123 (hon 0 (by kernel_rfl))); have HO127 := Aside0.mk (Q_HO127 (hon 5 (by kernel_rfl))); have HA_HO127 := Aside0.mk (Q_HA_HO127 (hon 5 (by kernel_rfl)))
                refine value_ (w1 := w') (v := .string ((rdOf ByteArray.empty y121 (ji2)) ++ (rdOf ByteArray.empty y125 (ji5)))) (by rfl) rfl ?_ ?_
                · go_simp
                  (try simp only [i64_w])
                  try rfl
                  all_goals (have zl0 : (⟨#[110, 111, 110, 45]⟩ : ByteArray).size = 4 := rfl; have zl1 : (⟨#[97]⟩ : ByteArray).size = 1 := rfl; have zl2 : (⟨#[98]⟩ : ByteArray).size = 1 := rfl; have zl3 : (⟨#[99]⟩ : ByteArray).size = 1 := rfl; have zl4 : (⟨#[]⟩ : ByteArray).size = 0 := rfl; (try simp only [ByteArray.size_append, ByteArray.size_extract, zl0, zl1, zl2, zl3, zl4] at c8); (try simp only [ByteArray.size_append, ByteArray.size_extract, zl0, zl1, zl2, zl3, zl4]); omega)
                refine hK.out _ _ ⟨v122, adz_v122, v126, adz_v126, m3_, m8_, (by rw [ha.out]; exact putSel_upk 9 hb_ rfl rfl rfl), Q_HB, Q_HO123, Q_HA_HO123, Q_HO127, Q_HA_HO127, Q_X3_, Q_X8_⟩
              exact steps_nil
            rintro b a w16 hall ⟨v122, adz_v122, v126, adz_v126, m3_, m8_, ha, Q_HB, Q_HO123, Q_HA_HO123, Q_HO127, Q_HA_HO127, Q_X3_, Q_X8_⟩; clear HB
            have hb0_ := hall 0 (by kernel_rfl)
            have hb2_ := hall 2 (by kernel_rfl)
            have hb3_ := hall 3 (by kernel_rfl)
            have hb4_ := hall 4 (by kernel_rfl)
            have hb5_ := hall 5 (by kernel_rfl)
            have hb7_ := hall 7 (by kernel_rfl)
            have hb8_ := hall 8 (by kernel_rfl)
            have hb9_ := hall 9 (by kernel_rfl)
            have hb10_ := hall 10 (by kernel_rfl)
            have hb11_ := hall 11 (by kernel_rfl); subst ha
            obtain rfl := Q_X3_ hb3_
            obtain rfl := Q_X8_ hb8_
            simp only [putSel, hb0_, hb2_, hb3_, hb4_, hb5_, hb7_, hb8_, hb9_, hb10_, hb11_, if_true, Act.put, List.setIfInBounds_toArray, List.set_cons_zero, List.set_cons_succ]
            have HB := Aside0.mk Q_HB; clear Q_HB; have HO123 := Aside0.mk (Q_HO123 hb0_); clear Q_HO123; have HA_HO123 := Aside0.mk (Q_HA_HO123 hb0_); clear Q_HA_HO123; have HO127 := Aside0.mk (Q_HO127 hb5_); clear Q_HO127; have HA_HO127 := Aside0.mk (Q_HA_HO127 hb5_); clear Q_HA_HO127 hall hb0_ hb2_ hb3_ hb4_ hb5_ hb7_ hb8_ hb9_ hb10_ hb11_
            obtain ⟨co17, eo17⟩ := HA_HO123.out; clear HA_HO123; subst eo17
            obtain ⟨co18, eo18⟩ := HA_HO127.out; clear HA_HO127; subst eo18
            try go_wp2
            go_ret
            exact ⟨by first | rfl | (simp [errW_none, errW_some] <;> rfl) | (simp only [← hji2, ← hji5]; first | rfl | (simp [errW_none, errW_some] <;> rfl)) | (simp [*, errW_none, errW_some] <;> rfl), by repeat (first | (with_reducible first | exact HB.out | apply below_alloc | apply pw_below_drewN | apply below_drew1) | exact HB.out)⟩
          · rw [if_neg c8] at H
            exact absurd H (by simp)
        · rw [if_neg c7] at H
          exact absurd H (by simp)
      · rw [if_neg c6] at H
        exact absurd H (by simp)
    · rw [if_neg c4] at H
      exact absurd H (by simp)
  · rw [if_neg c3] at H
    exact absurd H (by simp)

end Go.Proofs.Ytainbbpmaengjaa.PA
