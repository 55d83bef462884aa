/- impl.lineOf: the row on which three rows are 0; no condition but the rows' lengths and a bound on the minors. -/
import Derived.Test.YtmbninbecclbiaaManMinor
namespace Go.Proofs.Ytmbninbecclbiaa.Man
open Go.RowKit Go.Proofs.Ytmbninbecclbiaa.PA Go.Proofs.YtmbninbecclbiaaW.PrintWords Go.Proofs.YtmbninbecclbiaaW.PrintLast Go.Proofs.YtmbninbecclbiaaW.PrintMore
set_option linter.unusedVariables false
set_option linter.unusedSimpArgs false
attribute [local go_sem] max2_int min2_int max_two min_two max_three min_three max_four min_four

/-- Signs alternate. -/
def sg (i : Nat) : Int := if i % 2 = 0 then 1 else -1
def ml (a b c : List Int) (i : Nat) : Int := minW (a.eraseIdx i) (b.eraseIdx i) (c.eraseIdx i)
def vl (m : Nat → Int) (i : Nat) : Int := sg i * m i
def pl (m : Nat → Int) (i : Nat) : List Int := (List.range i).map (vl m) ++ List.replicate (4 - i) 0
def gl (m : Nat → Int) : Nat → Nat
  | 0 => 0
  | i + 1 => Nat.gcd (gl m i) (vl m i).natAbs
/-- What lineOf answers. -/
def dl (m : Nat → Int) : Int := if Go.Lib.minOf (pl m 4) < 0 then -(gl m 4 : Int) else (gl m 4 : Int)
def ol (m : Nat → Int) : List Int := (pl m 4).map fun x => Int.tdiv x (dl m)
def lineL (m : Nat → Int) : List Int := if gl m 4 = 0 then [] else if Go.Lib.minOf (ol m) < 0 then [] else ol m

theorem pl_len (m : Nat → Int) (i : Nat) (h : i ≤ 4) : (pl m i).length = 4 := by unfold pl; simp; omega
theorem pl_set (m : Nat → Int) (i : Nat) (h : i < 4) : (pl m i).set i (vl m i) = pl m (i + 1) := by
  have e : i = 0 ∨ i = 1 ∨ i = 2 ∨ i = 3 := by omega
  rcases e with rfl | rfl | rfl | rfl <;> rfl
theorem pl_at (m : Nat → Int) (i : Nat) (h : i < 4) : rd (pl m (i + 1)) (i : Int) = vl m i := by
  have e : i = 0 ∨ i = 1 ∨ i = 2 ∨ i = 3 := by omega
  rcases e with rfl | rfl | rfl | rfl <;> rfl
theorem sg_two (i : Nat) : (sg i = 1 ∨ sg i = -1) ∧ sg (i + 1) = - sg i := by
  unfold sg
  by_cases h : i % 2 = 0
  · rw [if_pos h, if_neg (by omega)]; exact ⟨Or.inl rfl, rfl⟩
  · rw [if_neg h, if_pos (by omega)]; exact ⟨Or.inr rfl, rfl⟩
theorem vl_le {m : Nat → Int} {i : Nat} (h : -1000 ≤ m i ∧ m i ≤ 1000) : -1000 ≤ vl m i ∧ vl m i ≤ 1000 := by
  unfold vl
  rcases (sg_two i).1 with e | e <;> rw [e] <;> omega
theorem gl_le {m : Nat → Int} (h : ∀ i, i < 4 → -1000 ≤ m i ∧ m i ≤ 1000) : ∀ i, i ≤ 4 → gl m i ≤ 1000
  | 0, _ => by unfold gl; omega
  | i + 1, hi => by
    have h1 := vl_le (h i (by omega))
    have h2 := gl_le h i (by omega)
    show Nat.gcd (gl m i) (vl m i).natAbs ≤ 1000
    by_cases h0 : gl m i = 0
    · rw [h0, Nat.gcd_zero_left]; omega
    · have := Nat.gcd_le_left (vl m i).natAbs (Nat.pos_of_ne_zero h0); omega
def ql (m : Nat → Int) (j : Nat) : List Int := ((pl m 4).take j).map (fun x => Int.tdiv x (dl m)) ++ (pl m 4).drop j
theorem ql_all (m : Nat → Int) (j : Nat) (h : j < 4) : rd (ql m j) (j : Int) = vl m j ∧ (ql m j).set j (Int.tdiv (vl m j) (dl m)) = ql m (j + 1) := by
  have e : j = 0 ∨ j = 1 ∨ j = 2 ∨ j = 3 := by omega
  rcases e with rfl | rfl | rfl | rfl <;> exact ⟨rfl, rfl⟩
theorem ol_len (m : Nat → Int) : (ol m).length = 4 := rfl
/-- One step of Euclid's. -/
theorem gcd_step (p q : Int) : Int.gcd q (Int.tmod p q) = Int.gcd p q := by
  rw [Int.gcd_comm p q]
  unfold Int.gcd
  rw [Int.natAbs_tmod, Nat.gcd_comm q.natAbs (p.natAbs % q.natAbs), ← Nat.gcd_rec]

set_option maxHeartbeats 8000000 in
set_option maxRecDepth 100000 in
theorem lineOf (w : World) (A0 A1 A2 : Option Addr) (c0 c1 c2 : Nat) (a b c : List Int) (r0 : Kd.C (Kd.int .i64) w A0 a.length a) (r1 : Kd.C (Kd.int .i64) w A1 b.length b) (r2 : Kd.C (Kd.int .i64) w A2 c.length c) (la : a.length = 4) (lb : b.length = 4) (lc : c.length = 4) (hm : ∀ i, i < 4 → -1000 ≤ ml a b c i ∧ ml a b c i ≤ 1000) :
    Calls Try.prog 68 #[.agg #[.slice A0 a.length c0, .slice A1 b.length c1, .slice A2 c.length c2]] w fun e w' => ∃ v, e = .returned v ∧ Kd.R (Kd.int .i64) 3 w' w.heap.size (fun _ => True) v (lineL (ml a b c)) ∧ (lineL (ml a b c) = [] → v = .slice none 0 0) ∧ Below w.heap.size w w' := by
  have HM := Aside0.mk (fun (W : World) (hb : Below w.heap.size w W) (n : Nat) (x : Int) (hx : x = (n : Int)) (hn : n < 4) => minorOf W A0 A1 A2 c0 c1 c2 a b c n x hx hn (Kd.C_below r0 hb) (Kd.C_below r1 hb) (Kd.C_below r2 hb) la lb lc)
  have HX := Aside0.mk hm
  have HB0 := Aside0.mk (Below.refl w.heap.size w)
  obtain ⟨m, hmd⟩ : ∃ m, m = ml a b c := ⟨_, rfl⟩
  rw [← hmd] at HX ⊢
  have HD := Aside0.mk hmd
  clear r0 r1 r2 hm hmd la lb lc
  go_enter Try.func68, Try.ntmps68
  go_wp2_with (first | ((with_reducible refine gate_dst (N := 1) rfl ?_); refine box_event ?hg (N := 1) ?hd (cs := #[.slice A0 a.length c0, .slice A1 b.length c1, .slice A2 c.length c2]) (t := 75) ?hr ?_; (case hd => rfl); (case hg => rfl); (case hr => first | (go_simp; done) | (go_simp; rfl)); intro g1 hg1 wg1 hbox hb; have BK1 := Aside0.mk hbox; have HB1 := Aside0.mk (below_step HB0.out hb); clear hbox hb hg1) | ((with_reducible refine gate_dst (N := 10) rfl ?_); refine Kd.R_make (Kd.int .i64) _ 3 rfl (N := 10) rfl 35 _ _ rfl 4 rfl rfl Try.underlying35 (.int .i64 0) 8 info3 rfl (by decide) (by omega) 0 (ok := fun _ => True) (okp := fun _ => True) rfl (fun _ hk => hk) trivial (by omega) (by omega) (Below.refl _ _) (Nat.le_refl _) ?_; intro v10 w10 ho hb hg_ hnew_; clear hg_ hnew_; have RO0 := Aside0.mk (show Kd.R (Kd.int .i64) 3 w10 w.heap.size (fun _ => True) v10 (pl m 0) from Kd.R_lower ho (below_size HB1.out)); have BK10 := Aside0.mk (blk_below BK1.out hb); have HB10 := Aside0.mk (below_step HB1.out hb); obtain ⟨go_, co_, rfl, _⟩ := Kd.R_form RO0.out (by rw [pl_len m 0 (by omega)]; omega); clear ho hb))
  have e40 := pl_len m 0 (by omega)
  rw [e40] at RO0 ⊢
  go_loopg [4, 5, 13] 4 (fun kq v4 v5 v13 w' => ∃ (i : Nat) (x d s : Int), v13 = .int .i64 x ∧ v4 = .int .i64 d ∧ v5 = .int .i64 s ∧ Aside0 (x = (i : Int)) ∧ Aside0 (i + kq = 4) ∧ Aside0 (d = (gl m i : Int)) ∧ Aside0 (s = sg i) ∧ Aside0 (Kd.R (Kd.int .i64) 3 w' w.heap.size (fun _ => True) (.slice (some ⟨go_, 0, none⟩) 4 co_) (pl m i)) ∧ Aside0 (w'.heap[g1]? = some (.cells #[.slice A0 a.length c0, .slice A1 b.length c1, .slice A2 c.length c2] 75 (0, 0))) ∧ Aside0 (Below w.heap.size w w'))
  case atStart => exact ⟨0, 0, 0, 1, rfl, rfl, rfl, ⟨rfl⟩, ⟨rfl⟩, ⟨rfl⟩, ⟨rfl⟩, RO0, BK10, HB10⟩
  case round =>
    clear RO0 BK1 BK10 HB0 HB1 HB10 e40
    obtain ⟨i, x, d, s, rfl, rfl, rfl, HI, HK, HG, HS, RO, BK, HB⟩ := hrel
    cases gk with
    | zero =>
      have hx := HI.out
      obtain rfl : i = 4 := by have := HK.out; omega
      have xn : decide (x < 4) = false := decide_eq_false (by omega)
      have l4 := pl_len m 4 (by omega)
      have HMn := Aside0.mk (minR wr w.heap.size (fun _ => True) _ _ RO.out l4)
      obtain ⟨mn, hmn⟩ : ∃ mn, mn = Go.Lib.minOf (pl m 4) := ⟨_, rfl⟩
      rw [← hmn] at HMn
      have HN := Aside0.mk hmn
      have HGL := Aside0.mk (gl_le HX.out 4 (by omega))
      have HVB := Aside0.mk (show ∀ j, j < 4 → -1000 ≤ vl m j ∧ vl m j ≤ 1000 from fun j hj => vl_le (HX.out j hj))
      clear l4 hx hmn
      by_cases hd : d = 0
      · have d0 : (d == 0) = true := beq_iff_eq.2 hd
        have HL := Aside0.mk (show lineL m = [] by unfold lineL; rw [if_pos (by have := HG.out; omega)])
        clear hd
        go_wp2
        go_ret
        exact ⟨_, rfl, by rw [HL.out]; exact Kd.R_nil _ _ _ _ _, fun _ => rfl, HB.out⟩
      · have d0 : (d == 0) = false := beq_eq_false_iff_ne.2 hd
        have HDn := Aside0.mk (show (1 : Int) ≤ d ∧ d ≤ 1000 by have := HG.out; have := HGL.out; omega)
        have HLn := Aside0.mk (show gl m 4 ≠ 0 by have := HG.out; omega)
        clear hd
        by_cases h : mn < 0
        · skip
          have n0 : decide (mn < 0) = true := decide_eq_true h
          have hdn : wrap64 (-d) = -d := by have := HDn.out; unfold wrap64; omega
          have HDL := Aside0.mk (show dl m = wrap64 (-d) by unfold dl; rw [← HN.out, if_pos h, HG.out]; rw [← HG.out, hdn])
          have HDB := Aside0.mk (show wrap64 (-d) ≠ 0 ∧ -1000 ≤ wrap64 (-d) ∧ wrap64 (-d) ≤ 1000 by have := HDn.out; rw [hdn]; omega)
          clear h hdn
          go_wp2_with (first | (go_at_call 82; (with_reducible refine HMn.out.mono ?_); rintro e wq ⟨rfl, rfl⟩))
          generalize wrap64 (-d) = D at HDL HDB ⊢
          go_loopg [51] 4 (fun kq v51 w' => ∃ (j : Nat) (y : Int), v51 = .int .i64 y ∧ Aside0 (y = (j : Int)) ∧ Aside0 (j + kq = 4) ∧ Aside0 (Kd.R (Kd.int .i64) 3 w' w.heap.size (fun _ => True) (.slice (some ⟨go_, 0, none⟩) 4 co_) (ql m j)) ∧ Aside0 (Below w.heap.size w w'))
          case atStart => exact ⟨0, 0, rfl, ⟨rfl⟩, ⟨rfl⟩, RO, HB⟩
          case round =>
            clear RO HB BK HMn
            obtain ⟨j, y, rfl, HJ, HKJ, RO, HB⟩ := hrel
            cases gk with
            | zero =>
              have yn : decide (y < 4) = false := decide_eq_false (by have := HJ.out; have := HKJ.out; omega)
              have RO4 := Aside0.mk (show Kd.R (Kd.int .i64) 3 wr w.heap.size (fun _ => True) (.slice (some ⟨go_, 0, none⟩) 4 co_) (ol m) by rw [show j = 4 by have := HKJ.out; omega] at RO; exact RO.out)
              have HMo := Aside0.mk (minR wr w.heap.size (fun _ => True) _ _ RO4.out (ol_len m))
              obtain ⟨mo, hmo⟩ : ∃ mo, mo = Go.Lib.minOf (ol m) := ⟨_, rfl⟩
              rw [← hmo] at HMo
              by_cases h : mo < 0
              · have o0 : decide (mo < 0) = true := decide_eq_true h
                have HL := Aside0.mk (show lineL m = [] by unfold lineL; rw [if_neg HLn.out, ← hmo, if_pos h])
                clear h hmo
                go_wp2_with (first | (go_at_call 82; (with_reducible refine HMo.out.mono ?_); rintro e wq ⟨rfl, rfl⟩))
                go_ret
                exact ⟨_, rfl, by rw [HL.out]; exact Kd.R_nil _ _ _ _ _, fun _ => rfl, HB.out⟩
              · have o0 : decide (mo < 0) = false := decide_eq_false h
                have HL := Aside0.mk (show lineL m = ol m by unfold lineL; rw [if_neg HLn.out, ← hmo, if_neg h])
                clear h hmo
                go_wp2_with (first | (go_at_call 82; (with_reducible refine HMo.out.mono ?_); rintro e wq ⟨rfl, rfl⟩))
                go_ret
                exact ⟨_, rfl, by rw [HL.out]; exact RO4.out, fun e => absurd (congrArg List.length (HL.out.symm.trans e)) (by rw [ol_len]; decide), HB.out⟩
            | succ k1 =>
              have y0 : 0 ≤ y := by have := HJ.out; omega
              have y4 : y < 4 := by have := HJ.out; have := HKJ.out; omega
              have yn : decide (y < 4) = true := decide_eq_true y4
              have HJ1 := Aside0.mk (show y + 1 = ((j + 1 : Nat) : Int) by have := HJ.out; omega)
              have hj4 := Aside0.mk (show j < 4 by have := HKJ.out; omega)
              have G0 := Aside0.mk (Kd.R_base RO.out go_ rfl)
              obtain ⟨vj, hvj⟩ : ∃ vj, vj = vl m j := ⟨_, rfl⟩
              have HVJ := Aside0.mk hvj
              obtain ⟨hx5, hf5⟩ := Kd.R_celln 0 RO.out y y0 (by omega)
              rw [show rdOf 0 (ql m j) y = vj by rw [hvj, ← (ql_all m j hj4.out).1, HJ.out]; rfl] at hx5
              clear hvj
              have DZ : D ≠ 0 := HDB.out.1
              have DZ1 : (D == 0) = false := beq_eq_false_iff_ne.2 DZ
              have HWQ := Aside0.mk (show wrap64 (Int.tdiv vj D) = Int.tdiv (vl m j) (dl m) by
                rw [HDL.out, ← HVJ.out]
                have h1 := Int.natAbs_tdiv vj D
                have h2 := Nat.div_le_self vj.natAbs D.natAbs
                have h4 : (Int.tdiv vj D).natAbs ≤ vj.natAbs := by rw [h1]; exact h2
                have h3 := HVB.out j hj4.out
                clear h1 h2
                rw [← HVJ.out] at h3
                unfold wrap64
                omega)
              have HP5 := Kd.R_putg RO.out y (wrap64 (Int.tdiv vj D))
              go_wp2_with (first | ((with_reducible refine gate_store (t := 3) (p := 60) rfl ?_); refine store_event (t := 3) (p := 60) (v := ?voD) (w1 := (wr.setCell ⟨go_, y.toNat, none⟩ (.int .i64 (wrap64 (Int.tdiv vj D))))) ?hg ?ho ?hn ?hr ?_; (case ho => rfl); (case hg => rfl); (case hn => rfl); (case hr => first | (go_simp; done) | (go_simp; rfl)); intro w8 hw; have RO8 := Aside0.mk (show Kd.R (Kd.int .i64) 3 w8 w.heap.size (fun _ => True) (.slice (some ⟨go_, 0, none⟩) 4 co_) (ql m (j + 1)) by rw [hw, ← (ql_all m j hj4.out).2, ← HWQ.out]; have e := HP5.1; rw [show (ql m j).set y.toNat (wrap64 (Int.tdiv vj D)) = (ql m j).set j (wrap64 (Int.tdiv vj D)) by rw [show y.toNat = j by have := HJ.out; omega]] at e; exact e); have HB8 := Aside0.mk (show Below w.heap.size w w8 by rw [hw]; exact below_set HB.out G0.out); clear hw HP5))
              go_roundg k1
              case measure => have := HKJ.out; omega
              case rel => exact ⟨j + 1, y + 1, rfl, HJ1, ⟨by have := HKJ.out; omega⟩, RO8, HB8⟩
        · skip
          have n0 : decide (mn < 0) = false := decide_eq_false h
          have HDL := Aside0.mk (show dl m = d by unfold dl; rw [← HN.out, if_neg h, HG.out])
          have HDB := Aside0.mk (show d ≠ 0 ∧ -1000 ≤ d ∧ d ≤ 1000 by have := HDn.out; omega)
          clear h
          go_wp2_with (first | (go_at_call 82; (with_reducible refine HMn.out.mono ?_); rintro e wq ⟨rfl, rfl⟩))
          go_loopg [51] 4 (fun kq v51 w' => ∃ (j : Nat) (y : Int), v51 = .int .i64 y ∧ Aside0 (y = (j : Int)) ∧ Aside0 (j + kq = 4) ∧ Aside0 (Kd.R (Kd.int .i64) 3 w' w.heap.size (fun _ => True) (.slice (some ⟨go_, 0, none⟩) 4 co_) (ql m j)) ∧ Aside0 (Below w.heap.size w w'))
          case atStart => exact ⟨0, 0, rfl, ⟨rfl⟩, ⟨rfl⟩, RO, HB⟩
          case round =>
            clear RO HB BK HMn
            obtain ⟨j, y, rfl, HJ, HKJ, RO, HB⟩ := hrel
            cases gk with
            | zero =>
              have yn : decide (y < 4) = false := decide_eq_false (by have := HJ.out; have := HKJ.out; omega)
              have RO4 := Aside0.mk (show Kd.R (Kd.int .i64) 3 wr w.heap.size (fun _ => True) (.slice (some ⟨go_, 0, none⟩) 4 co_) (ol m) by rw [show j = 4 by have := HKJ.out; omega] at RO; exact RO.out)
              have HMo := Aside0.mk (minR wr w.heap.size (fun _ => True) _ _ RO4.out (ol_len m))
              obtain ⟨mo, hmo⟩ : ∃ mo, mo = Go.Lib.minOf (ol m) := ⟨_, rfl⟩
              rw [← hmo] at HMo
              by_cases h : mo < 0
              · have o0 : decide (mo < 0) = true := decide_eq_true h
                have HL := Aside0.mk (show lineL m = [] by unfold lineL; rw [if_neg HLn.out, ← hmo, if_pos h])
                clear h hmo
                go_wp2_with (first | (go_at_call 82; (with_reducible refine HMo.out.mono ?_); rintro e wq ⟨rfl, rfl⟩))
                go_ret
                exact ⟨_, rfl, by rw [HL.out]; exact Kd.R_nil _ _ _ _ _, fun _ => rfl, HB.out⟩
              · have o0 : decide (mo < 0) = false := decide_eq_false h
                have HL := Aside0.mk (show lineL m = ol m by unfold lineL; rw [if_neg HLn.out, ← hmo, if_neg h])
                clear h hmo
                go_wp2_with (first | (go_at_call 82; (with_reducible refine HMo.out.mono ?_); rintro e wq ⟨rfl, rfl⟩))
                go_ret
                exact ⟨_, rfl, by rw [HL.out]; exact RO4.out, fun e => absurd (congrArg List.length (HL.out.symm.trans e)) (by rw [ol_len]; decide), HB.out⟩
            | succ k1 =>
              have y0 : 0 ≤ y := by have := HJ.out; omega
              have y4 : y < 4 := by have := HJ.out; have := HKJ.out; omega
              have yn : decide (y < 4) = true := decide_eq_true y4
              have HJ1 := Aside0.mk (show y + 1 = ((j + 1 : Nat) : Int) by have := HJ.out; omega)
              have hj4 := Aside0.mk (show j < 4 by have := HKJ.out; omega)
              have G0 := Aside0.mk (Kd.R_base RO.out go_ rfl)
              obtain ⟨vj, hvj⟩ : ∃ vj, vj = vl m j := ⟨_, rfl⟩
              have HVJ := Aside0.mk hvj
              obtain ⟨hx5, hf5⟩ := Kd.R_celln 0 RO.out y y0 (by omega)
              rw [show rdOf 0 (ql m j) y = vj by rw [hvj, ← (ql_all m j hj4.out).1, HJ.out]; rfl] at hx5
              clear hvj
              have DZ : d ≠ 0 := HDB.out.1
              have DZ1 : (d == 0) = false := beq_eq_false_iff_ne.2 DZ
              have HWQ := Aside0.mk (show wrap64 (Int.tdiv vj d) = Int.tdiv (vl m j) (dl m) by
                rw [HDL.out, ← HVJ.out]
                have h1 := Int.natAbs_tdiv vj d
                have h2 := Nat.div_le_self vj.natAbs d.natAbs
                have h4 : (Int.tdiv vj d).natAbs ≤ vj.natAbs := by rw [h1]; exact h2
                have h3 := HVB.out j hj4.out
                clear h1 h2
                rw [← HVJ.out] at h3
                unfold wrap64
                omega)
              have HP5 := Kd.R_putg RO.out y (wrap64 (Int.tdiv vj d))
              go_wp2_with (first | ((with_reducible refine gate_store (t := 3) (p := 60) rfl ?_); refine store_event (t := 3) (p := 60) (v := ?vod) (w1 := (wr.setCell ⟨go_, y.toNat, none⟩ (.int .i64 (wrap64 (Int.tdiv vj d))))) ?hg ?ho ?hn ?hr ?_; (case ho => rfl); (case hg => rfl); (case hn => rfl); (case hr => first | (go_simp; done) | (go_simp; rfl)); intro w8 hw; have RO8 := Aside0.mk (show Kd.R (Kd.int .i64) 3 w8 w.heap.size (fun _ => True) (.slice (some ⟨go_, 0, none⟩) 4 co_) (ql m (j + 1)) by rw [hw, ← (ql_all m j hj4.out).2, ← HWQ.out]; have e := HP5.1; rw [show (ql m j).set y.toNat (wrap64 (Int.tdiv vj d)) = (ql m j).set j (wrap64 (Int.tdiv vj d)) by rw [show y.toNat = j by have := HJ.out; omega]] at e; exact e); have HB8 := Aside0.mk (show Below w.heap.size w w8 by rw [hw]; exact below_set HB.out G0.out); clear hw HP5))
              go_roundg k1
              case measure => have := HKJ.out; omega
              case rel => exact ⟨j + 1, y + 1, rfl, HJ1, ⟨by have := HKJ.out; omega⟩, RO8, HB8⟩
    | succ k1 =>
      have hx := HI.out
      have hk := HK.out
      have x0 : 0 ≤ x := by omega
      have x4 : x < 4 := by omega
      have xn : decide (x < 4) = true := decide_eq_true x4
      have HI1 := Aside0.mk (show x + 1 = ((i + 1 : Nat) : Int) by omega)
      have hi4 := Aside0.mk (show i < 4 by omega)
      have q0 : wr.cell? ⟨g1, 0, none⟩ = some (.slice A0 a.length c0) := (blk_cell BK.out 0).trans rfl
      have q1 : wr.cell? ⟨g1, 1, none⟩ = some (.slice A1 b.length c1) := (blk_cell BK.out 1).trans rfl
      have q2 : wr.cell? ⟨g1, 2, none⟩ = some (.slice A2 c.length c2) := (blk_cell BK.out 2).trans rfl
      obtain ⟨mi, hmi⟩ : ∃ mi, mi = m i := ⟨_, rfl⟩
      have HC := Aside0.mk (show Calls Try.prog 81 #[.agg #[.slice A0 a.length c0, .slice A1 b.length c1, .slice A2 c.length c2], .int .i64 x] wr fun e w' => e = .returned (.int .i64 mi) ∧ Below wr.heap.size wr w' by rw [hmi, HD.out]; exact HM.out wr HB.out i x hx hi4.out)
      have hb1 := HX.out i hi4.out
      have hv1 := vl_le hb1
      have HW1 := Aside0.mk (show wrap64 (s * mi) = vl m i by rw [HS.out, hmi]; show wrap64 (vl m i) = vl m i; unfold wrap64; omega)
      have HW2 := Aside0.mk (show wrap64 (-s) = sg (i + 1) by rw [HS.out, (sg_two i).2]; rcases (sg_two i).1 with e | e <;> rw [e] <;> (unfold wrap64; omega))
      obtain ⟨vi, hvi⟩ : ∃ vi, vi = wrap64 (s * mi) := ⟨_, rfl⟩
      have HV := Aside0.mk (show vi = vl m i by rw [hvi]; exact HW1.out)
      have HVW := Aside0.mk hvi
      have G0 := Aside0.mk (Kd.R_base RO.out go_ rfl)
      clear hx hk hmi hb1 hv1 hvi
      go_upto_region 8 with (first | (go_at_call 81; (with_reducible refine HC.out.mono ?_); rintro e w5 ⟨rfl, hb_⟩; have RO5 := Aside0.mk (Kd.R_below RO.out hb_); have BK5 := Aside0.mk (blk_below BK.out hb_); have HB5 := Aside0.mk (below_step HB.out hb_); obtain ⟨hx5, hf5⟩ := Kd.R_celln 0 RO5.out x x0 (by have := x4; omega); have HP5 := Kd.R_putg RO5.out x (wrap64 (s * mi)); clear hb_) | ((with_reducible refine gate_store (t := 3) (p := 23) rfl ?_); (refine store_event (t := 3) (p := 23) (v := ?vo) (w1 := (w5.setCell ⟨go_, x.toNat, none⟩ (.int .i64 (wrap64 (s * mi))))) ?hg ?ho ?hn ?hr ?_; (case ho => rfl); (case hg => rfl); (case hn => rfl); (case hr => first | (go_simp; done) | (go_simp; rfl)); intro w8 hw; have RO8 := Aside0.mk (show Kd.R (Kd.int .i64) 3 w8 w.heap.size (fun _ => True) (.slice (some ⟨go_, 0, none⟩) 4 co_) (pl m (i + 1)) by rw [hw, show pl m (i + 1) = (pl m i).set x.toNat (wrap64 (s * mi)) by rw [show x.toNat = i by have := HI.out; omega, HW1.out, pl_set m i hi4.out]]; exact HP5.1); have BK8 := Aside0.mk (show w8.heap[g1]? = some (.cells #[.slice A0 a.length c0, .slice A1 b.length c1, .slice A2 c.length c2] 75 (0, 0)) by rw [hw]; exact (Below.heap_setCell _ ⟨go_, x.toNat, none⟩ _ g1 (by have := Kd.R_ne RO5.out BK5.out (by decide); intro e; exact this (by rw [e]; rfl))).trans BK5.out); have HB8 := Aside0.mk (show Below w.heap.size w w8 by rw [hw]; exact below_set HB5.out G0.out); obtain ⟨hx8, hf8⟩ := Kd.R_celln 0 RO8.out x x0 (by have := x4; omega); rw [show rdOf 0 (pl m (i + 1)) x = vi by rw [HV.out, ← pl_at m i hi4.out, HI.out]; rfl] at hx8; clear hw HP5 hx5 hf5)))
      go_quiet (fail)
      go_wp2
      go_loopg [7, 8] 1000 (fun kq v7 v8 w' => ∃ p q : Int, v7 = .int .i64 p ∧ v8 = .int .i64 q ∧ Aside0 (Int.gcd p q = gl m (i + 1)) ∧ Aside0 (q.natAbs ≤ kq) ∧ Aside0 ((-1000 ≤ p ∧ p ≤ 1000) ∧ -1000 ≤ q ∧ q ≤ 1000) ∧ Aside0 (Kd.R (Kd.int .i64) 3 w' w.heap.size (fun _ => True) (.slice (some ⟨go_, 0, none⟩) 4 co_) (pl m (i + 1))) ∧ Aside0 (w'.heap[g1]? = some (.cells #[.slice A0 a.length c0, .slice A1 b.length c1, .slice A2 c.length c2] 75 (0, 0))) ∧ Aside0 (Below w.heap.size w w'))
      case atStart =>
        have hv1 := vl_le (HX.out i hi4.out)
        have hg1 := gl_le HX.out i (by have := hi4.out; omega)
        exact ⟨d, vi, rfl, rfl, ⟨by rw [HV.out, HG.out]; rfl⟩, ⟨by rw [HV.out]; omega⟩, ⟨by rw [HV.out, HG.out]; omega⟩, ⟨Kd.R_drewN RO8.out _⟩, ⟨blk_drewN BK8.out _⟩, ⟨pw_below_drewN HB8.out _⟩⟩
      case round =>
        clear RO8 BK8 HB8 hx8 hf8 HC HG HV HVW HW1
        obtain ⟨p, q, rfl, rfl, HGC, HQ, HPQ, RO8, BK8, HB8⟩ := hrel
        by_cases hq : q = 0
        · have hq0 : (q == 0) = true := beq_iff_eq.2 hq
          have hnp : wrap64 (-p) = -p := by have := HPQ.out; unfold wrap64; omega
          have hgc := HGC.out
          rw [hq, Int.gcd_zero_right] at hgc
          by_cases hp : p < 0
          · have t1 : p < -p := by omega
            have HGL := Aside0.mk (show -p = (gl m (i + 1) : Int) by omega)
            clear hq hp hgc
            go_wp2
            go_roundg k1
            case measure => have := HK.out; omega
            case rel => exact ⟨i + 1, x + 1, -p, wrap64 (-s), rfl, rfl, rfl, HI1, ⟨by have := HK.out; omega⟩, HGL, HW2, RO8, BK8, HB8⟩
          · have t1 : ¬ p < -p := by omega
            have HGL := Aside0.mk (show p = (gl m (i + 1) : Int) by omega)
            clear hq hp hgc
            go_wp2
            go_roundg k1
            case measure => have := HK.out; omega
            case rel => exact ⟨i + 1, x + 1, p, wrap64 (-s), rfl, rfl, rfl, HI1, ⟨by have := HK.out; omega⟩, HGL, HW2, RO8, BK8, HB8⟩
        · have hq0 : (q == 0) = false := beq_eq_false_iff_ne.2 hq
          obtain ⟨k2, rfl⟩ : ∃ k2, gk = k2 + 1 := ⟨gk - 1, by have := HQ.out; omega⟩
          have ht := Int.natAbs_tmod p q
          have hlt : (Int.tmod p q).natAbs < q.natAbs := by rw [ht]; exact Nat.mod_lt _ (by omega)
          have HT := Aside0.mk (show (Int.tmod p q).natAbs ≤ k2 by have := HQ.out; omega)
          have HT2 := Aside0.mk (show (-1000 ≤ q ∧ q ≤ 1000) ∧ -1000 ≤ Int.tmod p q ∧ Int.tmod p q ≤ 1000 by have := HPQ.out; omega)
          have HG2 := Aside0.mk (show Int.gcd q (Int.tmod p q) = gl m (i + 1) by rw [gcd_step]; exact HGC.out)
          obtain ⟨tm, htm⟩ : ∃ tm, tm = Int.tmod p q := ⟨_, rfl⟩
          have HTM := Aside0.mk htm
          rw [← htm] at HT HT2 HG2
          clear ht hlt htm
          go_upto_region 9 with (fail)
          go_quiet (fail)
          go_wp2
          go_roundg k2
          case measure => have := HQ.out; omega
          case rel => exact ⟨q, Int.tmod p q, rfl, rfl, ⟨by rw [← HTM.out]; exact HG2.out⟩, ⟨by rw [← HTM.out]; exact HT.out⟩, ⟨by rw [← HTM.out]; exact HT2.out⟩, ⟨Kd.R_drewN RO8.out _⟩, ⟨blk_drewN BK8.out _⟩, ⟨pw_below_drewN HB8.out _⟩⟩
end Go.Proofs.Ytmbninbecclbiaa.Man
