/- spec.l6Minor: three rows of four; no condition but the rows' lengths and a bound on the minors. -/
import Derived.Test.YtmbninbecclbiaaManLine
import Derived.Test.YtmbninbecclbiaaManLex
namespace Go.Proofs.Ytmbninbecclbiaa.Man
open Go.RowKit Go.Proofs.Ytmbninbecclbiaa.PA Go.Proofs.YtmbninbecclbiaaW.PrintWords Go.Proofs.YtmbninbecclbiaaW.PrintLast Go.Proofs.YtmbninbecclbiaaW.PrintMore
set_option linter.unusedVariables false
set_option linter.unusedSimpArgs false

/-- The places but one. -/
def il (s k : Nat) : List Int := ((List.range k).filter fun j => j != s).map fun j : Nat => (j : Int)
theorem il_next (s k : Nat) : il s (k + 1) = if (k : Int) != (s : Int) then il s k ++ [(k : Int)] else il s k := by
  unfold il
  rw [List.range_succ, List.filter_append, List.map_append]
  by_cases h : k = s
  · subst h; simp
  · rw [if_pos (by simp; omega)]; congr 1; simp [h]
theorem il_len (s k : Nat) : (il s k).length ≤ k := by
  unfold il
  rw [List.length_map]
  exact Nat.le_trans (List.length_filter_le _ _) (by rw [List.length_range]; exact Nat.le_refl _)
def ul (m : Nat → Int) (i : Nat) : List Int := (List.range i).map (vl m)
theorem ul_next (m : Nat → Int) (i : Nat) : ul m (i + 1) = ul m i ++ [vl m i] := by unfold ul; rw [List.range_succ, List.map_append]; rfl
theorem ul_len (m : Nat → Int) (i : Nat) : (ul m i).length = i := by unfold ul; rw [List.length_map, List.length_range]
theorem ml_at {a b c : List Int} (la : a.length = 4) (lb : b.length = 4) (lc : c.length = 4) :
    ml a b c 0 = detW (rd a 1) (rd a 2) (rd a 3) (rd b 1) (rd b 2) (rd b 3) (rd c 1) (rd c 2) (rd c 3) ∧ ml a b c 1 = detW (rd a 0) (rd a 2) (rd a 3) (rd b 0) (rd b 2) (rd b 3) (rd c 0) (rd c 2) (rd c 3) ∧
    ml a b c 2 = detW (rd a 0) (rd a 1) (rd a 3) (rd b 0) (rd b 1) (rd b 3) (rd c 0) (rd c 1) (rd c 3) ∧ ml a b c 3 = detW (rd a 0) (rd a 1) (rd a 2) (rd b 0) (rd b 1) (rd b 2) (rd c 0) (rd c 1) (rd c 2) := by
  match a, la, b, lb, c, lc with
  | [_, _, _, _], _, [_, _, _, _], _, [_, _, _, _], _ => exact ⟨rfl, rfl, rfl, rfl⟩

set_option maxHeartbeats 8000000 in
set_option maxRecDepth 100000 in
theorem l6Minor (w : World) (A0 A1 A2 : Option Addr) (c0 c1 c2 : Nat) (a b c : List Int) (r0 : Kd.C (Kd.int .i64) w A0 a.length a) (r1 : Kd.C (Kd.int .i64) w A1 b.length b) (r2 : Kd.C (Kd.int .i64) w A2 c.length c) (la : a.length = 4) (lb : b.length = 4) (lc : c.length = 4) (hm : ∀ i, i < 4 → -1000 ≤ ml a b c i ∧ ml a b c i ≤ 1000) :
    Calls Try.prog 76 #[.slice A0 a.length c0, .slice A1 b.length c1, .slice A2 c.length c2] w fun e w' => ∃ v, e = .returned v ∧ Kd.R (Kd.int .i64) 3 w' w.heap.size (fun _ => True) v (ul (ml a b c) 4) ∧ Below w.heap.size w w' := by
  obtain ⟨a0, ea, xa0⟩ := Kd.at_int r0 0 (by omega) (by omega)
  obtain ⟨b0, eb, xb0⟩ := Kd.at_int r1 0 (by omega) (by omega)
  obtain ⟨d0, ec, xc0⟩ := Kd.at_int r2 0 (by omega) (by omega)
  subst ea eb ec
  have za0 : w.cell? a0 = some (.int .i64 (rd a 0)) := by obtain ⟨_, e, h⟩ := Kd.at_int r0 0 (by omega) (by omega); cases e; exact h
  have za1 : w.cell? ⟨a0.block, a0.off + 1, none⟩ = some (.int .i64 (rd a 1)) := by obtain ⟨_, e, h⟩ := Kd.at_int r0 1 (by omega) (by omega); cases e; exact h
  have za2 : w.cell? ⟨a0.block, a0.off + 2, none⟩ = some (.int .i64 (rd a 2)) := by obtain ⟨_, e, h⟩ := Kd.at_int r0 2 (by omega) (by omega); cases e; exact h
  have za3 : w.cell? ⟨a0.block, a0.off + 3, none⟩ = some (.int .i64 (rd a 3)) := by obtain ⟨_, e, h⟩ := Kd.at_int r0 3 (by omega) (by omega); cases e; exact h
  have zb0 : w.cell? b0 = some (.int .i64 (rd b 0)) := by obtain ⟨_, e, h⟩ := Kd.at_int r1 0 (by omega) (by omega); cases e; exact h
  have zb1 : w.cell? ⟨b0.block, b0.off + 1, none⟩ = some (.int .i64 (rd b 1)) := by obtain ⟨_, e, h⟩ := Kd.at_int r1 1 (by omega) (by omega); cases e; exact h
  have zb2 : w.cell? ⟨b0.block, b0.off + 2, none⟩ = some (.int .i64 (rd b 2)) := by obtain ⟨_, e, h⟩ := Kd.at_int r1 2 (by omega) (by omega); cases e; exact h
  have zb3 : w.cell? ⟨b0.block, b0.off + 3, none⟩ = some (.int .i64 (rd b 3)) := by obtain ⟨_, e, h⟩ := Kd.at_int r1 3 (by omega) (by omega); cases e; exact h
  have zc0 : w.cell? d0 = some (.int .i64 (rd c 0)) := by obtain ⟨_, e, h⟩ := Kd.at_int r2 0 (by omega) (by omega); cases e; exact h
  have zc1 : w.cell? ⟨d0.block, d0.off + 1, none⟩ = some (.int .i64 (rd c 1)) := by obtain ⟨_, e, h⟩ := Kd.at_int r2 1 (by omega) (by omega); cases e; exact h
  have zc2 : w.cell? ⟨d0.block, d0.off + 2, none⟩ = some (.int .i64 (rd c 2)) := by obtain ⟨_, e, h⟩ := Kd.at_int r2 2 (by omega) (by omega); cases e; exact h
  have zc3 : w.cell? ⟨d0.block, d0.off + 3, none⟩ = some (.int .i64 (rd c 3)) := by obtain ⟨_, e, h⟩ := Kd.at_int r2 3 (by omega) (by omega); cases e; exact h
  have HZ := Aside0.mk (show w.cell? a0 = some (.int .i64 (rd a 0)) ∧ w.cell? ⟨a0.block, a0.off + 1, none⟩ = some (.int .i64 (rd a 1)) ∧ w.cell? ⟨a0.block, a0.off + 2, none⟩ = some (.int .i64 (rd a 2)) ∧ w.cell? ⟨a0.block, a0.off + 3, none⟩ = some (.int .i64 (rd a 3)) ∧ w.cell? b0 = some (.int .i64 (rd b 0)) ∧ w.cell? ⟨b0.block, b0.off + 1, none⟩ = some (.int .i64 (rd b 1)) ∧ w.cell? ⟨b0.block, b0.off + 2, none⟩ = some (.int .i64 (rd b 2)) ∧ w.cell? ⟨b0.block, b0.off + 3, none⟩ = some (.int .i64 (rd b 3)) ∧ w.cell? d0 = some (.int .i64 (rd c 0)) ∧ w.cell? ⟨d0.block, d0.off + 1, none⟩ = some (.int .i64 (rd c 1)) ∧ w.cell? ⟨d0.block, d0.off + 2, none⟩ = some (.int .i64 (rd c 2)) ∧ w.cell? ⟨d0.block, d0.off + 3, none⟩ = some (.int .i64 (rd c 3)) from ⟨za0, za1, za2, za3, zb0, zb1, zb2, zb3, zc0, zc1, zc2, zc3⟩)
  obtain ⟨m, hmd⟩ : ∃ m, m = ml a b c := ⟨_, rfl⟩
  rw [← hmd] at hm ⊢
  have HM := Aside0.mk hm
  have HD := Aside0.mk (show _ ∧ _ ∧ _ ∧ _ from ml_at la lb lc)
  rw [← hmd] at HD
  have HB0 := Aside0.mk (Below.refl w.heap.size w)
  rw [la, lb, lc]
  clear za0 za1 za2 za3 zb0 zb1 zb2 zb3 zc0 zc1 zc2 zc3 xa0 xb0 xc0 r0 r1 r2 hm hmd la lb lc
  go_enter Try.func76, Try.ntmps76
  go_wp2_with (first | ((with_reducible refine gate_dst (N := 12) rfl ?_); refine Kd.R_lit (Kd.int .i64) _ 3 ?hg (N := 12) ?hd (xs := ([] : List Int)) (inner := []) (ok := fun _ => True) (okp := fun _ => True) ?hr ?hp (fun _ hk => hk) trivial (Below.refl _ _) (Nat.le_refl _) (by simp) ?_; (case hd => rfl); (case hg => rfl); (case hr => first | (go_simp; done) | (go_simp; rfl)); (case hp => exact (Reps.none _ _)); intro v12 w12 ho hb hg_ hnew_; clear hg_ hnew_; have RO0 := Aside0.mk (show Kd.R (Kd.int .i64) 3 w12 w.heap.size (fun _ => True) v12 (ul m 0) from ho); have HB12 := Aside0.mk hb; clear ho hb))
  go_loopg [7, 8] 4 (fun kq v7 v8 w' => ∃ (i : Nat) (x : Int), v8 = .int .i64 x ∧ Aside0 (x = (i : Int)) ∧ Aside0 (i + kq = 4) ∧ Aside0 (Kd.R (Kd.int .i64) 3 w' w.heap.size (fun _ => True) v7 (ul m i)) ∧ Aside0 (Below w.heap.size w w'))
  case atStart => exact ⟨0, 0, rfl, ⟨rfl⟩, ⟨rfl⟩, RO0, HB12⟩
  case round =>
    clear RO0 HB12 HB0
    obtain ⟨i, x, rfl, HI, HK, RO, HB⟩ := hrel
    cases gk with
    | zero =>
      have xn : decide (x < 4) = false := decide_eq_false (by have := HI.out; have := HK.out; omega)
      have RO4 := Aside0.mk (show Kd.R (Kd.int .i64) 3 wr w.heap.size (fun _ => True) u7 (ul m 4) by rw [show 4 = i by have := HK.out; omega]; exact RO.out)
      go_wp2
      go_ret
      exact ⟨_, rfl, RO4.out, HB.out⟩
    | succ k1 =>
      have hi : i = 0 ∨ i = 1 ∨ i = 2 ∨ i = 3 := by have := HK.out; omega
      rcases hi with rfl | rfl | rfl | rfl
      · skip
        obtain rfl : x = 0 := HI.out
        have HM1 := Aside0.mk (HM.out 0 (by omega))
        have M0 := Aside0.mk (Nat.le_refl wr.heap.size)
        have ROo := Aside0.mk (show Kd.R (Kd.int .i64) 3 wr w.heap.size (fun k_ => k_ < wr.heap.size) u7 (ul m 0) from Kd.R_mono (Kd.R_bound RO.out) (fun _ hk => hk.2.2.1))
        generalize hWM : wr.heap.size = WM at ROo M0
        go_wp2_with (first | ((with_reducible refine gate_dst (N := 17) rfl ?_); refine Kd.R_lit (Kd.int .i64) _ 3 ?hg (N := 17) ?hd (xs := ([] : List Int)) (inner := []) (ok := fun _ => True) (okp := fun _ => True) ?hr ?hp (fun _ hk => hk) trivial (Below.refl _ _) (Nat.le_refl _) (by simp) ?_; (case hd => rfl); (case hg => rfl); (case hr => first | (go_simp; done) | (go_simp; rfl)); (case hp => exact (Reps.none _ _)); intro v17 w17 ho hb hg_ hnew_; clear hg_ hnew_; have RI0 := Aside0.mk (show Kd.R (Kd.int .i64) 3 w17 WM (fun _ => True) v17 (il 0 0) from hWM ▸ ho); have RO17 := Aside0.mk (Kd.R_below ROo.out hb); have HB17 := Aside0.mk (below_step HB.out hb); have HG17 := Aside0.mk (show WM ≤ w17.heap.size by have := below_size hb; omega); clear ho hb))
        have HWM := Aside0.mk (show w.heap.size ≤ WM by have := below_size HB.out; omega)
        go_loopg [9, 10] 4 (fun kq v9 v10 w' => ∃ (k : Nat) (y : Int), v10 = .int .i64 y ∧ Aside0 (y = (k : Int)) ∧ Aside0 (k + kq = 4) ∧ Aside0 (Kd.R (Kd.int .i64) 3 w' WM (fun _ => True) v9 (il 0 k)) ∧ Aside0 (Kd.R (Kd.int .i64) 3 w' w.heap.size (fun k_ => k_ < WM) u7 (ul m 0)) ∧ Aside0 (Below w.heap.size w w') ∧ Aside0 (WM ≤ w'.heap.size))
        case atStart => exact ⟨0, 0, rfl, ⟨rfl⟩, ⟨rfl⟩, RI0, RO17, HB17, HG17⟩
        case round =>
          clear RI0 RO17 HB17 HB RO ROo hWM M0 HG17
          obtain ⟨k, y, rfl, HY, HKk, RI, RO, HB, HG⟩ := hrel
          cases gk with
          | zero =>
            have yn : decide (y < 4) = false := decide_eq_false (by have := HY.out; have := HKk.out; omega)
            have RI4 := Aside0.mk (show Kd.R (Kd.int .i64) 3 wr WM (fun _ => True) u9 [1, 2, 3] by have e : k = 4 := (by have := HKk.out; omega); rw [e] at RI; exact RI.out)
            obtain ⟨gI, cI, rfl, _, _, _⟩ := Kd.R_form RI4.out (by decide)
            obtain ⟨i0, i1, i2⟩ := cells3 RI4.out
            rw [show rd [1, 2, 3] 0 = 1 from rfl] at i0
            rw [show rd [1, 2, 3] 1 = 2 from rfl] at i1
            rw [show rd [1, 2, 3] 2 = 3 from rfl] at i2
            obtain ⟨ya0, ya1, ya2, ya3, yb0, yb1, yb2, yb3, yc0, yc1, yc2, yc3⟩ := HZ.out
            replace ya0 := (HB.out.cell (World.block_lt_of_cell? w _ ya0)).trans ya0
            replace ya1 := (HB.out.cell (World.block_lt_of_cell? w _ ya1)).trans ya1
            replace ya2 := (HB.out.cell (World.block_lt_of_cell? w _ ya2)).trans ya2
            replace ya3 := (HB.out.cell (World.block_lt_of_cell? w _ ya3)).trans ya3
            replace yb0 := (HB.out.cell (World.block_lt_of_cell? w _ yb0)).trans yb0
            replace yb1 := (HB.out.cell (World.block_lt_of_cell? w _ yb1)).trans yb1
            replace yb2 := (HB.out.cell (World.block_lt_of_cell? w _ yb2)).trans yb2
            replace yb3 := (HB.out.cell (World.block_lt_of_cell? w _ yb3)).trans yb3
            replace yc0 := (HB.out.cell (World.block_lt_of_cell? w _ yc0)).trans yc0
            replace yc1 := (HB.out.cell (World.block_lt_of_cell? w _ yc1)).trans yc1
            replace yc2 := (HB.out.cell (World.block_lt_of_cell? w _ yc2)).trans yc2
            replace yc3 := (HB.out.cell (World.block_lt_of_cell? w _ yc3)).trans yc3
            go_upto_region 11 with (fail)
            dsimp only [List.append]
            refine wp_region_quiet_lit (by kernel_rfl) (lex_cast (by kernel_rfl) l6lex) ?_
            repeat (go_big_quiet_step (fail))
            refine wpQuiet_nil ?_
            intro _ hw'
            obtain ⟨nq, hw''⟩ := hw'
            subst hw''
            obtain ⟨D, hD⟩ : ∃ D, D = wrap64 (wrap64 (wrap64 (rd a 1 * wrap64 (wrap64 (rd b 2 * rd c 3) - wrap64 (rd b 3 * rd c 2))) - wrap64 (rd a 2 * wrap64 (wrap64 (rd b 1 * rd c 3) - wrap64 (rd b 3 * rd c 1)))) + wrap64 (rd a 3 * wrap64 (wrap64 (rd b 1 * rd c 2) - wrap64 (rd b 2 * rd c 1)))) := ⟨_, rfl⟩
            rw [← hD]
            have HDm := Aside0.mk (show D = m 0 by rw [hD]; exact HD.out.1.symm)
            clear hD ya0 ya1 ya2 ya3 yb0 yb1 yb2 yb3 yc0 yc1 yc2 yc3 i0 i1 i2
            have HVn := Aside0.mk (show D = vl m 0 by have := HM1.out; rw [HDm.out]; show _ = sg 0 * m 0; unfold sg; simp)
            have RO5 := Aside0.mk (Kd.R_mono (Kd.R_drewN RO.out nq) (fun _ _ => trivial) : Kd.R (Kd.int .i64) 3 (wr.drewN nq) w.heap.size (fun _ => True) u7 (ul m 0))
            have HB5 := Aside0.mk (pw_below_drewN HB.out nq)
            clear RO HB
            generalize wr.drewN nq = W5 at RO5 HB5 ⊢
            go_wp2_with (first | ((with_reducible refine gate_builtin (b := .append) (xs := #[.tmp 138, .tmp 140]) rfl ?_); at_builtin; (refine Kd.R_append (Kd.int .i64) (w0 := w) w.heap.size rfl (.tmp 138) (.tmp 140) 35 3 (.int .i64 0) 8 rfl Try.underlying35 info3 rfl (by decide) (by omega) _ (ul m 0) (D) [.int .i64 (D)] (fun _ => True) (fun _ => False) rfl (by first | rfl | (go_simp; done) | (go_simp; rfl)) ?aP (fun _ hk => hk.elim) (fun _ _ => trivial) ?aO ?aB ?aS ?aL ?_; (case aP => exact rfl); (case aO => exact RO5.out); (case aB => exact HB5.out); (case aS => exact below_size HB5.out); (case aL => rw [ul_len]; omega); intro v141 w141 ho hb hg hat; rw [HVn.out, ← ul_next] at ho; have RO6 := Aside0.mk ho; have HB6 := Aside0.mk hb; clear ho hb hg hat)))
            go_roundg k1
            case measure => have := HK.out; omega
            case rel => exact ⟨1, 1, rfl, ⟨rfl⟩, ⟨by have := HK.out; omega⟩, RO6, HB6⟩
          | succ k2 =>
            have y0 : 0 ≤ y := by have := HY.out; omega
            have y4 : y < 4 := by have := HY.out; have := HKk.out; omega
            have yn : decide (y < 4) = true := decide_eq_true y4
            have HY1 := Aside0.mk (show y + 1 = ((k + 1 : Nat) : Int) by have := HY.out; omega)
            have hLI := Aside0.mk (il_len 0 k)
            have hnx := il_next 0 k
            rw [← HY.out] at hnx
            by_cases hy : y = 0
            · have hys : (y != 0) = false := by rw [hy]; rfl
              have HNX := Aside0.mk (show il 0 (k + 1) = il 0 k by rw [hnx, if_neg (by rw [show (((0 : Nat) : Int)) = (0 : Int) from rfl, hys]; decide)])
              clear hy hnx
              go_wp2
              go_roundg k2
              case measure => have := HKk.out; omega
              case rel => exact ⟨k + 1, y + 1, rfl, HY1, ⟨by have := HKk.out; omega⟩, by rw [HNX.out]; exact RI, RO, HB, HG⟩
            · have hys : (y != 0) = true := bne_iff_ne.2 hy
              have HNX := Aside0.mk (show il 0 (k + 1) = il 0 k ++ [y] by rw [hnx, if_pos (by rw [show (((0 : Nat) : Int)) = (0 : Int) from rfl, hys])])
              clear hy hnx
              go_wp2_with (first | ((with_reducible refine gate_builtin (b := .append) (xs := #[.tmp 25, .tmp 27]) rfl ?_); at_builtin; refine Kd.R_append (Kd.int .i64) (w0 := wr) WM rfl (.tmp 25) (.tmp 27) 35 3 (.int .i64 0) 8 rfl Try.underlying35 info3 rfl (by decide) (by omega) _ (il 0 k) y [.int .i64 y] (fun _ => True) (fun _ => False) rfl (by first | rfl | (go_simp; done) | (go_simp; rfl)) ?aP (fun _ hk => hk.elim) (fun _ _ => trivial) ?aO ?aB ?aS ?aL ?_; (case aP => exact rfl); (case aO => exact RI.out); (case aB => exact Below.refl _ _); (case aS => exact HG.out); (case aL => have := hLI.out; have := HKk.out; omega); intro v28 w28 ho hb hg hat; rw [← HNX.out] at ho; have RI6 := Aside0.mk ho; have RO6 := Aside0.mk (Kd.R_grown RO.out hg (fun k_ hk_ e_ => by have := Kd.R_base RI.out k_ e_.symm; omega)); have HG6 := Aside0.mk (Nat.le_trans HG.out hb.size); have HB6 := Aside0.mk (show Below w.heap.size w w28 from ⟨hb.os.trans HB.out.os, hb.tape.trans HB.out.tape, hb.output.trans HB.out.output, Nat.le_trans HB.out.size hb.size, fun k_ hk_ => (hb.block k_ (by have := HWM.out; omega)).trans (HB.out.block k_ hk_)⟩); clear ho hb hg hat))
              go_roundg k2
              case measure => have := HKk.out; omega
              case rel => exact ⟨k + 1, y + 1, rfl, HY1, ⟨by have := HKk.out; omega⟩, RI6, RO6, HB6, HG6⟩
      · skip
        obtain rfl : x = 1 := HI.out
        have HM1 := Aside0.mk (HM.out 1 (by omega))
        have M0 := Aside0.mk (Nat.le_refl wr.heap.size)
        have ROo := Aside0.mk (show Kd.R (Kd.int .i64) 3 wr w.heap.size (fun k_ => k_ < wr.heap.size) u7 (ul m 1) from Kd.R_mono (Kd.R_bound RO.out) (fun _ hk => hk.2.2.1))
        generalize hWM : wr.heap.size = WM at ROo M0
        go_wp2_with (first | ((with_reducible refine gate_dst (N := 17) rfl ?_); refine Kd.R_lit (Kd.int .i64) _ 3 ?hg (N := 17) ?hd (xs := ([] : List Int)) (inner := []) (ok := fun _ => True) (okp := fun _ => True) ?hr ?hp (fun _ hk => hk) trivial (Below.refl _ _) (Nat.le_refl _) (by simp) ?_; (case hd => rfl); (case hg => rfl); (case hr => first | (go_simp; done) | (go_simp; rfl)); (case hp => exact (Reps.none _ _)); intro v17 w17 ho hb hg_ hnew_; clear hg_ hnew_; have RI0 := Aside0.mk (show Kd.R (Kd.int .i64) 3 w17 WM (fun _ => True) v17 (il 1 0) from hWM ▸ ho); have RO17 := Aside0.mk (Kd.R_below ROo.out hb); have HB17 := Aside0.mk (below_step HB.out hb); have HG17 := Aside0.mk (show WM ≤ w17.heap.size by have := below_size hb; omega); clear ho hb))
        have HWM := Aside0.mk (show w.heap.size ≤ WM by have := below_size HB.out; omega)
        go_loopg [9, 10] 4 (fun kq v9 v10 w' => ∃ (k : Nat) (y : Int), v10 = .int .i64 y ∧ Aside0 (y = (k : Int)) ∧ Aside0 (k + kq = 4) ∧ Aside0 (Kd.R (Kd.int .i64) 3 w' WM (fun _ => True) v9 (il 1 k)) ∧ Aside0 (Kd.R (Kd.int .i64) 3 w' w.heap.size (fun k_ => k_ < WM) u7 (ul m 1)) ∧ Aside0 (Below w.heap.size w w') ∧ Aside0 (WM ≤ w'.heap.size))
        case atStart => exact ⟨0, 0, rfl, ⟨rfl⟩, ⟨rfl⟩, RI0, RO17, HB17, HG17⟩
        case round =>
          clear RI0 RO17 HB17 HB RO ROo hWM M0 HG17
          obtain ⟨k, y, rfl, HY, HKk, RI, RO, HB, HG⟩ := hrel
          cases gk with
          | zero =>
            have yn : decide (y < 4) = false := decide_eq_false (by have := HY.out; have := HKk.out; omega)
            have RI4 := Aside0.mk (show Kd.R (Kd.int .i64) 3 wr WM (fun _ => True) u9 [0, 2, 3] by have e : k = 4 := (by have := HKk.out; omega); rw [e] at RI; exact RI.out)
            obtain ⟨gI, cI, rfl, _, _, _⟩ := Kd.R_form RI4.out (by decide)
            obtain ⟨i0, i1, i2⟩ := cells3 RI4.out
            rw [show rd [0, 2, 3] 0 = 0 from rfl] at i0
            rw [show rd [0, 2, 3] 1 = 2 from rfl] at i1
            rw [show rd [0, 2, 3] 2 = 3 from rfl] at i2
            obtain ⟨ya0, ya1, ya2, ya3, yb0, yb1, yb2, yb3, yc0, yc1, yc2, yc3⟩ := HZ.out
            replace ya0 := (HB.out.cell (World.block_lt_of_cell? w _ ya0)).trans ya0
            replace ya1 := (HB.out.cell (World.block_lt_of_cell? w _ ya1)).trans ya1
            replace ya2 := (HB.out.cell (World.block_lt_of_cell? w _ ya2)).trans ya2
            replace ya3 := (HB.out.cell (World.block_lt_of_cell? w _ ya3)).trans ya3
            replace yb0 := (HB.out.cell (World.block_lt_of_cell? w _ yb0)).trans yb0
            replace yb1 := (HB.out.cell (World.block_lt_of_cell? w _ yb1)).trans yb1
            replace yb2 := (HB.out.cell (World.block_lt_of_cell? w _ yb2)).trans yb2
            replace yb3 := (HB.out.cell (World.block_lt_of_cell? w _ yb3)).trans yb3
            replace yc0 := (HB.out.cell (World.block_lt_of_cell? w _ yc0)).trans yc0
            replace yc1 := (HB.out.cell (World.block_lt_of_cell? w _ yc1)).trans yc1
            replace yc2 := (HB.out.cell (World.block_lt_of_cell? w _ yc2)).trans yc2
            replace yc3 := (HB.out.cell (World.block_lt_of_cell? w _ yc3)).trans yc3
            go_upto_region 11 with (fail)
            dsimp only [List.append]
            refine wp_region_quiet_lit (by kernel_rfl) (lex_cast (by kernel_rfl) l6lex) ?_
            repeat (go_big_quiet_step (fail))
            refine wpQuiet_nil ?_
            intro _ hw'
            obtain ⟨nq, hw''⟩ := hw'
            subst hw''
            obtain ⟨D, hD⟩ : ∃ D, D = wrap64 (wrap64 (wrap64 (rd a 0 * wrap64 (wrap64 (rd b 2 * rd c 3) - wrap64 (rd b 3 * rd c 2))) - wrap64 (rd a 2 * wrap64 (wrap64 (rd b 0 * rd c 3) - wrap64 (rd b 3 * rd c 0)))) + wrap64 (rd a 3 * wrap64 (wrap64 (rd b 0 * rd c 2) - wrap64 (rd b 2 * rd c 0)))) := ⟨_, rfl⟩
            rw [← hD]
            have HDm := Aside0.mk (show D = m 1 by rw [hD]; exact HD.out.2.1.symm)
            clear hD ya0 ya1 ya2 ya3 yb0 yb1 yb2 yb3 yc0 yc1 yc2 yc3 i0 i1 i2
            have HVn := Aside0.mk (show wrap64 (-D) = vl m 1 by have := HM1.out; rw [HDm.out]; show _ = sg 1 * m 1; unfold sg wrap64; simp; omega)
            have RO5 := Aside0.mk (Kd.R_mono (Kd.R_drewN RO.out nq) (fun _ _ => trivial) : Kd.R (Kd.int .i64) 3 (wr.drewN nq) w.heap.size (fun _ => True) u7 (ul m 1))
            have HB5 := Aside0.mk (pw_below_drewN HB.out nq)
            clear RO HB
            generalize wr.drewN nq = W5 at RO5 HB5 ⊢
            go_wp2_with (first | ((with_reducible refine gate_builtin (b := .append) (xs := #[.tmp 138, .tmp 140]) rfl ?_); at_builtin; (refine Kd.R_append (Kd.int .i64) (w0 := w) w.heap.size rfl (.tmp 138) (.tmp 140) 35 3 (.int .i64 0) 8 rfl Try.underlying35 info3 rfl (by decide) (by omega) _ (ul m 1) (wrap64 (-D)) [.int .i64 (wrap64 (-D))] (fun _ => True) (fun _ => False) rfl (by first | rfl | (go_simp; done) | (go_simp; rfl)) ?aP (fun _ hk => hk.elim) (fun _ _ => trivial) ?aO ?aB ?aS ?aL ?_; (case aP => exact rfl); (case aO => exact RO5.out); (case aB => exact HB5.out); (case aS => exact below_size HB5.out); (case aL => rw [ul_len]; omega); intro v141 w141 ho hb hg hat; rw [HVn.out, ← ul_next] at ho; have RO6 := Aside0.mk ho; have HB6 := Aside0.mk hb; clear ho hb hg hat)))
            go_roundg k1
            case measure => have := HK.out; omega
            case rel => exact ⟨2, 2, rfl, ⟨rfl⟩, ⟨by have := HK.out; omega⟩, RO6, HB6⟩
          | succ k2 =>
            have y0 : 0 ≤ y := by have := HY.out; omega
            have y4 : y < 4 := by have := HY.out; have := HKk.out; omega
            have yn : decide (y < 4) = true := decide_eq_true y4
            have HY1 := Aside0.mk (show y + 1 = ((k + 1 : Nat) : Int) by have := HY.out; omega)
            have hLI := Aside0.mk (il_len 1 k)
            have hnx := il_next 1 k
            rw [← HY.out] at hnx
            by_cases hy : y = 1
            · have hys : (y != 1) = false := by rw [hy]; rfl
              have HNX := Aside0.mk (show il 1 (k + 1) = il 1 k by rw [hnx, if_neg (by rw [show (((1 : Nat) : Int)) = (1 : Int) from rfl, hys]; decide)])
              clear hy hnx
              go_wp2
              go_roundg k2
              case measure => have := HKk.out; omega
              case rel => exact ⟨k + 1, y + 1, rfl, HY1, ⟨by have := HKk.out; omega⟩, by rw [HNX.out]; exact RI, RO, HB, HG⟩
            · have hys : (y != 1) = true := bne_iff_ne.2 hy
              have HNX := Aside0.mk (show il 1 (k + 1) = il 1 k ++ [y] by rw [hnx, if_pos (by rw [show (((1 : Nat) : Int)) = (1 : Int) from rfl, hys])])
              clear hy hnx
              go_wp2_with (first | ((with_reducible refine gate_builtin (b := .append) (xs := #[.tmp 25, .tmp 27]) rfl ?_); at_builtin; refine Kd.R_append (Kd.int .i64) (w0 := wr) WM rfl (.tmp 25) (.tmp 27) 35 3 (.int .i64 0) 8 rfl Try.underlying35 info3 rfl (by decide) (by omega) _ (il 1 k) y [.int .i64 y] (fun _ => True) (fun _ => False) rfl (by first | rfl | (go_simp; done) | (go_simp; rfl)) ?aP (fun _ hk => hk.elim) (fun _ _ => trivial) ?aO ?aB ?aS ?aL ?_; (case aP => exact rfl); (case aO => exact RI.out); (case aB => exact Below.refl _ _); (case aS => exact HG.out); (case aL => have := hLI.out; have := HKk.out; omega); intro v28 w28 ho hb hg hat; rw [← HNX.out] at ho; have RI6 := Aside0.mk ho; have RO6 := Aside0.mk (Kd.R_grown RO.out hg (fun k_ hk_ e_ => by have := Kd.R_base RI.out k_ e_.symm; omega)); have HG6 := Aside0.mk (Nat.le_trans HG.out hb.size); have HB6 := Aside0.mk (show Below w.heap.size w w28 from ⟨hb.os.trans HB.out.os, hb.tape.trans HB.out.tape, hb.output.trans HB.out.output, Nat.le_trans HB.out.size hb.size, fun k_ hk_ => (hb.block k_ (by have := HWM.out; omega)).trans (HB.out.block k_ hk_)⟩); clear ho hb hg hat))
              go_roundg k2
              case measure => have := HKk.out; omega
              case rel => exact ⟨k + 1, y + 1, rfl, HY1, ⟨by have := HKk.out; omega⟩, RI6, RO6, HB6, HG6⟩
      · skip
        obtain rfl : x = 2 := HI.out
        have HM1 := Aside0.mk (HM.out 2 (by omega))
        have M0 := Aside0.mk (Nat.le_refl wr.heap.size)
        have ROo := Aside0.mk (show Kd.R (Kd.int .i64) 3 wr w.heap.size (fun k_ => k_ < wr.heap.size) u7 (ul m 2) from Kd.R_mono (Kd.R_bound RO.out) (fun _ hk => hk.2.2.1))
        generalize hWM : wr.heap.size = WM at ROo M0
        go_wp2_with (first | ((with_reducible refine gate_dst (N := 17) rfl ?_); refine Kd.R_lit (Kd.int .i64) _ 3 ?hg (N := 17) ?hd (xs := ([] : List Int)) (inner := []) (ok := fun _ => True) (okp := fun _ => True) ?hr ?hp (fun _ hk => hk) trivial (Below.refl _ _) (Nat.le_refl _) (by simp) ?_; (case hd => rfl); (case hg => rfl); (case hr => first | (go_simp; done) | (go_simp; rfl)); (case hp => exact (Reps.none _ _)); intro v17 w17 ho hb hg_ hnew_; clear hg_ hnew_; have RI0 := Aside0.mk (show Kd.R (Kd.int .i64) 3 w17 WM (fun _ => True) v17 (il 2 0) from hWM ▸ ho); have RO17 := Aside0.mk (Kd.R_below ROo.out hb); have HB17 := Aside0.mk (below_step HB.out hb); have HG17 := Aside0.mk (show WM ≤ w17.heap.size by have := below_size hb; omega); clear ho hb))
        have HWM := Aside0.mk (show w.heap.size ≤ WM by have := below_size HB.out; omega)
        go_loopg [9, 10] 4 (fun kq v9 v10 w' => ∃ (k : Nat) (y : Int), v10 = .int .i64 y ∧ Aside0 (y = (k : Int)) ∧ Aside0 (k + kq = 4) ∧ Aside0 (Kd.R (Kd.int .i64) 3 w' WM (fun _ => True) v9 (il 2 k)) ∧ Aside0 (Kd.R (Kd.int .i64) 3 w' w.heap.size (fun k_ => k_ < WM) u7 (ul m 2)) ∧ Aside0 (Below w.heap.size w w') ∧ Aside0 (WM ≤ w'.heap.size))
        case atStart => exact ⟨0, 0, rfl, ⟨rfl⟩, ⟨rfl⟩, RI0, RO17, HB17, HG17⟩
        case round =>
          clear RI0 RO17 HB17 HB RO ROo hWM M0 HG17
          obtain ⟨k, y, rfl, HY, HKk, RI, RO, HB, HG⟩ := hrel
          cases gk with
          | zero =>
            have yn : decide (y < 4) = false := decide_eq_false (by have := HY.out; have := HKk.out; omega)
            have RI4 := Aside0.mk (show Kd.R (Kd.int .i64) 3 wr WM (fun _ => True) u9 [0, 1, 3] by have e : k = 4 := (by have := HKk.out; omega); rw [e] at RI; exact RI.out)
            obtain ⟨gI, cI, rfl, _, _, _⟩ := Kd.R_form RI4.out (by decide)
            obtain ⟨i0, i1, i2⟩ := cells3 RI4.out
            rw [show rd [0, 1, 3] 0 = 0 from rfl] at i0
            rw [show rd [0, 1, 3] 1 = 1 from rfl] at i1
            rw [show rd [0, 1, 3] 2 = 3 from rfl] at i2
            obtain ⟨ya0, ya1, ya2, ya3, yb0, yb1, yb2, yb3, yc0, yc1, yc2, yc3⟩ := HZ.out
            replace ya0 := (HB.out.cell (World.block_lt_of_cell? w _ ya0)).trans ya0
            replace ya1 := (HB.out.cell (World.block_lt_of_cell? w _ ya1)).trans ya1
            replace ya2 := (HB.out.cell (World.block_lt_of_cell? w _ ya2)).trans ya2
            replace ya3 := (HB.out.cell (World.block_lt_of_cell? w _ ya3)).trans ya3
            replace yb0 := (HB.out.cell (World.block_lt_of_cell? w _ yb0)).trans yb0
            replace yb1 := (HB.out.cell (World.block_lt_of_cell? w _ yb1)).trans yb1
            replace yb2 := (HB.out.cell (World.block_lt_of_cell? w _ yb2)).trans yb2
            replace yb3 := (HB.out.cell (World.block_lt_of_cell? w _ yb3)).trans yb3
            replace yc0 := (HB.out.cell (World.block_lt_of_cell? w _ yc0)).trans yc0
            replace yc1 := (HB.out.cell (World.block_lt_of_cell? w _ yc1)).trans yc1
            replace yc2 := (HB.out.cell (World.block_lt_of_cell? w _ yc2)).trans yc2
            replace yc3 := (HB.out.cell (World.block_lt_of_cell? w _ yc3)).trans yc3
            go_upto_region 11 with (fail)
            dsimp only [List.append]
            refine wp_region_quiet_lit (by kernel_rfl) (lex_cast (by kernel_rfl) l6lex) ?_
            repeat (go_big_quiet_step (fail))
            refine wpQuiet_nil ?_
            intro _ hw'
            obtain ⟨nq, hw''⟩ := hw'
            subst hw''
            obtain ⟨D, hD⟩ : ∃ D, D = wrap64 (wrap64 (wrap64 (rd a 0 * wrap64 (wrap64 (rd b 1 * rd c 3) - wrap64 (rd b 3 * rd c 1))) - wrap64 (rd a 1 * wrap64 (wrap64 (rd b 0 * rd c 3) - wrap64 (rd b 3 * rd c 0)))) + wrap64 (rd a 3 * wrap64 (wrap64 (rd b 0 * rd c 1) - wrap64 (rd b 1 * rd c 0)))) := ⟨_, rfl⟩
            rw [← hD]
            have HDm := Aside0.mk (show D = m 2 by rw [hD]; exact HD.out.2.2.1.symm)
            clear hD ya0 ya1 ya2 ya3 yb0 yb1 yb2 yb3 yc0 yc1 yc2 yc3 i0 i1 i2
            have HVn := Aside0.mk (show D = vl m 2 by have := HM1.out; rw [HDm.out]; show _ = sg 2 * m 2; unfold sg; simp)
            have RO5 := Aside0.mk (Kd.R_mono (Kd.R_drewN RO.out nq) (fun _ _ => trivial) : Kd.R (Kd.int .i64) 3 (wr.drewN nq) w.heap.size (fun _ => True) u7 (ul m 2))
            have HB5 := Aside0.mk (pw_below_drewN HB.out nq)
            clear RO HB
            generalize wr.drewN nq = W5 at RO5 HB5 ⊢
            go_wp2_with (first | ((with_reducible refine gate_builtin (b := .append) (xs := #[.tmp 138, .tmp 140]) rfl ?_); at_builtin; (refine Kd.R_append (Kd.int .i64) (w0 := w) w.heap.size rfl (.tmp 138) (.tmp 140) 35 3 (.int .i64 0) 8 rfl Try.underlying35 info3 rfl (by decide) (by omega) _ (ul m 2) (D) [.int .i64 (D)] (fun _ => True) (fun _ => False) rfl (by first | rfl | (go_simp; done) | (go_simp; rfl)) ?aP (fun _ hk => hk.elim) (fun _ _ => trivial) ?aO ?aB ?aS ?aL ?_; (case aP => exact rfl); (case aO => exact RO5.out); (case aB => exact HB5.out); (case aS => exact below_size HB5.out); (case aL => rw [ul_len]; omega); intro v141 w141 ho hb hg hat; rw [HVn.out, ← ul_next] at ho; have RO6 := Aside0.mk ho; have HB6 := Aside0.mk hb; clear ho hb hg hat)))
            go_roundg k1
            case measure => have := HK.out; omega
            case rel => exact ⟨3, 3, rfl, ⟨rfl⟩, ⟨by have := HK.out; omega⟩, RO6, HB6⟩
          | succ k2 =>
            have y0 : 0 ≤ y := by have := HY.out; omega
            have y4 : y < 4 := by have := HY.out; have := HKk.out; omega
            have yn : decide (y < 4) = true := decide_eq_true y4
            have HY1 := Aside0.mk (show y + 1 = ((k + 1 : Nat) : Int) by have := HY.out; omega)
            have hLI := Aside0.mk (il_len 2 k)
            have hnx := il_next 2 k
            rw [← HY.out] at hnx
            by_cases hy : y = 2
            · have hys : (y != 2) = false := by rw [hy]; rfl
              have HNX := Aside0.mk (show il 2 (k + 1) = il 2 k by rw [hnx, if_neg (by rw [show (((2 : Nat) : Int)) = (2 : Int) from rfl, hys]; decide)])
              clear hy hnx
              go_wp2
              go_roundg k2
              case measure => have := HKk.out; omega
              case rel => exact ⟨k + 1, y + 1, rfl, HY1, ⟨by have := HKk.out; omega⟩, by rw [HNX.out]; exact RI, RO, HB, HG⟩
            · have hys : (y != 2) = true := bne_iff_ne.2 hy
              have HNX := Aside0.mk (show il 2 (k + 1) = il 2 k ++ [y] by rw [hnx, if_pos (by rw [show (((2 : Nat) : Int)) = (2 : Int) from rfl, hys])])
              clear hy hnx
              go_wp2_with (first | ((with_reducible refine gate_builtin (b := .append) (xs := #[.tmp 25, .tmp 27]) rfl ?_); at_builtin; refine Kd.R_append (Kd.int .i64) (w0 := wr) WM rfl (.tmp 25) (.tmp 27) 35 3 (.int .i64 0) 8 rfl Try.underlying35 info3 rfl (by decide) (by omega) _ (il 2 k) y [.int .i64 y] (fun _ => True) (fun _ => False) rfl (by first | rfl | (go_simp; done) | (go_simp; rfl)) ?aP (fun _ hk => hk.elim) (fun _ _ => trivial) ?aO ?aB ?aS ?aL ?_; (case aP => exact rfl); (case aO => exact RI.out); (case aB => exact Below.refl _ _); (case aS => exact HG.out); (case aL => have := hLI.out; have := HKk.out; omega); intro v28 w28 ho hb hg hat; rw [← HNX.out] at ho; have RI6 := Aside0.mk ho; have RO6 := Aside0.mk (Kd.R_grown RO.out hg (fun k_ hk_ e_ => by have := Kd.R_base RI.out k_ e_.symm; omega)); have HG6 := Aside0.mk (Nat.le_trans HG.out hb.size); have HB6 := Aside0.mk (show Below w.heap.size w w28 from ⟨hb.os.trans HB.out.os, hb.tape.trans HB.out.tape, hb.output.trans HB.out.output, Nat.le_trans HB.out.size hb.size, fun k_ hk_ => (hb.block k_ (by have := HWM.out; omega)).trans (HB.out.block k_ hk_)⟩); clear ho hb hg hat))
              go_roundg k2
              case measure => have := HKk.out; omega
              case rel => exact ⟨k + 1, y + 1, rfl, HY1, ⟨by have := HKk.out; omega⟩, RI6, RO6, HB6, HG6⟩
      · skip
        obtain rfl : x = 3 := HI.out
        have HM1 := Aside0.mk (HM.out 3 (by omega))
        have M0 := Aside0.mk (Nat.le_refl wr.heap.size)
        have ROo := Aside0.mk (show Kd.R (Kd.int .i64) 3 wr w.heap.size (fun k_ => k_ < wr.heap.size) u7 (ul m 3) from Kd.R_mono (Kd.R_bound RO.out) (fun _ hk => hk.2.2.1))
        generalize hWM : wr.heap.size = WM at ROo M0
        go_wp2_with (first | ((with_reducible refine gate_dst (N := 17) rfl ?_); refine Kd.R_lit (Kd.int .i64) _ 3 ?hg (N := 17) ?hd (xs := ([] : List Int)) (inner := []) (ok := fun _ => True) (okp := fun _ => True) ?hr ?hp (fun _ hk => hk) trivial (Below.refl _ _) (Nat.le_refl _) (by simp) ?_; (case hd => rfl); (case hg => rfl); (case hr => first | (go_simp; done) | (go_simp; rfl)); (case hp => exact (Reps.none _ _)); intro v17 w17 ho hb hg_ hnew_; clear hg_ hnew_; have RI0 := Aside0.mk (show Kd.R (Kd.int .i64) 3 w17 WM (fun _ => True) v17 (il 3 0) from hWM ▸ ho); have RO17 := Aside0.mk (Kd.R_below ROo.out hb); have HB17 := Aside0.mk (below_step HB.out hb); have HG17 := Aside0.mk (show WM ≤ w17.heap.size by have := below_size hb; omega); clear ho hb))
        have HWM := Aside0.mk (show w.heap.size ≤ WM by have := below_size HB.out; omega)
        go_loopg [9, 10] 4 (fun kq v9 v10 w' => ∃ (k : Nat) (y : Int), v10 = .int .i64 y ∧ Aside0 (y = (k : Int)) ∧ Aside0 (k + kq = 4) ∧ Aside0 (Kd.R (Kd.int .i64) 3 w' WM (fun _ => True) v9 (il 3 k)) ∧ Aside0 (Kd.R (Kd.int .i64) 3 w' w.heap.size (fun k_ => k_ < WM) u7 (ul m 3)) ∧ Aside0 (Below w.heap.size w w') ∧ Aside0 (WM ≤ w'.heap.size))
        case atStart => exact ⟨0, 0, rfl, ⟨rfl⟩, ⟨rfl⟩, RI0, RO17, HB17, HG17⟩
        case round =>
          clear RI0 RO17 HB17 HB RO ROo hWM M0 HG17
          obtain ⟨k, y, rfl, HY, HKk, RI, RO, HB, HG⟩ := hrel
          cases gk with
          | zero =>
            have yn : decide (y < 4) = false := decide_eq_false (by have := HY.out; have := HKk.out; omega)
            have RI4 := Aside0.mk (show Kd.R (Kd.int .i64) 3 wr WM (fun _ => True) u9 [0, 1, 2] by have e : k = 4 := (by have := HKk.out; omega); rw [e] at RI; exact RI.out)
            obtain ⟨gI, cI, rfl, _, _, _⟩ := Kd.R_form RI4.out (by decide)
            obtain ⟨i0, i1, i2⟩ := cells3 RI4.out
            rw [show rd [0, 1, 2] 0 = 0 from rfl] at i0
            rw [show rd [0, 1, 2] 1 = 1 from rfl] at i1
            rw [show rd [0, 1, 2] 2 = 2 from rfl] at i2
            obtain ⟨ya0, ya1, ya2, ya3, yb0, yb1, yb2, yb3, yc0, yc1, yc2, yc3⟩ := HZ.out
            replace ya0 := (HB.out.cell (World.block_lt_of_cell? w _ ya0)).trans ya0
            replace ya1 := (HB.out.cell (World.block_lt_of_cell? w _ ya1)).trans ya1
            replace ya2 := (HB.out.cell (World.block_lt_of_cell? w _ ya2)).trans ya2
            replace ya3 := (HB.out.cell (World.block_lt_of_cell? w _ ya3)).trans ya3
            replace yb0 := (HB.out.cell (World.block_lt_of_cell? w _ yb0)).trans yb0
            replace yb1 := (HB.out.cell (World.block_lt_of_cell? w _ yb1)).trans yb1
            replace yb2 := (HB.out.cell (World.block_lt_of_cell? w _ yb2)).trans yb2
            replace yb3 := (HB.out.cell (World.block_lt_of_cell? w _ yb3)).trans yb3
            replace yc0 := (HB.out.cell (World.block_lt_of_cell? w _ yc0)).trans yc0
            replace yc1 := (HB.out.cell (World.block_lt_of_cell? w _ yc1)).trans yc1
            replace yc2 := (HB.out.cell (World.block_lt_of_cell? w _ yc2)).trans yc2
            replace yc3 := (HB.out.cell (World.block_lt_of_cell? w _ yc3)).trans yc3
            go_upto_region 11 with (fail)
            dsimp only [List.append]
            refine wp_region_quiet_lit (by kernel_rfl) (lex_cast (by kernel_rfl) l6lex) ?_
            repeat (go_big_quiet_step (fail))
            refine wpQuiet_nil ?_
            intro _ hw'
            obtain ⟨nq, hw''⟩ := hw'
            subst hw''
            obtain ⟨D, hD⟩ : ∃ D, D = wrap64 (wrap64 (wrap64 (rd a 0 * wrap64 (wrap64 (rd b 1 * rd c 2) - wrap64 (rd b 2 * rd c 1))) - wrap64 (rd a 1 * wrap64 (wrap64 (rd b 0 * rd c 2) - wrap64 (rd b 2 * rd c 0)))) + wrap64 (rd a 2 * wrap64 (wrap64 (rd b 0 * rd c 1) - wrap64 (rd b 1 * rd c 0)))) := ⟨_, rfl⟩
            rw [← hD]
            have HDm := Aside0.mk (show D = m 3 by rw [hD]; exact HD.out.2.2.2.symm)
            clear hD ya0 ya1 ya2 ya3 yb0 yb1 yb2 yb3 yc0 yc1 yc2 yc3 i0 i1 i2
            have HVn := Aside0.mk (show wrap64 (-D) = vl m 3 by have := HM1.out; rw [HDm.out]; show _ = sg 3 * m 3; unfold sg wrap64; simp; omega)
            have RO5 := Aside0.mk (Kd.R_mono (Kd.R_drewN RO.out nq) (fun _ _ => trivial) : Kd.R (Kd.int .i64) 3 (wr.drewN nq) w.heap.size (fun _ => True) u7 (ul m 3))
            have HB5 := Aside0.mk (pw_below_drewN HB.out nq)
            clear RO HB
            generalize wr.drewN nq = W5 at RO5 HB5 ⊢
            go_wp2_with (first | ((with_reducible refine gate_builtin (b := .append) (xs := #[.tmp 138, .tmp 140]) rfl ?_); at_builtin; (refine Kd.R_append (Kd.int .i64) (w0 := w) w.heap.size rfl (.tmp 138) (.tmp 140) 35 3 (.int .i64 0) 8 rfl Try.underlying35 info3 rfl (by decide) (by omega) _ (ul m 3) (wrap64 (-D)) [.int .i64 (wrap64 (-D))] (fun _ => True) (fun _ => False) rfl (by first | rfl | (go_simp; done) | (go_simp; rfl)) ?aP (fun _ hk => hk.elim) (fun _ _ => trivial) ?aO ?aB ?aS ?aL ?_; (case aP => exact rfl); (case aO => exact RO5.out); (case aB => exact HB5.out); (case aS => exact below_size HB5.out); (case aL => rw [ul_len]; omega); intro v141 w141 ho hb hg hat; rw [HVn.out, ← ul_next] at ho; have RO6 := Aside0.mk ho; have HB6 := Aside0.mk hb; clear ho hb hg hat)))
            go_roundg k1
            case measure => have := HK.out; omega
            case rel => exact ⟨4, 4, rfl, ⟨rfl⟩, ⟨by have := HK.out; omega⟩, RO6, HB6⟩
          | succ k2 =>
            have y0 : 0 ≤ y := by have := HY.out; omega
            have y4 : y < 4 := by have := HY.out; have := HKk.out; omega
            have yn : decide (y < 4) = true := decide_eq_true y4
            have HY1 := Aside0.mk (show y + 1 = ((k + 1 : Nat) : Int) by have := HY.out; omega)
            have hLI := Aside0.mk (il_len 3 k)
            have hnx := il_next 3 k
            rw [← HY.out] at hnx
            by_cases hy : y = 3
            · have hys : (y != 3) = false := by rw [hy]; rfl
              have HNX := Aside0.mk (show il 3 (k + 1) = il 3 k by rw [hnx, if_neg (by rw [show (((3 : Nat) : Int)) = (3 : Int) from rfl, hys]; decide)])
              clear hy hnx
              go_wp2
              go_roundg k2
              case measure => have := HKk.out; omega
              case rel => exact ⟨k + 1, y + 1, rfl, HY1, ⟨by have := HKk.out; omega⟩, by rw [HNX.out]; exact RI, RO, HB, HG⟩
            · have hys : (y != 3) = true := bne_iff_ne.2 hy
              have HNX := Aside0.mk (show il 3 (k + 1) = il 3 k ++ [y] by rw [hnx, if_pos (by rw [show (((3 : Nat) : Int)) = (3 : Int) from rfl, hys])])
              clear hy hnx
              go_wp2_with (first | ((with_reducible refine gate_builtin (b := .append) (xs := #[.tmp 25, .tmp 27]) rfl ?_); at_builtin; refine Kd.R_append (Kd.int .i64) (w0 := wr) WM rfl (.tmp 25) (.tmp 27) 35 3 (.int .i64 0) 8 rfl Try.underlying35 info3 rfl (by decide) (by omega) _ (il 3 k) y [.int .i64 y] (fun _ => True) (fun _ => False) rfl (by first | rfl | (go_simp; done) | (go_simp; rfl)) ?aP (fun _ hk => hk.elim) (fun _ _ => trivial) ?aO ?aB ?aS ?aL ?_; (case aP => exact rfl); (case aO => exact RI.out); (case aB => exact Below.refl _ _); (case aS => exact HG.out); (case aL => have := hLI.out; have := HKk.out; omega); intro v28 w28 ho hb hg hat; rw [← HNX.out] at ho; have RI6 := Aside0.mk ho; have RO6 := Aside0.mk (Kd.R_grown RO.out hg (fun k_ hk_ e_ => by have := Kd.R_base RI.out k_ e_.symm; omega)); have HG6 := Aside0.mk (Nat.le_trans HG.out hb.size); have HB6 := Aside0.mk (show Below w.heap.size w w28 from ⟨hb.os.trans HB.out.os, hb.tape.trans HB.out.tape, hb.output.trans HB.out.output, Nat.le_trans HB.out.size hb.size, fun k_ hk_ => (hb.block k_ (by have := HWM.out; omega)).trans (HB.out.block k_ hk_)⟩); clear ho hb hg hat))
              go_roundg k2
              case measure => have := HKk.out; omega
              case rel => exact ⟨k + 1, y + 1, rfl, HY1, ⟨by have := HKk.out; omega⟩, RI6, RO6, HB6, HG6⟩
end Go.Proofs.Ytmbninbecclbiaa.Man
