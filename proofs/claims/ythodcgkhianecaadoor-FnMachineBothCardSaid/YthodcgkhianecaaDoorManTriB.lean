/- impl.triangleBy over a closure whose answers are known; no condition but these. -/
import Derived.Shelf.Abstract
import Derived.Test.YthodcgkhianecaaDoorPAx21
namespace Go.Proofs.YthodcgkhianecaaDoor.Man
open Go.RowKit Go.Proofs.YthodcgkhianecaaDoor.PA Go.Proofs.YthodcgkhianecaaDoorW.PrintWords Go.Proofs.YthodcgkhianecaaDoorW.PrintLast Go.Proofs.YthodcgkhianecaaDoorW.PrintMore
set_option linter.unusedVariables false
set_option linter.unusedSimpArgs false

/-- What triangleBy answers. -/
def ent (p : Nat → Nat → Bool) (a s : Nat) : Int := if p a s = true then 1 else 0
def preT (p : Nat → Nat → Bool) (i : Nat) : List Int := (List.range i).flatMap fun a => (List.range (a + 1)).map (ent p a)
def triRow (p : Nat → Nat → Bool) : List Int := preT p 6
theorem preT_succ (p : Nat → Nat → Bool) (i : Nat) : preT p (i + 1) = preT p i ++ (List.range (i + 1)).map (ent p i) := by
  unfold preT
  rw [List.range_succ, List.flatMap_append, List.flatMap_cons, List.flatMap_nil, List.append_nil, ← List.range_succ]
theorem inT_succ (p : Nat → Nat → Bool) (i j : Nat) : (List.range (j + 1)).map (ent p i) = (List.range j).map (ent p i) ++ [ent p i j] := by
  rw [List.range_succ, List.map_append]
  rfl
theorem preT_len (p : Nat → Nat → Bool) : ∀ i, (preT p i).length ≤ i * 7 + i * i
  | 0 => by simp [preT]
  | i + 1 => by
    rw [preT_succ, List.length_append, List.length_map, List.length_range]
    have := preT_len p i
    have h : (i + 1) * (i + 1) = i * i + i + i + 1 := by rw [Nat.add_mul, Nat.mul_add]; omega
    omega

set_option maxHeartbeats 8000000 in
set_option maxRecDepth 100000 in
theorem triangleBy (p : Nat → Nat → Bool) (g : Nat) (lb : Array Value) (eg : ∀ args w, (callFunc g args).run Tryd.prog w = .ok (.enter g args) w) (w : World)
    (hp : ∀ (W : World) (x y : Int) (a s : Nat), x = (a : Int) → y = (s : Int) → a ≤ 5 → s ≤ a → Below w.heap.size w W → Calls Tryd.prog g (#[.int .i64 x, .int .i64 y] ++ lb) W fun e w' => e = .returned (.bool (p a s)) ∧ Below W.heap.size W w') :
    Calls Tryd.prog 29 #[.func (.func g) #[] lb] w fun e w' => ∃ v, e = .returned v ∧ Kd.R (Kd.int .i64) 3 w' w.heap.size (fun _ => True) v (triRow p) ∧ Below w.heap.size w w' := by
  have HP := Aside0.mk hp
  clear hp
  go_enter Tryd.func29, Tryd.ntmps29
  go_wp2_with (first | ((with_reducible refine gate_dst (N := 7) rfl ?_); refine Kd.R_lit (Kd.int .i64) _ 3 ?hg (N := 7) ?hd (xs := ([] : List Int)) (inner := []) (ok := fun _ => True) (okp := fun _ => True) ?hr ?hp (fun _ hk => hk) trivial (Below.refl _ _) (Nat.le_refl _) (by simp) ?_; (case hd => rfl); (case hg => rfl); (case hr => first | (go_simp; done) | (go_simp; rfl)); (case hp => exact (Reps.none _ _)); intro v0 w3 ho4 hb hg_ hnew_; clear hg_ hnew_; have RO := Aside0.mk ho4; have HB := Aside0.mk hb; clear ho4 hb))
  go_loopg [3, 8] 6 (fun kq v3 v8 w' => ∃ (i : Nat) (x : Int), v8 = .int .i64 x ∧ Aside0 (x = (i : Int)) ∧ Aside0 (i + kq = 6) ∧ Aside0 (Kd.R (Kd.int .i64) 3 w' w.heap.size (fun _ => True) v3 (preT p i)) ∧ Aside0 (Below w.heap.size w w'))
  case atStart => exact ⟨0, 0, rfl, ⟨rfl⟩, ⟨rfl⟩, RO, HB⟩
  case round =>
    clear RO HB
    obtain ⟨i, x, rfl, HX, HI, RO, HB⟩ := hrel
    cases gk with
    | zero =>
      have hx := HX.out
      have hi := HI.out
      have c1 : decide (x < 6) = false := decide_eq_false (by omega)
      have ei : i = 6 := by omega
      clear hx hi
      go_wp2
      go_ret
      exact ⟨_, rfl, by rw [ei] at RO; exact RO.out, HB.out⟩
    | succ k1 =>
      have hx := HX.out
      have hi := HI.out
      have c1 : decide (x < 6) = true := decide_eq_true (by omega)
      have hx1 : wrap64 (x + 1) = ((i + 1 : Nat) : Int) := by unfold wrap64; omega
      have HX1 := Aside0.mk hx1; clear hx1
      have HI5 := Aside0.mk (show i ≤ 5 by omega)
      clear hx hi
      go_wp2
      go_loopg [3, 13] (i + 1) (fun kq2 v3 v13 w' => ∃ (j : Nat) (y : Int), v13 = .int .i64 y ∧ Aside0 (y = (j : Int)) ∧ Aside0 (j + kq2 = i + 1) ∧ Aside0 (Kd.R (Kd.int .i64) 3 w' w.heap.size (fun _ => True) v3 (preT p i ++ (List.range j).map (ent p i))) ∧ Aside0 (Below w.heap.size w w'))
      case atStart => exact ⟨0, 0, rfl, ⟨rfl⟩, ⟨Nat.zero_add _⟩, ⟨by rw [List.range_zero, List.map_nil, List.append_nil]; exact RO.out⟩, HB⟩
      case round =>
        clear RO HB
        obtain ⟨j, y, rfl, HY, HJ, RO, HB⟩ := hrel
        cases gk with
        | zero =>
          have c2 : decide (y < wrap64 (x + 1)) = false := decide_eq_false (by rw [HX1.out, HY.out]; have := HJ.out; omega)
          have ej : j = i + 1 := by have := HJ.out; omega
          rw [ej, ← preT_succ] at RO
          have RO2 := RO
          clear RO
          go_wp2
          go_roundg k1
          case measure => have := HI.out; omega
          case rel => exact ⟨i + 1, wrap64 (x + 1), rfl, HX1, ⟨by have := HI.out; omega⟩, RO2, HB⟩
        | succ k2 =>
          have c2 : decide (y < wrap64 (x + 1)) = true := decide_eq_true (by rw [HX1.out, HY.out]; have := HJ.out; omega)
          have hy1 : wrap64 (y + 1) = ((j + 1 : Nat) : Int) := by have := HY.out; have := HJ.out; have := HI5.out; unfold wrap64; omega
          have HY1 := Aside0.mk hy1; clear hy1
          have HC := Aside0.mk (HP.out wr x y i j HX.out HY.out HI5.out (by have := HJ.out; omega) HB.out)
          obtain ⟨zs, hzs⟩ : ∃ z, z = preT p i ++ (List.range j).map (ent p i) := ⟨_, rfl⟩
          have LZ := Aside0.mk (show zs.length < 17592186044416 by rw [hzs, List.length_append, List.length_map, List.length_range]; have h1 := preT_len p i; have h2 := HI5.out; have h3 := HJ.out; have h4 : i * i ≤ 5 * 5 := Nat.mul_le_mul h2 h2; omega)
          rw [← hzs] at RO
          obtain ⟨e, he⟩ : ∃ e, e = ent p i j := ⟨_, rfl⟩
          obtain ⟨ys, hys⟩ : ∃ y, y = zs ++ [e] := ⟨_, rfl⟩
          have NY := Aside0.mk hys
          have NR := Aside0.mk (show ys = preT p i ++ (List.range (j + 1)).map (ent p i) by rw [hys, hzs, he, inT_succ, List.append_assoc])
          clear hzs hys
          cases hq : p i j with
          | true =>
            rw [hq] at HC
            obtain rfl : e = 1 := by rw [he]; unfold ent; rw [if_pos hq]
            clear he hq
            go_wp2_with (first | (go_at_fn g; refine HC.out.mono ?_; rintro e w' ⟨rfl, hb'⟩; have HBc := Aside0.mk (below_step HB.out hb'); have ROc := Aside0.mk (Kd.R_below RO.out hb'); clear hb') | ((with_reducible refine gate_builtin (b := .append) (xs := #[.tmp 20, .tmp 22]) rfl ?_); at_builtin; refine Kd.R_append (Kd.int .i64) (w0 := w) w.heap.size rfl (.tmp 20) (.tmp 22) 23 3 (.int .i64 0) 8 rfl Tryd.underlying23 info3 rfl (by decide) (by omega) _ zs 1 [.int .i64 1] (fun _ => True) (fun _ => False) rfl (by first | rfl | (go_simp; done) | (go_simp; rfl)) ?aP (fun _ hk => hk.elim) ?aF ?aO ?aB ?aS ?aL ?_; (case aP => exact rfl); (case aB => repeat (first | exact HBc.out | apply below_alloc | apply pw_below_drewN | apply below_drew1)); (case aF => exact fun _ _ => trivial); (case aO => repeat (first | exact ROc.out | apply Kd.R_alloc | apply Kd.R_drewN | apply Kd.R_drew)); (case aS => refine below_size ?_; repeat (first | exact HBc.out | apply below_alloc | apply pw_below_drewN | apply below_drew1)); (case aL => have := LZ.out; omega); intro v9 w18 ho hb hg hat; rw [← NY.out, NR.out] at ho; have ROn := Aside0.mk ho; have HBn := Aside0.mk hb; clear ho hb hg hat))
            go_roundg k2
            case measure => have := HJ.out; omega
            case rel => exact ⟨j + 1, wrap64 (y + 1), rfl, HY1, ⟨by have := HJ.out; omega⟩, ROn, HBn⟩
          | false =>
            rw [hq] at HC
            obtain rfl : e = 0 := by rw [he]; unfold ent; rw [if_neg (by rw [hq]; exact Bool.false_ne_true)]
            clear he hq
            go_wp2_with (first | (go_at_fn g; refine HC.out.mono ?_; rintro e w' ⟨rfl, hb'⟩; have HBc := Aside0.mk (below_step HB.out hb'); have ROc := Aside0.mk (Kd.R_below RO.out hb'); clear hb') | ((with_reducible refine gate_builtin (b := .append) (xs := #[.tmp 20, .tmp 22]) rfl ?_); at_builtin; refine Kd.R_append (Kd.int .i64) (w0 := w) w.heap.size rfl (.tmp 20) (.tmp 22) 23 3 (.int .i64 0) 8 rfl Tryd.underlying23 info3 rfl (by decide) (by omega) _ zs 0 [.int .i64 0] (fun _ => True) (fun _ => False) rfl (by first | rfl | (go_simp; done) | (go_simp; rfl)) ?aP (fun _ hk => hk.elim) ?aF ?aO ?aB ?aS ?aL ?_; (case aP => exact rfl); (case aB => repeat (first | exact HBc.out | apply below_alloc | apply pw_below_drewN | apply below_drew1)); (case aF => exact fun _ _ => trivial); (case aO => repeat (first | exact ROc.out | apply Kd.R_alloc | apply Kd.R_drewN | apply Kd.R_drew)); (case aS => refine below_size ?_; repeat (first | exact HBc.out | apply below_alloc | apply pw_below_drewN | apply below_drew1)); (case aL => have := LZ.out; omega); intro v9 w18 ho hb hg hat; rw [← NY.out, NR.out] at ho; have ROn := Aside0.mk ho; have HBn := Aside0.mk hb; clear ho hb hg hat))
            go_roundg k2
            case measure => have := HJ.out; omega
            case rel => exact ⟨j + 1, wrap64 (y + 1), rfl, HY1, ⟨by have := HJ.out; omega⟩, ROn, HBn⟩

end Go.Proofs.YthodcgkhianecaaDoor.Man
