/- The machine side of functions of this seat, written by the session's program myprint.py: for each Go function a Lean function and the proof that the call answers just it. -/
import Derived.Test.YthodcgkhianecaaDoorPAx0
import Derived.Test.YthodcgkhianecaaDoorUp
namespace Go.Proofs.YthodcgkhianecaaDoor.PA
open Go.RowKit Go.Proofs.YthodcgkhianecaaDoorW.PrintWords Go.Proofs.YthodcgkhianecaaDoorW.PrintLast Go.Proofs.YthodcgkhianecaaDoorW.PrintMore
attribute [local go_sem] max2_int min2_int max_two min_two max_three min_three max_four min_four   -- for this text's walks alone
set_option linter.unusedVariables false
set_option linter.unusedSimpArgs false

/-! ### impl_isMachine: function 22 -/
mutual
def impl_isMachine.j0 : Nat → Int → Bool → List Int → List Int → List Int → Option (Bool)
 | 0,_,_,_,_,_ => none
 | k + 1,x3,x27,x358000,x358001,x358002 => if x27 = true then (some false) else (impl_isMachine.l0 k x3 x3 0 x358000 x358001 x358002)
def impl_isMachine.l0 : Nat → Int → Int → Int → List Int → List Int → List Int → Option (Bool)
 | 0,_,_,_,_,_,_ => none
 | k + 1,x3,x28,x29,x358000,x358001,x358002 => if x29 < x28 then (if 0 ≤ x29 then (if x29 < (x358000.length : Int) then (if (rd x358000 x29) < 0 then (some false) else (if (rd x358000 x29) ≥ x3 then (some false) else (if x29 < (x358001.length : Int) then (if (rd x358001 x29) < 0 then (some false) else (if (rd x358001 x29) ≥ x3 then (some false) else (if x29 < (x358002.length : Int) then (if (rd x358002 x29) = 0 then (impl_isMachine.l0 k x3 x28 (wrap64 (x29 + 1)) x358000 x358001 x358002) else (if (rd x358002 x29) = 1 then (impl_isMachine.l0 k x3 x28 (wrap64 (x29 + 1)) x358000 x358001 x358002) else (some false))) else (none)))) else (none)))) else (none)) else (none)) else (some true)
end
def impl_isMachine.f (k : Nat) (l0_0 : List Int) (l0_1 : List Int) (l0_2 : List Int) : Option (Bool):=if (l0_2.length : Int) < 1 then (impl_isMachine.j0 k (l0_2.length : Int) true l0_0 l0_1 l0_2) else (if (l0_2.length : Int) > 12 then (impl_isMachine.j0 k (l0_2.length : Int) true l0_0 l0_1 l0_2) else (if (l0_0.length : Int) = (l0_2.length : Int) then (impl_isMachine.j0 k (l0_2.length : Int) ((l0_1.length : Int) != (l0_2.length : Int)) l0_0 l0_1 l0_2) else (impl_isMachine.j0 k (l0_2.length : Int) true l0_0 l0_1 l0_2)))
theorem impl_isMachine.mono_l : ∀ k,(∀ y0 y1 y2 y3 y4,LeO (impl_isMachine.j0 k y0 y1 y2 y3 y4) (impl_isMachine.j0 (k + 1) y0 y1 y2 y3 y4)) ∧ (∀ y0 y1 y2 y3 y4 y5,LeO (impl_isMachine.l0 k y0 y1 y2 y3 y4 y5) (impl_isMachine.l0 (k + 1) y0 y1 y2 y3 y4 y5))
 | 0 => ⟨fun _ _ _ _ _ r h => by simp [impl_isMachine.j0] at h,fun _ _ _ _ _ _ r h => by simp [impl_isMachine.l0] at h⟩
 | k + 1 => by
  obtain ⟨ih0,ih1⟩:=impl_isMachine.mono_l k
  refine ⟨?_,?_⟩
  ·
   intro y0 y1 y2 y3 y4
   unfold impl_isMachine.j0
   repeat' first
   | (with_reducible exact ih0 _ _ _ _ _)
   | (with_reducible exact ih1 _ _ _ _ _ _)
   | (with_reducible exact LeO.refl _)
   | (with_reducible exact LeO.none _)
   | (with_reducible refine LeO.ite ?_ ?_)
   | (with_reducible refine LeO.bind ?_ (fun _ => ?_))
   | exact ih0 _ _ _ _ _
   | exact ih1 _ _ _ _ _ _
   | exact LeO.none _
   | refine LeO.ite ?_ ?_
   | refine LeO.bind ?_ (fun _ => ?_)
  ·
   intro y0 y1 y2 y3 y4 y5
   unfold impl_isMachine.l0
   repeat' first
   | (with_reducible exact ih0 _ _ _ _ _)
   | (with_reducible exact ih1 _ _ _ _ _ _)
   | (with_reducible exact LeO.refl _)
   | (with_reducible exact LeO.none _)
   | (with_reducible refine LeO.ite ?_ ?_)
   | (with_reducible refine LeO.bind ?_ (fun _ => ?_))
   | exact ih0 _ _ _ _ _
   | exact ih1 _ _ _ _ _ _
   | exact LeO.none _
   | refine LeO.ite ?_ ?_
   | refine LeO.bind ?_ (fun _ => ?_)
theorem impl_isMachine.mono : ∀ a0 a1 a2 k,LeO (impl_isMachine.f k a0 a1 a2) (impl_isMachine.f (k + 1) a0 a1 a2):=by
 intro a0 a1 a2 k
 obtain ⟨ih0,ih1⟩:=impl_isMachine.mono_l k
 unfold impl_isMachine.f
 repeat' first
   | (with_reducible exact ih0 _ _ _ _ _)
   | (with_reducible exact ih1 _ _ _ _ _ _)
   | (with_reducible exact LeO.refl _)
   | (with_reducible exact LeO.none _)
   | (with_reducible refine LeO.ite ?_ ?_)
   | (with_reducible refine LeO.bind ?_ (fun _ => ?_))
   | exact ih0 _ _ _ _ _
   | exact ih1 _ _ _ _ _ _
   | exact LeO.none _
   | refine LeO.ite ?_ ?_
   | refine LeO.bind ?_ (fun _ => ?_)
set_option maxHeartbeats 8000000 in
set_option maxRecDepth 100000 in
theorem impl_isMachine.calls (k : Nat) (A0_0 : Option Addr) (c0_0 : Nat) (l0_0 : List Int) (A0_1 : Option Addr) (c0_1 : Nat) (l0_1 : List Int) (A0_2 : Option Addr) (c0_2 : Nat) (l0_2 : List Int) (r : Bool) (w : World) (hr0_0 : Kd.C (Kd.int .i64) w A0_0 l0_0.length l0_0) (hc0_0 : l0_0.length ≤ c0_0) (hr0_1 : Kd.C (Kd.int .i64) w A0_1 l0_1.length l0_1) (hc0_1 : l0_1.length ≤ c0_1) (hr0_2 : Kd.C (Kd.int .i64) w A0_2 l0_2.length l0_2) (hc0_2 : l0_2.length ≤ c0_2) (h : impl_isMachine.f k l0_0 l0_1 l0_2 = some r) :
  Calls Tryd.prog 22 #[.agg #[.slice A0_0 l0_0.length c0_0,.slice A0_1 l0_1.length c0_1,.slice A0_2 l0_2.length c0_2]] w fun e w' => e = .returned (.bool r) ∧ Below w.heap.size w w':=by
 have hu25:=Tryd.underlying25
 have HR0_0:=Aside0.mk hr0_0
 have HC0_0:=Aside0.mk hc0_0;clear hr0_0 hc0_0
 have HR0_1:=Aside0.mk hr0_1
 have HC0_1:=Aside0.mk hc0_1;clear hr0_1 hc0_1
 have HR0_2:=Aside0.mk hr0_2
 have HC0_2:=Aside0.mk hc0_2;clear hr0_2 hc0_2;have HB:=Aside0.mk (Below.refl w.heap.size w)
 have H : (if (l0_2.length : Int) < 1 then (impl_isMachine.j0 k (l0_2.length : Int) true l0_0 l0_1 l0_2) else (if (l0_2.length : Int) > 12 then (impl_isMachine.j0 k (l0_2.length : Int) true l0_0 l0_1 l0_2) else (if (l0_0.length : Int) = (l0_2.length : Int) then (impl_isMachine.j0 k (l0_2.length : Int) ((l0_1.length : Int) != (l0_2.length : Int)) l0_0 l0_1 l0_2) else (impl_isMachine.j0 k (l0_2.length : Int) true l0_0 l0_1 l0_2)))) = some r:=h;clear h
 have HC2:=Aside0.mk H;clear H
 go_enter Tryd.func22,Tryd.ntmps22
 go_upto_region 2 with (first|((with_reducible refine gate_dst (N:=1) rfl ?_);(try (refine gate_guard (by rfl) ?_;dsimp only));refine box_event ?hg (N:=1) ?hd (cs:=#[.slice A0_0 l0_0.length c0_0,.slice A0_1 l0_1.length c0_1,.slice A0_2 l0_2.length c0_2]) (t:=25) ?hr ?_;(case hd => rfl);(case hg => rfl);(case hr => first|(go_simp;done)|(go_simp;rfl));intro gb357 hg w3 hbox hb;have n0_:=Aside0.mk (below_step (belU HB.out) hb);have n1_:=Aside0.mk (hbox);have n2_:=Aside0.mk ((by rw [hg];exact (below_size (belU HB.out)) : w.heap.size ≤ gb357));have n3_:=Aside0.mk ((by rw [hg];exact (below_size (belU HB.out)) : w.heap.size ≤ gb357));clear HB;have HB:=n0_;have BK357:=n1_;have GW357:=n2_;have GE357:=n3_;clear n0_ n1_ n2_ n3_ hb hbox hg;have hcz4_0 : w3.cell? ⟨gb357,0,none⟩ = some (.slice A0_0 l0_0.length c0_0):=(blk_cell BK357.out 0).trans rfl;have hcz4_1 : w3.cell? ⟨gb357,1,none⟩ = some (.slice A0_1 l0_1.length c0_1):=(blk_cell BK357.out 1).trans rfl;have hcz4_2 : w3.cell? ⟨gb357,2,none⟩ = some (.slice A0_2 l0_2.length c0_2):=(blk_cell BK357.out 2).trans rfl;have hfz4_0:=blk_frozen BK357.out 0;have hfz4_1:=blk_frozen BK357.out 1;have hfz4_2:=blk_frozen BK357.out 2))
 (try simp only [Act.put,List.setIfInBounds_toArray,List.set_cons_zero,List.set_cons_succ])
 go_cut [27] (fun v27 wc => ∃ (kq : Nat) (x27_1 : Bool),v27 = .bool x27_1 ∧ Aside0 (impl_isMachine.j0 kq (l0_2.length : Int) x27_1 l0_0 l0_1 l0_2 = some r) ∧ Aside0 (kq ≤ k) ∧ Aside0 (wc.heap[gb357]? = some (.cells #[(.slice A0_0 l0_0.length c0_0),(.slice A0_1 l0_1.length c0_1),(.slice A0_2 l0_2.length c0_2)] 25 (0,0))) ∧ Aside0 (Below w.heap.size w wc))
 case first =>
  have H:=HC2.out;clear HC2
  by_cases c5 : (l0_2.length : Int) < 1
  ·
   rw [if_pos c5] at H
   have c5b0 : decide ((l0_2.length : Int) < 1) = true:=decide_eq_true c5
   have c5b1 : decide (l0_2.length < 1) = true:=decide_eq_true (by omega);clear c5
   (first|rw [c5b0]|(simp only [i64_w,i32_w];rw [c5b0])|skip)
   have H':=Aside0.mk H;clear H
   go_wp2
   go_meet
   case rel => exact ⟨_,(true),(by first|rfl|(simp;done)|(simp [*];done)),H',⟨by first|omega|exact Nat.le_refl _⟩,⟨blkU BK357.out⟩,⟨by repeat (first|(with_reducible first|exact HB.out|apply below_alloc|apply pw_below_drewN|apply below_drew1|refine below_set ?_ GE357.out)|exact HB.out)⟩⟩
  ·
   rw [if_neg c5] at H
   have c5b0 : decide ((l0_2.length : Int) < 1) = false:=decide_eq_false c5
   have c5b1 : decide (l0_2.length < 1) = false:=decide_eq_false (by omega);clear c5
   (first|rw [c5b0]|(simp only [i64_w,i32_w];rw [c5b0])|skip)
   by_cases c6 : (l0_2.length : Int) > 12
   ·
    rw [if_pos c6] at H
    have c6b0 : decide (12 < (l0_2.length : Int)) = true:=decide_eq_true c6
    have c6b1 : decide (12 < l0_2.length) = true:=decide_eq_true (by omega);clear c6
    have H':=Aside0.mk H;clear H
    go_wp2
    go_meet
    case rel => exact ⟨_,(true),(by first|rfl|(simp;done)|(simp [*];done)),H',⟨by first|omega|exact Nat.le_refl _⟩,⟨blkU BK357.out⟩,⟨by repeat (first|(with_reducible first|exact HB.out|apply below_alloc|apply pw_below_drewN|apply below_drew1|refine below_set ?_ GE357.out)|exact HB.out)⟩⟩
   ·
    rw [if_neg c6] at H
    have c6b0 : decide (12 < (l0_2.length : Int)) = false:=decide_eq_false c6
    have c6b1 : decide (12 < l0_2.length) = false:=decide_eq_false (by omega);clear c6
    by_cases c7 : (l0_0.length : Int) = (l0_2.length : Int)
    ·
     rw [if_pos c7] at H
     have c7b0 : ((l0_0.length : Int) == (l0_2.length : Int)) = true:=beq_iff_eq.mpr c7
     have c7b1 : ((l0_0.length : Int) != (l0_2.length : Int)) = false:=bne_eq_false_iff_eq.mpr c7
     have c7b2 : (l0_0.length == l0_2.length) = true:=by first|simpa using c7|(simp at c7 ⊢;omega)
     clear c7
     have H':=Aside0.mk H;clear H
     have hcz8_0 : w3.cell? ⟨gb357,0,none⟩ = some (.slice A0_0 l0_0.length c0_0):=(blk_cell BK357.out 0).trans rfl
     have hcz8_1 : w3.cell? ⟨gb357,1,none⟩ = some (.slice A0_1 l0_1.length c0_1):=(blk_cell BK357.out 1).trans rfl
     have hcz8_2 : w3.cell? ⟨gb357,2,none⟩ = some (.slice A0_2 l0_2.length c0_2):=(blk_cell BK357.out 2).trans rfl
     have hfz8_0:=blk_frozen BK357.out 0
     have hfz8_1:=blk_frozen BK357.out 1
     have hfz8_2:=blk_frozen BK357.out 2
     go_wp2
     go_meet
     case rel => exact ⟨_,(((l0_1.length : Int) != (l0_2.length : Int))),(by first|rfl|(simp;done)|(simp [*];done)),H',⟨by first|omega|exact Nat.le_refl _⟩,⟨blkU BK357.out⟩,⟨by repeat (first|(with_reducible first|exact HB.out|apply below_alloc|apply pw_below_drewN|apply below_drew1|refine below_set ?_ GE357.out)|exact HB.out)⟩⟩
    ·
     rw [if_neg c7] at H
     have c7b0 : ((l0_0.length : Int) == (l0_2.length : Int)) = false:=beq_eq_false_iff_ne.mpr c7
     have c7b1 : ((l0_0.length : Int) != (l0_2.length : Int)) = true:=bne_iff_ne.mpr c7
     have c7b2 : (l0_0.length == l0_2.length) = false:=by first|simpa using c7|(simp at c7 ⊢;omega)
     have H':=Aside0.mk H;clear H
     have hcz9_0 : w3.cell? ⟨gb357,0,none⟩ = some (.slice A0_0 l0_0.length c0_0):=(blk_cell BK357.out 0).trans rfl
     have hcz9_1 : w3.cell? ⟨gb357,1,none⟩ = some (.slice A0_1 l0_1.length c0_1):=(blk_cell BK357.out 1).trans rfl
     have hcz9_2 : w3.cell? ⟨gb357,2,none⟩ = some (.slice A0_2 l0_2.length c0_2):=(blk_cell BK357.out 2).trans rfl
     have hfz9_0:=blk_frozen BK357.out 0
     have hfz9_1:=blk_frozen BK357.out 1
     have hfz9_2:=blk_frozen BK357.out 2
     go_wp2
     go_meet
     case rel => exact ⟨_,(true),(by first|rfl|(simp;done)|(simp [*];done)),H',⟨by first|omega|exact Nat.le_refl _⟩,⟨blkU BK357.out⟩,⟨by repeat (first|(with_reducible first|exact HB.out|apply below_alloc|apply pw_below_drewN|apply below_drew1|refine below_set ?_ GE357.out)|exact HB.out)⟩⟩
 case rest =>
  clear HC2
  try clear c2
  try clear p2
  try clear c5
  try clear c5b0
  try clear c5b1
  try clear c6
  try clear c6b0
  try clear c6b1
  try clear c7
  try clear c7b0
  try clear c7b1
  try clear c7b2
  try clear hcz4_0
  try clear hcz4_1
  try clear hcz4_2
  try clear hcz8_0
  try clear hcz8_1
  try clear hcz8_2
  try clear hcz9_0
  try clear hcz9_1
  try clear hcz9_2
  try clear hfz4_0
  try clear hfz4_1
  try clear hfz4_2
  try clear hfz8_0
  try clear hfz8_1
  try clear hfz8_2
  try clear hfz9_0
  try clear hfz9_1
  try clear hfz9_2
  obtain ⟨kq,x27_1,rfl,HA,HJ1,BK357,HB⟩:=hcut
  cases kq with
  | zero => exact absurd HA.out (by simp [impl_isMachine.j0])
  | succ kj1 =>
   have H:=HA.out;clear HA
   simp only [impl_isMachine.j0] at H
   by_cases c10 : x27_1 = true
   ·
    subst c10
    have H1 : (some false) = some r:=by rw [if_pos rfl] at H;exact H
    clear H;have H:=H1;clear H1
    obtain rfl:=Option.some.inj H
    go_wp2
    go_ret
    exact ⟨by first|rfl|(simp [errW_none,errW_some] <;> rfl)|(simp [*,errW_none,errW_some] <;> rfl),by repeat (first|(with_reducible first|exact HB.out|apply below_alloc|apply pw_below_drewN|apply below_drew1|refine below_set ?_ GE357.out)|exact HB.out)⟩
   ·
    replace c10:=Bool.eq_false_iff.mpr c10;subst c10
    have H1 : (impl_isMachine.l0 kj1 (l0_2.length : Int) (l0_2.length : Int) 0 l0_0 l0_1 l0_2) = some r:=by rw [if_neg (show ¬ (false = true) by decide)] at H;exact H
    clear H;have H:=H1;clear H1
    have H':=Aside0.mk H;clear H
    go_wp2
    go_loopg [29] kj1 (fun kq v29 w' => ∃ (x29_2 : Int),v29 = .int .i64 x29_2 ∧ Aside0 (impl_isMachine.l0 kq (l0_2.length : Int) (l0_2.length : Int) x29_2 l0_0 l0_1 l0_2 = some r) ∧ Aside0 (kq ≤ kj1) ∧ Aside0 (w'.heap[gb357]? = some (.cells #[(.slice A0_0 l0_0.length c0_0),(.slice A0_1 l0_1.length c0_1),(.slice A0_2 l0_2.length c0_2)] 25 (0,0))) ∧ Aside0 (Below w.heap.size w w'))
    case atStart => exact ⟨(0),(by first|rfl|(simp;done)|(simp [*];done)),H',⟨Nat.le_refl _⟩,⟨blkU BK357.out⟩,⟨by repeat (first|(with_reducible first|exact HB.out|apply below_alloc|apply pw_below_drewN|apply below_drew1|refine below_set ?_ GE357.out)|exact HB.out)⟩⟩
    case round =>
     clear H'
     try clear c1
     try clear c2
     try clear p2
     try clear c5
     try clear c5b0
     try clear c5b1
     try clear c6
     try clear c6b0
     try clear c6b1
     try clear c7
     try clear c7b0
     try clear c7b1
     try clear c7b2
     try clear c10
     try clear hcz4_0
     try clear hcz4_1
     try clear hcz4_2
     try clear hcz8_0
     try clear hcz8_1
     try clear hcz8_2
     try clear hcz9_0
     try clear hcz9_1
     try clear hcz9_2
     try clear hfz4_0
     try clear hfz4_1
     try clear hfz4_2
     try clear hfz8_0
     try clear hfz8_1
     try clear hfz8_2
     try clear hfz9_0
     try clear hfz9_1
     try clear hfz9_2
     try clear p2
     obtain ⟨x29_2,rfl,HA,HK2,BK357,HB⟩:=hrel
     cases gk with
     | zero => exact absurd HA.out (by simp [impl_isMachine.l0])
     | succ k2 =>
      have H:=HA.out;clear HA
      simp only [impl_isMachine.l0] at H
      by_cases c11 : x29_2 < (l0_2.length : Int)
      ·
       rw [if_pos c11] at H
       have c11b0 : decide (x29_2 < (l0_2.length : Int)) = true:=decide_eq_true c11;clear c11
       by_cases c12 : 0 ≤ x29_2
       ·
        rw [if_pos c12] at H
        have c12b0 : decide (0 ≤ x29_2) = true:=decide_eq_true c12;clear c12
        by_cases c13 : x29_2 < (l0_0.length : Int)
        ·
         rw [if_pos c13] at H
         have c13b0 : decide (x29_2 < (l0_0.length : Int)) = true:=decide_eq_true c13;clear c13
         by_cases c14 : (rd l0_0 x29_2) < 0
         ·
          rw [if_pos c14] at H
          have c14b0 : decide ((rd l0_0 x29_2) < 0) = true:=decide_eq_true c14;clear c14
          obtain rfl:=Option.some.inj H
          have hcz15_0 : wr.cell? ⟨gb357,0,none⟩ = some (.slice A0_0 l0_0.length c0_0):=(blk_cell BK357.out 0).trans rfl
          have hcz15_1 : wr.cell? ⟨gb357,1,none⟩ = some (.slice A0_1 l0_1.length c0_1):=(blk_cell BK357.out 1).trans rfl
          have hcz15_2 : wr.cell? ⟨gb357,2,none⟩ = some (.slice A0_2 l0_2.length c0_2):=(blk_cell BK357.out 2).trans rfl
          have hfz15_0:=blk_frozen BK357.out 0
          have hfz15_1:=blk_frozen BK357.out 1
          have hfz15_2:=blk_frozen BK357.out 2
          have p358 : 0 ≤ (x29_2 : Int):=of_decide_eq_true (by first|(with_reducible assumption)|assumption)
          have q358 : x29_2 < (l0_0.length : Int):=of_decide_eq_true (by first|(with_reducible assumption)|assumption)
          obtain ⟨ad358,e358,hx358_0⟩:=Kd.at_int HR0_0.out x29_2 p358 q358
          cases e358
          replace hx358_0:=(HB.out.cell (World.block_lt_of_cell? w _ hx358_0)).trans hx358_0
          replace p358:=eq_true p358
          replace q358:=eq_true q358
          go_wp2
          go_ret
          exact ⟨by first|rfl|(simp [errW_none,errW_some] <;> rfl)|(simp [*,errW_none,errW_some] <;> rfl),by repeat (first|(with_reducible first|exact HB.out|apply below_alloc|apply pw_below_drewN|apply below_drew1|refine below_set ?_ GE357.out)|exact HB.out)⟩
         ·
          rw [if_neg c14] at H
          have c14b0 : decide ((rd l0_0 x29_2) < 0) = false:=decide_eq_false c14;clear c14
          by_cases c16 : (rd l0_0 x29_2) ≥ (l0_2.length : Int)
          ·
           rw [if_pos c16] at H
           have c16b0 : decide ((l0_2.length : Int) ≤ (rd l0_0 x29_2)) = true:=decide_eq_true c16;clear c16
           obtain rfl:=Option.some.inj H
           have hcz17_0 : wr.cell? ⟨gb357,0,none⟩ = some (.slice A0_0 l0_0.length c0_0):=(blk_cell BK357.out 0).trans rfl
           have hcz17_1 : wr.cell? ⟨gb357,1,none⟩ = some (.slice A0_1 l0_1.length c0_1):=(blk_cell BK357.out 1).trans rfl
           have hcz17_2 : wr.cell? ⟨gb357,2,none⟩ = some (.slice A0_2 l0_2.length c0_2):=(blk_cell BK357.out 2).trans rfl
           have hfz17_0:=blk_frozen BK357.out 0
           have hfz17_1:=blk_frozen BK357.out 1
           have hfz17_2:=blk_frozen BK357.out 2
           have p358 : 0 ≤ (x29_2 : Int):=of_decide_eq_true (by first|(with_reducible assumption)|assumption)
           have q358 : x29_2 < (l0_0.length : Int):=of_decide_eq_true (by first|(with_reducible assumption)|assumption)
           obtain ⟨ad358,e358,hx358_0⟩:=Kd.at_int HR0_0.out x29_2 p358 q358
           cases e358
           replace hx358_0:=(HB.out.cell (World.block_lt_of_cell? w _ hx358_0)).trans hx358_0
           replace p358:=eq_true p358
           replace q358:=eq_true q358
           have p359 : 0 ≤ (x29_2 : Int):=of_decide_eq_true (by first|(with_reducible assumption)|assumption)
           have q359 : x29_2 < (l0_0.length : Int):=of_decide_eq_true (by first|(with_reducible assumption)|assumption)
           obtain ⟨ad359,e359,hx359_0⟩:=Kd.at_int HR0_0.out x29_2 p359 q359
           obtain rfl : ad358 = ad359:=(by injection e359)
           replace hx359_0:=(HB.out.cell (World.block_lt_of_cell? w _ hx359_0)).trans hx359_0
           replace p359:=eq_true p359
           replace q359:=eq_true q359
           go_wp2
           go_ret
           exact ⟨by first|rfl|(simp [errW_none,errW_some] <;> rfl)|(simp [*,errW_none,errW_some] <;> rfl),by repeat (first|(with_reducible first|exact HB.out|apply below_alloc|apply pw_below_drewN|apply below_drew1|refine below_set ?_ GE357.out)|exact HB.out)⟩
          ·
           rw [if_neg c16] at H
           have c16b0 : decide ((l0_2.length : Int) ≤ (rd l0_0 x29_2)) = false:=decide_eq_false c16;clear c16
           by_cases c18 : x29_2 < (l0_1.length : Int)
           ·
            rw [if_pos c18] at H
            have c18b0 : decide (x29_2 < (l0_1.length : Int)) = true:=decide_eq_true c18;clear c18
            by_cases c19 : (rd l0_1 x29_2) < 0
            ·
             rw [if_pos c19] at H
             have c19b0 : decide ((rd l0_1 x29_2) < 0) = true:=decide_eq_true c19;clear c19
             obtain rfl:=Option.some.inj H
             have hcz20_0 : wr.cell? ⟨gb357,0,none⟩ = some (.slice A0_0 l0_0.length c0_0):=(blk_cell BK357.out 0).trans rfl
             have hcz20_1 : wr.cell? ⟨gb357,1,none⟩ = some (.slice A0_1 l0_1.length c0_1):=(blk_cell BK357.out 1).trans rfl
             have hcz20_2 : wr.cell? ⟨gb357,2,none⟩ = some (.slice A0_2 l0_2.length c0_2):=(blk_cell BK357.out 2).trans rfl
             have hfz20_0:=blk_frozen BK357.out 0
             have hfz20_1:=blk_frozen BK357.out 1
             have hfz20_2:=blk_frozen BK357.out 2
             have p358 : 0 ≤ (x29_2 : Int):=of_decide_eq_true (by first|(with_reducible assumption)|assumption)
             have q358 : x29_2 < (l0_0.length : Int):=of_decide_eq_true (by first|(with_reducible assumption)|assumption)
             obtain ⟨ad358,e358,hx358_0⟩:=Kd.at_int HR0_0.out x29_2 p358 q358
             cases e358
             replace hx358_0:=(HB.out.cell (World.block_lt_of_cell? w _ hx358_0)).trans hx358_0
             replace p358:=eq_true p358
             replace q358:=eq_true q358
             have p359 : 0 ≤ (x29_2 : Int):=of_decide_eq_true (by first|(with_reducible assumption)|assumption)
             have q359 : x29_2 < (l0_0.length : Int):=of_decide_eq_true (by first|(with_reducible assumption)|assumption)
             obtain ⟨ad359,e359,hx359_0⟩:=Kd.at_int HR0_0.out x29_2 p359 q359
             obtain rfl : ad358 = ad359:=(by injection e359)
             replace hx359_0:=(HB.out.cell (World.block_lt_of_cell? w _ hx359_0)).trans hx359_0
             replace p359:=eq_true p359
             replace q359:=eq_true q359
             have p360 : 0 ≤ (x29_2 : Int):=of_decide_eq_true (by first|(with_reducible assumption)|assumption)
             have q360 : x29_2 < (l0_1.length : Int):=of_decide_eq_true (by first|(with_reducible assumption)|assumption)
             obtain ⟨ad360,e360,hx360_0⟩:=Kd.at_int HR0_1.out x29_2 p360 q360
             cases e360
             replace hx360_0:=(HB.out.cell (World.block_lt_of_cell? w _ hx360_0)).trans hx360_0
             replace p360:=eq_true p360
             replace q360:=eq_true q360
             go_wp2
             go_ret
             exact ⟨by first|rfl|(simp [errW_none,errW_some] <;> rfl)|(simp [*,errW_none,errW_some] <;> rfl),by repeat (first|(with_reducible first|exact HB.out|apply below_alloc|apply pw_below_drewN|apply below_drew1|refine below_set ?_ GE357.out)|exact HB.out)⟩
            ·
             rw [if_neg c19] at H
             have c19b0 : decide ((rd l0_1 x29_2) < 0) = false:=decide_eq_false c19;clear c19
             by_cases c21 : (rd l0_1 x29_2) ≥ (l0_2.length : Int)
             ·
              rw [if_pos c21] at H
              have c21b0 : decide ((l0_2.length : Int) ≤ (rd l0_1 x29_2)) = true:=decide_eq_true c21;clear c21
              obtain rfl:=Option.some.inj H
              have hcz22_0 : wr.cell? ⟨gb357,0,none⟩ = some (.slice A0_0 l0_0.length c0_0):=(blk_cell BK357.out 0).trans rfl
              have hcz22_1 : wr.cell? ⟨gb357,1,none⟩ = some (.slice A0_1 l0_1.length c0_1):=(blk_cell BK357.out 1).trans rfl
              have hcz22_2 : wr.cell? ⟨gb357,2,none⟩ = some (.slice A0_2 l0_2.length c0_2):=(blk_cell BK357.out 2).trans rfl
              have hfz22_0:=blk_frozen BK357.out 0
              have hfz22_1:=blk_frozen BK357.out 1
              have hfz22_2:=blk_frozen BK357.out 2
              have p358 : 0 ≤ (x29_2 : Int):=of_decide_eq_true (by first|(with_reducible assumption)|assumption)
              have q358 : x29_2 < (l0_0.length : Int):=of_decide_eq_true (by first|(with_reducible assumption)|assumption)
              obtain ⟨ad358,e358,hx358_0⟩:=Kd.at_int HR0_0.out x29_2 p358 q358
              cases e358
              replace hx358_0:=(HB.out.cell (World.block_lt_of_cell? w _ hx358_0)).trans hx358_0
              replace p358:=eq_true p358
              replace q358:=eq_true q358
              have p359 : 0 ≤ (x29_2 : Int):=of_decide_eq_true (by first|(with_reducible assumption)|assumption)
              have q359 : x29_2 < (l0_0.length : Int):=of_decide_eq_true (by first|(with_reducible assumption)|assumption)
              obtain ⟨ad359,e359,hx359_0⟩:=Kd.at_int HR0_0.out x29_2 p359 q359
              obtain rfl : ad358 = ad359:=(by injection e359)
              replace hx359_0:=(HB.out.cell (World.block_lt_of_cell? w _ hx359_0)).trans hx359_0
              replace p359:=eq_true p359
              replace q359:=eq_true q359
              have p360 : 0 ≤ (x29_2 : Int):=of_decide_eq_true (by first|(with_reducible assumption)|assumption)
              have q360 : x29_2 < (l0_1.length : Int):=of_decide_eq_true (by first|(with_reducible assumption)|assumption)
              obtain ⟨ad360,e360,hx360_0⟩:=Kd.at_int HR0_1.out x29_2 p360 q360
              cases e360
              replace hx360_0:=(HB.out.cell (World.block_lt_of_cell? w _ hx360_0)).trans hx360_0
              replace p360:=eq_true p360
              replace q360:=eq_true q360
              have p361 : 0 ≤ (x29_2 : Int):=of_decide_eq_true (by first|(with_reducible assumption)|assumption)
              have q361 : x29_2 < (l0_1.length : Int):=of_decide_eq_true (by first|(with_reducible assumption)|assumption)
              obtain ⟨ad361,e361,hx361_0⟩:=Kd.at_int HR0_1.out x29_2 p361 q361
              obtain rfl : ad360 = ad361:=(by injection e361)
              replace hx361_0:=(HB.out.cell (World.block_lt_of_cell? w _ hx361_0)).trans hx361_0
              replace p361:=eq_true p361
              replace q361:=eq_true q361
              go_wp2
              go_ret
              exact ⟨by first|rfl|(simp [errW_none,errW_some] <;> rfl)|(simp [*,errW_none,errW_some] <;> rfl),by repeat (first|(with_reducible first|exact HB.out|apply below_alloc|apply pw_below_drewN|apply below_drew1|refine below_set ?_ GE357.out)|exact HB.out)⟩
             ·
              rw [if_neg c21] at H
              have c21b0 : decide ((l0_2.length : Int) ≤ (rd l0_1 x29_2)) = false:=decide_eq_false c21;clear c21
              by_cases c23 : x29_2 < (l0_2.length : Int)
              ·
               rw [if_pos c23] at H
               have c23b0 : decide (x29_2 < (l0_2.length : Int)) = true:=decide_eq_true c23;clear c23
               by_cases c24 : (rd l0_2 x29_2) = 0
               ·
                rw [if_pos c24] at H
                have c24b0 : ((rd l0_2 x29_2) == 0) = true:=beq_iff_eq.mpr c24
                have c24b1 : ((rd l0_2 x29_2) != 0) = false:=bne_eq_false_iff_eq.mpr c24;clear c24
                have H':=Aside0.mk H;clear H
                have hcz25_0 : wr.cell? ⟨gb357,0,none⟩ = some (.slice A0_0 l0_0.length c0_0):=(blk_cell BK357.out 0).trans rfl
                have hcz25_1 : wr.cell? ⟨gb357,1,none⟩ = some (.slice A0_1 l0_1.length c0_1):=(blk_cell BK357.out 1).trans rfl
                have hcz25_2 : wr.cell? ⟨gb357,2,none⟩ = some (.slice A0_2 l0_2.length c0_2):=(blk_cell BK357.out 2).trans rfl
                have hfz25_0:=blk_frozen BK357.out 0
                have hfz25_1:=blk_frozen BK357.out 1
                have hfz25_2:=blk_frozen BK357.out 2
                have p358 : 0 ≤ (x29_2 : Int):=of_decide_eq_true (by first|(with_reducible assumption)|assumption)
                have q358 : x29_2 < (l0_0.length : Int):=of_decide_eq_true (by first|(with_reducible assumption)|assumption)
                obtain ⟨ad358,e358,hx358_0⟩:=Kd.at_int HR0_0.out x29_2 p358 q358
                cases e358
                replace hx358_0:=(HB.out.cell (World.block_lt_of_cell? w _ hx358_0)).trans hx358_0
                replace p358:=eq_true p358
                replace q358:=eq_true q358
                have p359 : 0 ≤ (x29_2 : Int):=of_decide_eq_true (by first|(with_reducible assumption)|assumption)
                have q359 : x29_2 < (l0_0.length : Int):=of_decide_eq_true (by first|(with_reducible assumption)|assumption)
                obtain ⟨ad359,e359,hx359_0⟩:=Kd.at_int HR0_0.out x29_2 p359 q359
                obtain rfl : ad358 = ad359:=(by injection e359)
                replace hx359_0:=(HB.out.cell (World.block_lt_of_cell? w _ hx359_0)).trans hx359_0
                replace p359:=eq_true p359
                replace q359:=eq_true q359
                have p360 : 0 ≤ (x29_2 : Int):=of_decide_eq_true (by first|(with_reducible assumption)|assumption)
                have q360 : x29_2 < (l0_1.length : Int):=of_decide_eq_true (by first|(with_reducible assumption)|assumption)
                obtain ⟨ad360,e360,hx360_0⟩:=Kd.at_int HR0_1.out x29_2 p360 q360
                cases e360
                replace hx360_0:=(HB.out.cell (World.block_lt_of_cell? w _ hx360_0)).trans hx360_0
                replace p360:=eq_true p360
                replace q360:=eq_true q360
                have p361 : 0 ≤ (x29_2 : Int):=of_decide_eq_true (by first|(with_reducible assumption)|assumption)
                have q361 : x29_2 < (l0_1.length : Int):=of_decide_eq_true (by first|(with_reducible assumption)|assumption)
                obtain ⟨ad361,e361,hx361_0⟩:=Kd.at_int HR0_1.out x29_2 p361 q361
                obtain rfl : ad360 = ad361:=(by injection e361)
                replace hx361_0:=(HB.out.cell (World.block_lt_of_cell? w _ hx361_0)).trans hx361_0
                replace p361:=eq_true p361
                replace q361:=eq_true q361
                have p362 : 0 ≤ (x29_2 : Int):=of_decide_eq_true (by first|(with_reducible assumption)|assumption)
                have q362 : x29_2 < (l0_2.length : Int):=of_decide_eq_true (by first|(with_reducible assumption)|assumption)
                obtain ⟨ad362,e362,hx362_0⟩:=Kd.at_int HR0_2.out x29_2 p362 q362
                cases e362
                replace hx362_0:=(HB.out.cell (World.block_lt_of_cell? w _ hx362_0)).trans hx362_0
                replace p362:=eq_true p362
                replace q362:=eq_true q362
                go_wp2
                go_roundg k2
                case measure => have:=HJ1.out;have:=HK2.out;omega
                case rel => exact ⟨(wrap64 (x29_2 + 1)),(by first|rfl|(simp;done)|(simp [*];done)),H',⟨by have:=HJ1.out;have:=HK2.out;omega⟩,⟨blkU BK357.out⟩,⟨by repeat (first|(with_reducible first|exact HB.out|apply below_alloc|apply pw_below_drewN|apply below_drew1|refine below_set ?_ GE357.out)|exact HB.out)⟩⟩
               ·
                rw [if_neg c24] at H
                have c24b0 : ((rd l0_2 x29_2) == 0) = false:=beq_eq_false_iff_ne.mpr c24
                have c24b1 : ((rd l0_2 x29_2) != 0) = true:=bne_iff_ne.mpr c24
                by_cases c26 : (rd l0_2 x29_2) = 1
                ·
                 rw [if_pos c26] at H
                 have c26b0 : ((rd l0_2 x29_2) == 1) = true:=beq_iff_eq.mpr c26
                 have c26b1 : ((rd l0_2 x29_2) != 1) = false:=bne_eq_false_iff_eq.mpr c26;clear c26
                 have H':=Aside0.mk H;clear H
                 have hcz27_0 : wr.cell? ⟨gb357,0,none⟩ = some (.slice A0_0 l0_0.length c0_0):=(blk_cell BK357.out 0).trans rfl
                 have hcz27_1 : wr.cell? ⟨gb357,1,none⟩ = some (.slice A0_1 l0_1.length c0_1):=(blk_cell BK357.out 1).trans rfl
                 have hcz27_2 : wr.cell? ⟨gb357,2,none⟩ = some (.slice A0_2 l0_2.length c0_2):=(blk_cell BK357.out 2).trans rfl
                 have hfz27_0:=blk_frozen BK357.out 0
                 have hfz27_1:=blk_frozen BK357.out 1
                 have hfz27_2:=blk_frozen BK357.out 2
                 have p358 : 0 ≤ (x29_2 : Int):=of_decide_eq_true (by first|(with_reducible assumption)|assumption)
                 have q358 : x29_2 < (l0_0.length : Int):=of_decide_eq_true (by first|(with_reducible assumption)|assumption)
                 obtain ⟨ad358,e358,hx358_0⟩:=Kd.at_int HR0_0.out x29_2 p358 q358
                 cases e358
                 replace hx358_0:=(HB.out.cell (World.block_lt_of_cell? w _ hx358_0)).trans hx358_0
                 replace p358:=eq_true p358
                 replace q358:=eq_true q358
                 have p359 : 0 ≤ (x29_2 : Int):=of_decide_eq_true (by first|(with_reducible assumption)|assumption)
                 have q359 : x29_2 < (l0_0.length : Int):=of_decide_eq_true (by first|(with_reducible assumption)|assumption)
                 obtain ⟨ad359,e359,hx359_0⟩:=Kd.at_int HR0_0.out x29_2 p359 q359
                 obtain rfl : ad358 = ad359:=(by injection e359)
                 replace hx359_0:=(HB.out.cell (World.block_lt_of_cell? w _ hx359_0)).trans hx359_0
                 replace p359:=eq_true p359
                 replace q359:=eq_true q359
                 have p360 : 0 ≤ (x29_2 : Int):=of_decide_eq_true (by first|(with_reducible assumption)|assumption)
                 have q360 : x29_2 < (l0_1.length : Int):=of_decide_eq_true (by first|(with_reducible assumption)|assumption)
                 obtain ⟨ad360,e360,hx360_0⟩:=Kd.at_int HR0_1.out x29_2 p360 q360
                 cases e360
                 replace hx360_0:=(HB.out.cell (World.block_lt_of_cell? w _ hx360_0)).trans hx360_0
                 replace p360:=eq_true p360
                 replace q360:=eq_true q360
                 have p361 : 0 ≤ (x29_2 : Int):=of_decide_eq_true (by first|(with_reducible assumption)|assumption)
                 have q361 : x29_2 < (l0_1.length : Int):=of_decide_eq_true (by first|(with_reducible assumption)|assumption)
                 obtain ⟨ad361,e361,hx361_0⟩:=Kd.at_int HR0_1.out x29_2 p361 q361
                 obtain rfl : ad360 = ad361:=(by injection e361)
                 replace hx361_0:=(HB.out.cell (World.block_lt_of_cell? w _ hx361_0)).trans hx361_0
                 replace p361:=eq_true p361
                 replace q361:=eq_true q361
                 have p362 : 0 ≤ (x29_2 : Int):=of_decide_eq_true (by first|(with_reducible assumption)|assumption)
                 have q362 : x29_2 < (l0_2.length : Int):=of_decide_eq_true (by first|(with_reducible assumption)|assumption)
                 obtain ⟨ad362,e362,hx362_0⟩:=Kd.at_int HR0_2.out x29_2 p362 q362
                 cases e362
                 replace hx362_0:=(HB.out.cell (World.block_lt_of_cell? w _ hx362_0)).trans hx362_0
                 replace p362:=eq_true p362
                 replace q362:=eq_true q362
                 have p363 : 0 ≤ (x29_2 : Int):=of_decide_eq_true (by first|(with_reducible assumption)|assumption)
                 have q363 : x29_2 < (l0_2.length : Int):=of_decide_eq_true (by first|(with_reducible assumption)|assumption)
                 obtain ⟨ad363,e363,hx363_0⟩:=Kd.at_int HR0_2.out x29_2 p363 q363
                 obtain rfl : ad362 = ad363:=(by injection e363)
                 replace hx363_0:=(HB.out.cell (World.block_lt_of_cell? w _ hx363_0)).trans hx363_0
                 replace p363:=eq_true p363
                 replace q363:=eq_true q363
                 go_wp2
                 go_roundg k2
                 case measure => have:=HJ1.out;have:=HK2.out;omega
                 case rel => exact ⟨(wrap64 (x29_2 + 1)),(by first|rfl|(simp;done)|(simp [*];done)),H',⟨by have:=HJ1.out;have:=HK2.out;omega⟩,⟨blkU BK357.out⟩,⟨by repeat (first|(with_reducible first|exact HB.out|apply below_alloc|apply pw_below_drewN|apply below_drew1|refine below_set ?_ GE357.out)|exact HB.out)⟩⟩
                ·
                 rw [if_neg c26] at H
                 have c26b0 : ((rd l0_2 x29_2) == 1) = false:=beq_eq_false_iff_ne.mpr c26
                 have c26b1 : ((rd l0_2 x29_2) != 1) = true:=bne_iff_ne.mpr c26
                 obtain rfl:=Option.some.inj H
                 have hcz28_0 : wr.cell? ⟨gb357,0,none⟩ = some (.slice A0_0 l0_0.length c0_0):=(blk_cell BK357.out 0).trans rfl
                 have hcz28_1 : wr.cell? ⟨gb357,1,none⟩ = some (.slice A0_1 l0_1.length c0_1):=(blk_cell BK357.out 1).trans rfl
                 have hcz28_2 : wr.cell? ⟨gb357,2,none⟩ = some (.slice A0_2 l0_2.length c0_2):=(blk_cell BK357.out 2).trans rfl
                 have hfz28_0:=blk_frozen BK357.out 0
                 have hfz28_1:=blk_frozen BK357.out 1
                 have hfz28_2:=blk_frozen BK357.out 2
                 have p358 : 0 ≤ (x29_2 : Int):=of_decide_eq_true (by first|(with_reducible assumption)|assumption)
                 have q358 : x29_2 < (l0_0.length : Int):=of_decide_eq_true (by first|(with_reducible assumption)|assumption)
                 obtain ⟨ad358,e358,hx358_0⟩:=Kd.at_int HR0_0.out x29_2 p358 q358
                 cases e358
                 replace hx358_0:=(HB.out.cell (World.block_lt_of_cell? w _ hx358_0)).trans hx358_0
                 replace p358:=eq_true p358
                 replace q358:=eq_true q358
                 have p359 : 0 ≤ (x29_2 : Int):=of_decide_eq_true (by first|(with_reducible assumption)|assumption)
                 have q359 : x29_2 < (l0_0.length : Int):=of_decide_eq_true (by first|(with_reducible assumption)|assumption)
                 obtain ⟨ad359,e359,hx359_0⟩:=Kd.at_int HR0_0.out x29_2 p359 q359
                 obtain rfl : ad358 = ad359:=(by injection e359)
                 replace hx359_0:=(HB.out.cell (World.block_lt_of_cell? w _ hx359_0)).trans hx359_0
                 replace p359:=eq_true p359
                 replace q359:=eq_true q359
                 have p360 : 0 ≤ (x29_2 : Int):=of_decide_eq_true (by first|(with_reducible assumption)|assumption)
                 have q360 : x29_2 < (l0_1.length : Int):=of_decide_eq_true (by first|(with_reducible assumption)|assumption)
                 obtain ⟨ad360,e360,hx360_0⟩:=Kd.at_int HR0_1.out x29_2 p360 q360
                 cases e360
                 replace hx360_0:=(HB.out.cell (World.block_lt_of_cell? w _ hx360_0)).trans hx360_0
                 replace p360:=eq_true p360
                 replace q360:=eq_true q360
                 have p361 : 0 ≤ (x29_2 : Int):=of_decide_eq_true (by first|(with_reducible assumption)|assumption)
                 have q361 : x29_2 < (l0_1.length : Int):=of_decide_eq_true (by first|(with_reducible assumption)|assumption)
                 obtain ⟨ad361,e361,hx361_0⟩:=Kd.at_int HR0_1.out x29_2 p361 q361
                 obtain rfl : ad360 = ad361:=(by injection e361)
                 replace hx361_0:=(HB.out.cell (World.block_lt_of_cell? w _ hx361_0)).trans hx361_0
                 replace p361:=eq_true p361
                 replace q361:=eq_true q361
                 have p362 : 0 ≤ (x29_2 : Int):=of_decide_eq_true (by first|(with_reducible assumption)|assumption)
                 have q362 : x29_2 < (l0_2.length : Int):=of_decide_eq_true (by first|(with_reducible assumption)|assumption)
                 obtain ⟨ad362,e362,hx362_0⟩:=Kd.at_int HR0_2.out x29_2 p362 q362
                 cases e362
                 replace hx362_0:=(HB.out.cell (World.block_lt_of_cell? w _ hx362_0)).trans hx362_0
                 replace p362:=eq_true p362
                 replace q362:=eq_true q362
                 have p363 : 0 ≤ (x29_2 : Int):=of_decide_eq_true (by first|(with_reducible assumption)|assumption)
                 have q363 : x29_2 < (l0_2.length : Int):=of_decide_eq_true (by first|(with_reducible assumption)|assumption)
                 obtain ⟨ad363,e363,hx363_0⟩:=Kd.at_int HR0_2.out x29_2 p363 q363
                 obtain rfl : ad362 = ad363:=(by injection e363)
                 replace hx363_0:=(HB.out.cell (World.block_lt_of_cell? w _ hx363_0)).trans hx363_0
                 replace p363:=eq_true p363
                 replace q363:=eq_true q363
                 go_wp2
                 go_ret
                 exact ⟨by first|rfl|(simp [errW_none,errW_some] <;> rfl)|(simp [*,errW_none,errW_some] <;> rfl),by repeat (first|(with_reducible first|exact HB.out|apply below_alloc|apply pw_below_drewN|apply below_drew1|refine below_set ?_ GE357.out)|exact HB.out)⟩
              ·
               rw [if_neg c23] at H
               exact absurd H (by simp)
           ·
            rw [if_neg c18] at H
            exact absurd H (by simp)
        ·
         rw [if_neg c13] at H
         exact absurd H (by simp)
       ·
        rw [if_neg c12] at H
        exact absurd H (by simp)
      ·
       rw [if_neg c11] at H
       have c11b0 : decide (x29_2 < (l0_2.length : Int)) = false:=decide_eq_false c11;clear c11
       obtain rfl:=Option.some.inj H
       go_wp2
       go_ret
       exact ⟨by first|rfl|(simp [errW_none,errW_some] <;> rfl)|(simp [*,errW_none,errW_some] <;> rfl),by repeat (first|(with_reducible first|exact HB.out|apply below_alloc|apply pw_below_drewN|apply below_drew1|refine below_set ?_ GE357.out)|exact HB.out)⟩

end Go.Proofs.YthodcgkhianecaaDoor.PA
