/- The machine side of functions of this seat, written by the session's program myprint.py: for each Go function a Lean function and the proof that the call answers just it. -/
import Derived.Test.YthodcgkhianecaaDoorPAx0
import Derived.Test.YthodcgkhianecaaDoorUp
namespace Go.Proofs.YthodcgkhianecaaDoor.PA
open Go.RowKit Go.Proofs.YthodcgkhianecaaDoorW.PrintWords Go.Proofs.YthodcgkhianecaaDoorW.PrintLast Go.Proofs.YthodcgkhianecaaDoorW.PrintMore
attribute [local go_sem] max2_int min2_int max_two min_two max_three min_three max_four min_four   -- for this text's walks alone
set_option linter.unusedVariables false
set_option linter.unusedSimpArgs false

/-! ### impl_Machine_after: function 24 -/
def impl_Machine_after.l0 : Nat → ByteArray → Int → Int → Int → List Int → List Int → List Int → Option (Int)
 | 0,_,_,_,_,_,_,_ => none
 | k + 1,x1,x5,x8,x9,x365000,x365001,x365002 => if x9 < x8 then (if 0 ≤ x9 then (if x9 < (x1.size : Int) then (if (bt x1 x9) = 48 then (if 0 ≤ x5 then (if x5 < (x365000.length : Int) then (impl_Machine_after.l0 k x1 (rd x365000 x5) x8 (wrap64 (x9 + 1)) x365000 x365001 x365002) else (none)) else (none)) else (if 0 ≤ x5 then (if x5 < (x365001.length : Int) then (impl_Machine_after.l0 k x1 (rd x365001 x5) x8 (wrap64 (x9 + 1)) x365000 x365001 x365002) else (none)) else (none))) else (none)) else (none)) else (some x5)
def impl_Machine_after.f (k : Nat) (l0_0 : List Int) (l0_1 : List Int) (l0_2 : List Int) (a1 : ByteArray) : Option (Int):=impl_Machine_after.l0 k a1 0 (a1.size : Int) 0 l0_0 l0_1 l0_2
theorem impl_Machine_after.mono_l : ∀ k,(∀ y0 y1 y2 y3 y4 y5 y6,LeO (impl_Machine_after.l0 k y0 y1 y2 y3 y4 y5 y6) (impl_Machine_after.l0 (k + 1) y0 y1 y2 y3 y4 y5 y6))
 | 0 => fun _ _ _ _ _ _ _ r h => by simp [impl_Machine_after.l0] at h
 | k + 1 => by
  have ih0:=impl_Machine_after.mono_l k
  ·
   intro y0 y1 y2 y3 y4 y5 y6
   unfold impl_Machine_after.l0
   repeat' first
   | (with_reducible exact ih0 _ _ _ _ _ _ _)
   | (with_reducible exact LeO.refl _)
   | (with_reducible exact LeO.none _)
   | (with_reducible refine LeO.ite ?_ ?_)
   | (with_reducible refine LeO.bind ?_ (fun _ => ?_))
   | exact ih0 _ _ _ _ _ _ _
   | exact LeO.none _
   | refine LeO.ite ?_ ?_
   | refine LeO.bind ?_ (fun _ => ?_)
theorem impl_Machine_after.mono : ∀ a0 a1 a2 a3 k,LeO (impl_Machine_after.f k a0 a1 a2 a3) (impl_Machine_after.f (k + 1) a0 a1 a2 a3):=by
 intro a0 a1 a2 a3 k
 have ih0:=impl_Machine_after.mono_l k
 unfold impl_Machine_after.f
 repeat' first
   | (with_reducible exact ih0 _ _ _ _ _ _ _)
   | (with_reducible exact LeO.refl _)
   | (with_reducible exact LeO.none _)
   | (with_reducible refine LeO.ite ?_ ?_)
   | (with_reducible refine LeO.bind ?_ (fun _ => ?_))
   | exact ih0 _ _ _ _ _ _ _
   | exact LeO.none _
   | refine LeO.ite ?_ ?_
   | refine LeO.bind ?_ (fun _ => ?_)
set_option maxHeartbeats 8000000 in
set_option maxRecDepth 100000 in
theorem impl_Machine_after.calls (k : Nat) (A0_0 : Option Addr) (c0_0 : Nat) (l0_0 : List Int) (A0_1 : Option Addr) (c0_1 : Nat) (l0_1 : List Int) (A0_2 : Option Addr) (c0_2 : Nat) (l0_2 : List Int) (a1 : ByteArray) (r : Int) (w : World) (hr0_0 : Kd.C (Kd.int .i64) w A0_0 l0_0.length l0_0) (hc0_0 : l0_0.length ≤ c0_0) (hr0_1 : Kd.C (Kd.int .i64) w A0_1 l0_1.length l0_1) (hc0_1 : l0_1.length ≤ c0_1) (hr0_2 : Kd.C (Kd.int .i64) w A0_2 l0_2.length l0_2) (hc0_2 : l0_2.length ≤ c0_2) (h : impl_Machine_after.f k l0_0 l0_1 l0_2 a1 = some r) :
  Calls Tryd.prog 24 #[.agg #[.slice A0_0 l0_0.length c0_0,.slice A0_1 l0_1.length c0_1,.slice A0_2 l0_2.length c0_2],.string a1] w fun e w' => e = .returned (.int .i64 r) ∧ Below w.heap.size w w':=by
 have hu25:=Tryd.underlying25
 have HR0_0:=Aside0.mk hr0_0
 have HC0_0:=Aside0.mk hc0_0;clear hr0_0 hc0_0
 have HR0_1:=Aside0.mk hr0_1
 have HC0_1:=Aside0.mk hc0_1;clear hr0_1 hc0_1
 have HR0_2:=Aside0.mk hr0_2
 have HC0_2:=Aside0.mk hc0_2;clear hr0_2 hc0_2;have HB:=Aside0.mk (Below.refl w.heap.size w)
 have H : (impl_Machine_after.l0 k a1 0 (a1.size : Int) 0 l0_0 l0_1 l0_2) = some r:=h;clear h
 have H':=Aside0.mk H;clear H
 go_enter Tryd.func24,Tryd.ntmps24
 go_wp2_with (first|((with_reducible refine gate_dst (N:=2) rfl ?_);refine box_event ?hg (N:=2) ?hd (cs:=#[.slice A0_0 l0_0.length c0_0,.slice A0_1 l0_1.length c0_1,.slice A0_2 l0_2.length c0_2]) (t:=25) ?hr ?_;(case hd => rfl);(case hg => rfl);(case hr => first|(go_simp;done)|(go_simp;rfl));intro gb364 hg w3 hbox hb;have n0_:=Aside0.mk (below_step (belU HB.out) hb);have n1_:=Aside0.mk (hbox);have n2_:=Aside0.mk ((by rw [hg];exact (below_size (belU HB.out)) : w.heap.size ≤ gb364));have n3_:=Aside0.mk ((by rw [hg];exact (below_size (belU HB.out)) : w.heap.size ≤ gb364));clear HB;have HB:=n0_;have BK364:=n1_;have GW364:=n2_;have GE364:=n3_;clear n0_ n1_ n2_ n3_ hb hbox hg))
 go_loopg [5,9] k (fun kq v5 v9 w' => ∃ (x5_1 : Int) (x9_1 : Int),v5 = .int .i64 x5_1 ∧ v9 = .int .i64 x9_1 ∧ Aside0 (impl_Machine_after.l0 kq a1 x5_1 (a1.size : Int) x9_1 l0_0 l0_1 l0_2 = some r) ∧ Aside0 (kq ≤ k) ∧ Aside0 (w'.heap[gb364]? = some (.cells #[(.slice A0_0 l0_0.length c0_0),(.slice A0_1 l0_1.length c0_1),(.slice A0_2 l0_2.length c0_2)] 25 (0,0))) ∧ Aside0 (Below w.heap.size w w'))
 case atStart => exact ⟨(0),(0),(by first|rfl|(simp;done)|(simp [*];done)),(by first|rfl|(simp;done)|(simp [*];done)),H',⟨Nat.le_refl _⟩,⟨blkU BK364.out⟩,⟨by repeat (first|(with_reducible first|exact HB.out|apply below_alloc|apply pw_below_drewN|apply below_drew1|refine below_set ?_ GE364.out)|exact HB.out)⟩⟩
 case round =>
  clear H'
  try clear c2
  try clear p2
  obtain ⟨x5_1,x9_1,rfl,rfl,HA,HK1,BK364,HB⟩:=hrel
  cases gk with
  | zero => exact absurd HA.out (by simp [impl_Machine_after.l0])
  | succ k1 =>
   have H:=HA.out;clear HA
   simp only [impl_Machine_after.l0] at H
   by_cases c4 : x9_1 < (a1.size : Int)
   ·
    rw [if_pos c4] at H
    have c4b0 : decide (x9_1 < (a1.size : Int)) = true:=decide_eq_true c4;clear c4
    by_cases c5 : 0 ≤ x9_1
    ·
     rw [if_pos c5] at H
     have c5b0 : decide (0 ≤ x9_1) = true:=decide_eq_true c5;clear c5
     by_cases c6 : x9_1 < (a1.size : Int)
     ·
      rw [if_pos c6] at H
      have c6b0 : decide (x9_1 < (a1.size : Int)) = true:=decide_eq_true c6;clear c6
      by_cases c8 : (bt a1 x9_1) = 48
      ·
       rw [if_pos c8] at H
       have c8b0 : ((bt a1 x9_1) == 48) = true:=beq_iff_eq.mpr c8
       have c8b1 : ((bt a1 x9_1) != 48) = false:=bne_eq_false_iff_eq.mpr c8;clear c8
       by_cases c9 : 0 ≤ x5_1
       ·
        rw [if_pos c9] at H
        have c9b0 : decide (0 ≤ x5_1) = true:=decide_eq_true c9;clear c9
        by_cases c10 : x5_1 < (l0_0.length : Int)
        ·
         rw [if_pos c10] at H
         have c10b0 : decide (x5_1 < (l0_0.length : Int)) = true:=decide_eq_true c10;clear c10
         have H':=Aside0.mk H;clear H
         have p7 : 0 ≤ (x9_1 : Int):=of_decide_eq_true (by first|(with_reducible assumption)|assumption)
         have q7 : x9_1 < (a1.size : Int):=of_decide_eq_true (by first|(with_reducible assumption)|assumption)
         have hx7:=bt_at a1 x9_1
         replace p7:=eq_true p7
         replace q7:=eq_true q7
         have hcz11_0 : wr.cell? ⟨gb364,0,none⟩ = some (.slice A0_0 l0_0.length c0_0):=(blk_cell BK364.out 0).trans rfl
         have hcz11_1 : wr.cell? ⟨gb364,1,none⟩ = some (.slice A0_1 l0_1.length c0_1):=(blk_cell BK364.out 1).trans rfl
         have hcz11_2 : wr.cell? ⟨gb364,2,none⟩ = some (.slice A0_2 l0_2.length c0_2):=(blk_cell BK364.out 2).trans rfl
         have hfz11_0:=blk_frozen BK364.out 0
         have hfz11_1:=blk_frozen BK364.out 1
         have hfz11_2:=blk_frozen BK364.out 2
         have p365 : 0 ≤ (x5_1 : Int):=of_decide_eq_true (by first|(with_reducible assumption)|assumption)
         have q365 : x5_1 < (l0_0.length : Int):=of_decide_eq_true (by first|(with_reducible assumption)|assumption)
         obtain ⟨ad365,e365,hx365_0⟩:=Kd.at_int HR0_0.out x5_1 p365 q365
         cases e365
         replace hx365_0:=(HB.out.cell (World.block_lt_of_cell? w _ hx365_0)).trans hx365_0
         replace p365:=eq_true p365
         replace q365:=eq_true q365
         go_wp2
         go_roundg k1
         case measure => have:=HK1.out;omega
         case rel => exact ⟨(rd l0_0 x5_1),(wrap64 (x9_1 + 1)),(by first|rfl|(simp;done)|(simp [*];done)),(by first|rfl|(simp;done)|(simp [*];done)),H',⟨by have:=HK1.out;omega⟩,⟨blkU BK364.out⟩,⟨by repeat (first|(with_reducible first|exact HB.out|apply below_alloc|apply pw_below_drewN|apply below_drew1|refine below_set ?_ GE364.out)|exact HB.out)⟩⟩
        ·
         rw [if_neg c10] at H
         exact absurd H (by simp)
       ·
        rw [if_neg c9] at H
        exact absurd H (by simp)
      ·
       rw [if_neg c8] at H
       have c8b0 : ((bt a1 x9_1) == 48) = false:=beq_eq_false_iff_ne.mpr c8
       have c8b1 : ((bt a1 x9_1) != 48) = true:=bne_iff_ne.mpr c8
       by_cases c12 : 0 ≤ x5_1
       ·
        rw [if_pos c12] at H
        have c12b0 : decide (0 ≤ x5_1) = true:=decide_eq_true c12;clear c12
        by_cases c13 : x5_1 < (l0_1.length : Int)
        ·
         rw [if_pos c13] at H
         have c13b0 : decide (x5_1 < (l0_1.length : Int)) = true:=decide_eq_true c13;clear c13
         have H':=Aside0.mk H;clear H
         have p7 : 0 ≤ (x9_1 : Int):=of_decide_eq_true (by first|(with_reducible assumption)|assumption)
         have q7 : x9_1 < (a1.size : Int):=of_decide_eq_true (by first|(with_reducible assumption)|assumption)
         have hx7:=bt_at a1 x9_1
         replace p7:=eq_true p7
         replace q7:=eq_true q7
         have hcz14_0 : wr.cell? ⟨gb364,0,none⟩ = some (.slice A0_0 l0_0.length c0_0):=(blk_cell BK364.out 0).trans rfl
         have hcz14_1 : wr.cell? ⟨gb364,1,none⟩ = some (.slice A0_1 l0_1.length c0_1):=(blk_cell BK364.out 1).trans rfl
         have hcz14_2 : wr.cell? ⟨gb364,2,none⟩ = some (.slice A0_2 l0_2.length c0_2):=(blk_cell BK364.out 2).trans rfl
         have hfz14_0:=blk_frozen BK364.out 0
         have hfz14_1:=blk_frozen BK364.out 1
         have hfz14_2:=blk_frozen BK364.out 2
         have p366 : 0 ≤ (x5_1 : Int):=of_decide_eq_true (by first|(with_reducible assumption)|assumption)
         have q366 : x5_1 < (l0_1.length : Int):=of_decide_eq_true (by first|(with_reducible assumption)|assumption)
         obtain ⟨ad366,e366,hx366_0⟩:=Kd.at_int HR0_1.out x5_1 p366 q366
         cases e366
         replace hx366_0:=(HB.out.cell (World.block_lt_of_cell? w _ hx366_0)).trans hx366_0
         replace p366:=eq_true p366
         replace q366:=eq_true q366
         go_wp2
         go_roundg k1
         case measure => have:=HK1.out;omega
         case rel => exact ⟨(rd l0_1 x5_1),(wrap64 (x9_1 + 1)),(by first|rfl|(simp;done)|(simp [*];done)),(by first|rfl|(simp;done)|(simp [*];done)),H',⟨by have:=HK1.out;omega⟩,⟨blkU BK364.out⟩,⟨by repeat (first|(with_reducible first|exact HB.out|apply below_alloc|apply pw_below_drewN|apply below_drew1|refine below_set ?_ GE364.out)|exact HB.out)⟩⟩
        ·
         rw [if_neg c13] at H
         exact absurd H (by simp)
       ·
        rw [if_neg c12] at H
        exact absurd H (by simp)
     ·
      rw [if_neg c6] at H
      exact absurd H (by simp)
    ·
     rw [if_neg c5] at H
     exact absurd H (by simp)
   ·
    rw [if_neg c4] at H
    have c4b0 : decide (x9_1 < (a1.size : Int)) = false:=decide_eq_false c4;clear c4
    obtain rfl:=Option.some.inj H
    go_wp2
    go_ret
    exact ⟨by first|rfl|(simp [errW_none,errW_some] <;> rfl)|(simp [*,errW_none,errW_some] <;> rfl),by repeat (first|(with_reducible first|exact HB.out|apply below_alloc|apply pw_below_drewN|apply below_drew1|refine below_set ?_ GE364.out)|exact HB.out)⟩

end Go.Proofs.YthodcgkhianecaaDoor.PA
