/- The machine side of functions of this seat, written by the session's program myprint.py: for each Go function a Lean function and the proof that the call answers just it. -/
import Derived.Test.YthodcgkhianecaaDoorPAx0
import Derived.Test.YthodcgkhianecaaDoorUp
import Derived.Test.YthodcgkhianecaaDoorPAx1
namespace Go.Proofs.YthodcgkhianecaaDoor.PA
open Go.RowKit Go.Proofs.YthodcgkhianecaaDoorW.PrintWords Go.Proofs.YthodcgkhianecaaDoorW.PrintLast Go.Proofs.YthodcgkhianecaaDoorW.PrintMore
attribute [local go_sem] max2_int min2_int max_two min_two max_three min_three max_four min_four   -- for this text's walks alone
set_option linter.unusedVariables false
set_option linter.unusedSimpArgs false

/-! ### spec_MachineOk: function 25 -/
def spec_MachineOk.l0 : Nat → Int → List Int → List Int → List Int → Option (Bool)
 | 0,_,_,_,_ => none
 | k + 1,x3,x105000,x105001,x105002 => if x3 < (x105000.length : Int) then (if (x105001.length : Int) = (x105000.length : Int) then (if (x105002.length : Int) = (x105000.length : Int) then (if 0 ≤ x3 then ((spec_l1In.f (rd x105000 x3) 0 (wrap64 ((x105000.length : Int) - 1))).bind fun t107 => (if t107 = true then (if x3 < (x105001.length : Int) then ((spec_l1In.f (rd x105001 x3) 0 (wrap64 ((x105000.length : Int) - 1))).bind fun t109 => (if t109 = true then (if x3 < (x105002.length : Int) then ((spec_l1In.f (rd x105002 x3) 0 1).bind fun t111 => (if t111 = true then (spec_MachineOk.l0 k (wrap64 (x3 + 1)) x105000 x105001 x105002) else (some false))) else (none)) else (some false))) else (none)) else (some false))) else (none)) else (some false)) else (some false)) else ((spec_l1In.f (x105000.length : Int) 1 12).bind fun t105 => (if t105 = true then (if (x105001.length : Int) = (x105000.length : Int) then (some ((x105002.length : Int) == (x105000.length : Int))) else (some false)) else (some false)))
def spec_MachineOk.f (k : Nat) (l0_0 : List Int) (l0_1 : List Int) (l0_2 : List Int) : Option (Bool):=spec_MachineOk.l0 k 0 l0_0 l0_1 l0_2
theorem spec_MachineOk.mono_l : ∀ k,(∀ y0 y1 y2 y3,LeO (spec_MachineOk.l0 k y0 y1 y2 y3) (spec_MachineOk.l0 (k + 1) y0 y1 y2 y3))
 | 0 => fun _ _ _ _ r h => by simp [spec_MachineOk.l0] at h
 | k + 1 => by
  have ih0:=spec_MachineOk.mono_l k
  ·
   intro y0 y1 y2 y3
   unfold spec_MachineOk.l0
   repeat' first
   | (with_reducible exact ih0 _ _ _ _)
   | (with_reducible exact LeO.refl _)
   | (with_reducible exact LeO.none _)
   | (with_reducible refine LeO.ite ?_ ?_)
   | (with_reducible refine LeO.bind ?_ (fun _ => ?_))
   | exact ih0 _ _ _ _
   | exact LeO.none _
   | refine LeO.ite ?_ ?_
   | refine LeO.bind ?_ (fun _ => ?_)
theorem spec_MachineOk.mono : ∀ a0 a1 a2 k,LeO (spec_MachineOk.f k a0 a1 a2) (spec_MachineOk.f (k + 1) a0 a1 a2):=by
 intro a0 a1 a2 k
 have ih0:=spec_MachineOk.mono_l k
 unfold spec_MachineOk.f
 repeat' first
   | (with_reducible exact ih0 _ _ _ _)
   | (with_reducible exact LeO.refl _)
   | (with_reducible exact LeO.none _)
   | (with_reducible refine LeO.ite ?_ ?_)
   | (with_reducible refine LeO.bind ?_ (fun _ => ?_))
   | exact ih0 _ _ _ _
   | exact LeO.none _
   | refine LeO.ite ?_ ?_
   | refine LeO.bind ?_ (fun _ => ?_)
set_option maxHeartbeats 8000000 in
set_option maxRecDepth 100000 in
theorem spec_MachineOk.calls (k : Nat) (A0_0 : Option Addr) (c0_0 : Nat) (l0_0 : List Int) (A0_1 : Option Addr) (c0_1 : Nat) (l0_1 : List Int) (A0_2 : Option Addr) (c0_2 : Nat) (l0_2 : List Int) (r : Bool) (w : World) (hr0_0 : Kd.C (Kd.int .i64) w A0_0 l0_0.length l0_0) (hc0_0 : l0_0.length ≤ c0_0) (hr0_1 : Kd.C (Kd.int .i64) w A0_1 l0_1.length l0_1) (hc0_1 : l0_1.length ≤ c0_1) (hr0_2 : Kd.C (Kd.int .i64) w A0_2 l0_2.length l0_2) (hc0_2 : l0_2.length ≤ c0_2) (h : spec_MachineOk.f k l0_0 l0_1 l0_2 = some r) :
  Calls Tryd.prog 25 #[.agg #[.slice A0_0 l0_0.length c0_0,.slice A0_1 l0_1.length c0_1,.slice A0_2 l0_2.length c0_2]] w fun e w' => e = .returned (.bool r) ∧ Below w.heap.size w w':=by
 have hu25:=Tryd.underlying25
 have HR0_0:=Aside0.mk hr0_0
 have HC0_0:=Aside0.mk hc0_0;clear hr0_0 hc0_0
 have HR0_1:=Aside0.mk hr0_1
 have HC0_1:=Aside0.mk hc0_1;clear hr0_1 hc0_1
 have HR0_2:=Aside0.mk hr0_2
 have HC0_2:=Aside0.mk hc0_2;clear hr0_2 hc0_2;have HB:=Aside0.mk (Below.refl w.heap.size w)
 have H : (spec_MachineOk.l0 k 0 l0_0 l0_1 l0_2) = some r:=h;clear h
 have H':=Aside0.mk H;clear H
 go_enter Tryd.func25,Tryd.ntmps25
 go_wp2_with (first|((with_reducible refine gate_dst (N:=1) rfl ?_);(try (refine gate_guard (by rfl) ?_;dsimp only));refine box_event ?hg (N:=1) ?hd (cs:=#[.slice A0_0 l0_0.length c0_0,.slice A0_1 l0_1.length c0_1,.slice A0_2 l0_2.length c0_2]) (t:=25) ?hr ?_;(case hd => rfl);(case hg => rfl);(case hr => first|(go_simp;done)|(go_simp;rfl));intro gb104 hg w2 hbox hb;have n0_:=Aside0.mk (below_step (belU HB.out) hb);have n1_:=Aside0.mk (hbox);have n2_:=Aside0.mk ((by rw [hg];exact (below_size (belU HB.out)) : w.heap.size ≤ gb104));have n3_:=Aside0.mk ((by rw [hg];exact (below_size (belU HB.out)) : w.heap.size ≤ gb104));clear HB;have HB:=n0_;have BK104:=n1_;have GW104:=n2_;have GE104:=n3_;clear n0_ n1_ n2_ n3_ hb hbox hg))
 go_loopg [3] k (fun kq v3 w' => ∃ (x3_1 : Int),v3 = .int .i64 x3_1 ∧ Aside0 (spec_MachineOk.l0 kq x3_1 l0_0 l0_1 l0_2 = some r) ∧ Aside0 (kq ≤ k) ∧ Aside0 (w'.heap[gb104]? = some (.cells #[(.slice A0_0 l0_0.length c0_0),(.slice A0_1 l0_1.length c0_1),(.slice A0_2 l0_2.length c0_2)] 25 (0,0))) ∧ Aside0 (Below w.heap.size w w'))
 case atStart => exact ⟨(0),(by first|rfl|(simp;done)|(simp [*];done)),H',⟨Nat.le_refl _⟩,⟨blkU BK104.out⟩,⟨by repeat (first|(with_reducible first|exact HB.out|apply below_alloc|apply pw_below_drewN|apply below_drew1|refine below_set ?_ GE104.out)|exact HB.out)⟩⟩
 case round =>
  clear H'
  try clear c2
  try clear p2
  obtain ⟨x3_1,rfl,HA,HK1,BK104,HB⟩:=hrel
  cases gk with
  | zero => exact absurd HA.out (by simp [spec_MachineOk.l0])
  | succ k1 =>
   have H:=HA.out;clear HA
   simp only [spec_MachineOk.l0] at H
   by_cases c3 : x3_1 < (l0_0.length : Int)
   ·
    rw [if_pos c3] at H
    have c3b0 : decide (x3_1 < (l0_0.length : Int)) = true:=decide_eq_true c3;clear c3
    by_cases c4 : (l0_1.length : Int) = (l0_0.length : Int)
    ·
     rw [if_pos c4] at H
     have c4b0 : ((l0_1.length : Int) == (l0_0.length : Int)) = true:=beq_iff_eq.mpr c4
     have c4b1 : ((l0_1.length : Int) != (l0_0.length : Int)) = false:=bne_eq_false_iff_eq.mpr c4
     have c4b2 : (l0_1.length == l0_0.length) = true:=by first|simpa using c4|(simp at c4 ⊢;omega)
     clear c4
     by_cases c5 : (l0_2.length : Int) = (l0_0.length : Int)
     ·
      rw [if_pos c5] at H
      have c5b0 : ((l0_2.length : Int) == (l0_0.length : Int)) = true:=beq_iff_eq.mpr c5
      have c5b1 : ((l0_2.length : Int) != (l0_0.length : Int)) = false:=bne_eq_false_iff_eq.mpr c5
      have c5b2 : (l0_2.length == l0_0.length) = true:=by first|simpa using c5|(simp at c5 ⊢;omega)
      clear c5
      by_cases c6 : 0 ≤ x3_1
      ·
       rw [if_pos c6] at H
       have c6b0 : decide (0 ≤ x3_1) = true:=decide_eq_true c6;clear c6
       replace H:=Option.bind_eq_some_iff.mp H
       obtain ⟨t107,A70,H⟩:=H
       replace H : (if t107 = true then (if x3_1 < (l0_1.length : Int) then ((spec_l1In.f (rd l0_1 x3_1) 0 (wrap64 ((l0_0.length : Int) - 1))).bind fun t109 => (if t109 = true then (if x3_1 < (l0_2.length : Int) then ((spec_l1In.f (rd l0_2 x3_1) 0 1).bind fun t111 => (if t111 = true then (spec_MachineOk.l0 k1 (wrap64 (x3_1 + 1)) l0_0 l0_1 l0_2) else (some false))) else (none)) else (some false))) else (none)) else (some false)) = some r:=H
       have A7:=Aside0.mk A70;clear A70
       by_cases c8 : t107 = true
       ·
        subst c8
        have H1 : (if x3_1 < (l0_1.length : Int) then ((spec_l1In.f (rd l0_1 x3_1) 0 (wrap64 ((l0_0.length : Int) - 1))).bind fun t109 => (if t109 = true then (if x3_1 < (l0_2.length : Int) then ((spec_l1In.f (rd l0_2 x3_1) 0 1).bind fun t111 => (if t111 = true then (spec_MachineOk.l0 k1 (wrap64 (x3_1 + 1)) l0_0 l0_1 l0_2) else (some false))) else (none)) else (some false))) else (none)) = some r:=by rw [if_pos rfl] at H;exact H
        clear H;have H:=H1;clear H1
        by_cases c9 : x3_1 < (l0_1.length : Int)
        ·
         rw [if_pos c9] at H
         have c9b0 : decide (x3_1 < (l0_1.length : Int)) = true:=decide_eq_true c9;clear c9
         replace H:=Option.bind_eq_some_iff.mp H
         obtain ⟨t109,A100,H⟩:=H
         replace H : (if t109 = true then (if x3_1 < (l0_2.length : Int) then ((spec_l1In.f (rd l0_2 x3_1) 0 1).bind fun t111 => (if t111 = true then (spec_MachineOk.l0 k1 (wrap64 (x3_1 + 1)) l0_0 l0_1 l0_2) else (some false))) else (none)) else (some false)) = some r:=H
         have A10:=Aside0.mk A100;clear A100
         by_cases c11 : t109 = true
         ·
          subst c11
          have H1 : (if x3_1 < (l0_2.length : Int) then ((spec_l1In.f (rd l0_2 x3_1) 0 1).bind fun t111 => (if t111 = true then (spec_MachineOk.l0 k1 (wrap64 (x3_1 + 1)) l0_0 l0_1 l0_2) else (some false))) else (none)) = some r:=by rw [if_pos rfl] at H;exact H
          clear H;have H:=H1;clear H1
          by_cases c12 : x3_1 < (l0_2.length : Int)
          ·
           rw [if_pos c12] at H
           have c12b0 : decide (x3_1 < (l0_2.length : Int)) = true:=decide_eq_true c12;clear c12
           replace H:=Option.bind_eq_some_iff.mp H
           obtain ⟨t111,A130,H⟩:=H
           replace H : (if t111 = true then (spec_MachineOk.l0 k1 (wrap64 (x3_1 + 1)) l0_0 l0_1 l0_2) else (some false)) = some r:=H
           have A13:=Aside0.mk A130;clear A130
           by_cases c14 : t111 = true
           ·
            subst c14
            have H1 : (spec_MachineOk.l0 k1 (wrap64 (x3_1 + 1)) l0_0 l0_1 l0_2) = some r:=by rw [if_pos rfl] at H;exact H
            clear H;have H:=H1;clear H1
            have H':=Aside0.mk H;clear H
            have hcz15_0 : wr.cell? ⟨gb104,0,none⟩ = some (.slice A0_0 l0_0.length c0_0):=(blk_cell BK104.out 0).trans rfl
            have hcz15_1 : wr.cell? ⟨gb104,1,none⟩ = some (.slice A0_1 l0_1.length c0_1):=(blk_cell BK104.out 1).trans rfl
            have hcz15_2 : wr.cell? ⟨gb104,2,none⟩ = some (.slice A0_2 l0_2.length c0_2):=(blk_cell BK104.out 2).trans rfl
            have hfz15_0:=blk_frozen BK104.out 0
            have hfz15_1:=blk_frozen BK104.out 1
            have hfz15_2:=blk_frozen BK104.out 2
            try go_wp2
            have p106 : 0 ≤ (x3_1 : Int):=of_decide_eq_true (by first|(with_reducible assumption)|assumption)
            have q106 : x3_1 < (l0_0.length : Int):=of_decide_eq_true (by first|(with_reducible assumption)|assumption)
            obtain ⟨ad106,e106,hx106_0⟩:=Kd.at_int HR0_0.out x3_1 p106 q106;have hw106_0:=hx106_0
            cases e106
            replace hx106_0:=(HB.out.cell (World.block_lt_of_cell? w _ hx106_0)).trans hx106_0
            replace p106:=eq_true p106
            replace q106:=eq_true q106
            have p108 : 0 ≤ (x3_1 : Int):=of_decide_eq_true (by first|(with_reducible assumption)|assumption)
            have q108 : x3_1 < (l0_1.length : Int):=of_decide_eq_true (by first|(with_reducible assumption)|assumption)
            obtain ⟨ad108,e108,hx108_0⟩:=Kd.at_int HR0_1.out x3_1 p108 q108;have hw108_0:=hx108_0
            cases e108
            replace hx108_0:=(HB.out.cell (World.block_lt_of_cell? w _ hx108_0)).trans hx108_0
            replace p108:=eq_true p108
            replace q108:=eq_true q108
            have p110 : 0 ≤ (x3_1 : Int):=of_decide_eq_true (by first|(with_reducible assumption)|assumption)
            have q110 : x3_1 < (l0_2.length : Int):=of_decide_eq_true (by first|(with_reducible assumption)|assumption)
            obtain ⟨ad110,e110,hx110_0⟩:=Kd.at_int HR0_2.out x3_1 p110 q110;have hw110_0:=hx110_0
            cases e110
            replace hx110_0:=(HB.out.cell (World.block_lt_of_cell? w _ hx110_0)).trans hx110_0
            replace p110:=eq_true p110
            replace q110:=eq_true q110
            go_quiet (first|((try simp only [i64_w,i32_w]);go_at_call 47;refine Calls.quiet_of (v:=.bool true) ?_;with_reducible refine (spec_l1In.calls (rd l0_0 x3_1) 0 (wrap64 ((l0_0.length : Int) - 1)) true _ A7.out).mono ?_;intro _ _ h_;exact ⟨h_.1,h_.2.out⟩)|((try simp only [i64_w,i32_w]);go_at_call 47;refine Calls.quiet_of (v:=.bool true) ?_;with_reducible refine (spec_l1In.calls (rd l0_1 x3_1) 0 (wrap64 ((l0_0.length : Int) - 1)) true _ A10.out).mono ?_;intro _ _ h_;exact ⟨h_.1,h_.2.out⟩)|((try simp only [i64_w,i32_w]);go_at_call 47;refine Calls.quiet_of (v:=.bool true) ?_;with_reducible refine (spec_l1In.calls (rd l0_2 x3_1) 0 1 true _ A13.out).mono ?_;intro _ _ h_;exact ⟨h_.1,h_.2.out⟩))
            try go_wp2
            go_roundg k1
            case measure => have:=HK1.out;omega
            case rel => exact ⟨(wrap64 (x3_1 + 1)),(by first|rfl|(simp;done)|(simp [*];done)),H',⟨by have:=HK1.out;omega⟩,⟨blkU BK104.out⟩,⟨by repeat (first|(with_reducible first|exact HB.out|apply below_alloc|apply pw_below_drewN|apply below_drew1|refine below_set ?_ GE104.out)|exact HB.out)⟩⟩
           ·
            replace c14:=Bool.eq_false_iff.mpr c14;subst c14
            have H1 : (some false) = some r:=by rw [if_neg (show ¬ (false = true) by decide)] at H;exact H
            clear H;have H:=H1;clear H1
            obtain rfl:=Option.some.inj H
            have hcz17_0 : wr.cell? ⟨gb104,0,none⟩ = some (.slice A0_0 l0_0.length c0_0):=(blk_cell BK104.out 0).trans rfl
            have hcz17_1 : wr.cell? ⟨gb104,1,none⟩ = some (.slice A0_1 l0_1.length c0_1):=(blk_cell BK104.out 1).trans rfl
            have hcz17_2 : wr.cell? ⟨gb104,2,none⟩ = some (.slice A0_2 l0_2.length c0_2):=(blk_cell BK104.out 2).trans rfl
            have hfz17_0:=blk_frozen BK104.out 0
            have hfz17_1:=blk_frozen BK104.out 1
            have hfz17_2:=blk_frozen BK104.out 2
            try go_wp2
            have p106 : 0 ≤ (x3_1 : Int):=of_decide_eq_true (by first|(with_reducible assumption)|assumption)
            have q106 : x3_1 < (l0_0.length : Int):=of_decide_eq_true (by first|(with_reducible assumption)|assumption)
            obtain ⟨ad106,e106,hx106_0⟩:=Kd.at_int HR0_0.out x3_1 p106 q106;have hw106_0:=hx106_0
            cases e106
            replace hx106_0:=(HB.out.cell (World.block_lt_of_cell? w _ hx106_0)).trans hx106_0
            replace p106:=eq_true p106
            replace q106:=eq_true q106
            have p108 : 0 ≤ (x3_1 : Int):=of_decide_eq_true (by first|(with_reducible assumption)|assumption)
            have q108 : x3_1 < (l0_1.length : Int):=of_decide_eq_true (by first|(with_reducible assumption)|assumption)
            obtain ⟨ad108,e108,hx108_0⟩:=Kd.at_int HR0_1.out x3_1 p108 q108;have hw108_0:=hx108_0
            cases e108
            replace hx108_0:=(HB.out.cell (World.block_lt_of_cell? w _ hx108_0)).trans hx108_0
            replace p108:=eq_true p108
            replace q108:=eq_true q108
            have p110 : 0 ≤ (x3_1 : Int):=of_decide_eq_true (by first|(with_reducible assumption)|assumption)
            have q110 : x3_1 < (l0_2.length : Int):=of_decide_eq_true (by first|(with_reducible assumption)|assumption)
            obtain ⟨ad110,e110,hx110_0⟩:=Kd.at_int HR0_2.out x3_1 p110 q110;have hw110_0:=hx110_0
            cases e110
            replace hx110_0:=(HB.out.cell (World.block_lt_of_cell? w _ hx110_0)).trans hx110_0
            replace p110:=eq_true p110
            replace q110:=eq_true q110
            go_quiet (first|((try simp only [i64_w,i32_w]);go_at_call 47;refine Calls.quiet_of (v:=.bool true) ?_;with_reducible refine (spec_l1In.calls (rd l0_0 x3_1) 0 (wrap64 ((l0_0.length : Int) - 1)) true _ A7.out).mono ?_;intro _ _ h_;exact ⟨h_.1,h_.2.out⟩)|((try simp only [i64_w,i32_w]);go_at_call 47;refine Calls.quiet_of (v:=.bool true) ?_;with_reducible refine (spec_l1In.calls (rd l0_1 x3_1) 0 (wrap64 ((l0_0.length : Int) - 1)) true _ A10.out).mono ?_;intro _ _ h_;exact ⟨h_.1,h_.2.out⟩)|((try simp only [i64_w,i32_w]);go_at_call 47;refine Calls.quiet_of (v:=.bool false) ?_;with_reducible refine (spec_l1In.calls (rd l0_2 x3_1) 0 1 false _ A13.out).mono ?_;intro _ _ h_;exact ⟨h_.1,h_.2.out⟩))
            try go_wp2
            go_ret
            exact ⟨by first|rfl|(simp [errW_none,errW_some] <;> rfl)|(simp [*,errW_none,errW_some] <;> rfl),by repeat (first|(with_reducible first|exact HB.out|apply below_alloc|apply pw_below_drewN|apply below_drew1|refine below_set ?_ GE104.out)|exact HB.out)⟩
          ·
           rw [if_neg c12] at H
           exact absurd H (by simp)
         ·
          replace c11:=Bool.eq_false_iff.mpr c11;subst c11
          have H1 : (some false) = some r:=by rw [if_neg (show ¬ (false = true) by decide)] at H;exact H
          clear H;have H:=H1;clear H1
          obtain rfl:=Option.some.inj H
          have hcz19_0 : wr.cell? ⟨gb104,0,none⟩ = some (.slice A0_0 l0_0.length c0_0):=(blk_cell BK104.out 0).trans rfl
          have hcz19_1 : wr.cell? ⟨gb104,1,none⟩ = some (.slice A0_1 l0_1.length c0_1):=(blk_cell BK104.out 1).trans rfl
          have hcz19_2 : wr.cell? ⟨gb104,2,none⟩ = some (.slice A0_2 l0_2.length c0_2):=(blk_cell BK104.out 2).trans rfl
          have hfz19_0:=blk_frozen BK104.out 0
          have hfz19_1:=blk_frozen BK104.out 1
          have hfz19_2:=blk_frozen BK104.out 2
          try go_wp2
          have p106 : 0 ≤ (x3_1 : Int):=of_decide_eq_true (by first|(with_reducible assumption)|assumption)
          have q106 : x3_1 < (l0_0.length : Int):=of_decide_eq_true (by first|(with_reducible assumption)|assumption)
          obtain ⟨ad106,e106,hx106_0⟩:=Kd.at_int HR0_0.out x3_1 p106 q106;have hw106_0:=hx106_0
          cases e106
          replace hx106_0:=(HB.out.cell (World.block_lt_of_cell? w _ hx106_0)).trans hx106_0
          replace p106:=eq_true p106
          replace q106:=eq_true q106
          have p108 : 0 ≤ (x3_1 : Int):=of_decide_eq_true (by first|(with_reducible assumption)|assumption)
          have q108 : x3_1 < (l0_1.length : Int):=of_decide_eq_true (by first|(with_reducible assumption)|assumption)
          obtain ⟨ad108,e108,hx108_0⟩:=Kd.at_int HR0_1.out x3_1 p108 q108;have hw108_0:=hx108_0
          cases e108
          replace hx108_0:=(HB.out.cell (World.block_lt_of_cell? w _ hx108_0)).trans hx108_0
          replace p108:=eq_true p108
          replace q108:=eq_true q108
          go_quiet (first|((try simp only [i64_w,i32_w]);go_at_call 47;refine Calls.quiet_of (v:=.bool true) ?_;with_reducible refine (spec_l1In.calls (rd l0_0 x3_1) 0 (wrap64 ((l0_0.length : Int) - 1)) true _ A7.out).mono ?_;intro _ _ h_;exact ⟨h_.1,h_.2.out⟩)|((try simp only [i64_w,i32_w]);go_at_call 47;refine Calls.quiet_of (v:=.bool false) ?_;with_reducible refine (spec_l1In.calls (rd l0_1 x3_1) 0 (wrap64 ((l0_0.length : Int) - 1)) false _ A10.out).mono ?_;intro _ _ h_;exact ⟨h_.1,h_.2.out⟩))
          try go_wp2
          go_ret
          exact ⟨by first|rfl|(simp [errW_none,errW_some] <;> rfl)|(simp [*,errW_none,errW_some] <;> rfl),by repeat (first|(with_reducible first|exact HB.out|apply below_alloc|apply pw_below_drewN|apply below_drew1|refine below_set ?_ GE104.out)|exact HB.out)⟩
        ·
         rw [if_neg c9] at H
         exact absurd H (by simp)
       ·
        replace c8:=Bool.eq_false_iff.mpr c8;subst c8
        have H1 : (some false) = some r:=by rw [if_neg (show ¬ (false = true) by decide)] at H;exact H
        clear H;have H:=H1;clear H1
        obtain rfl:=Option.some.inj H
        have hcz21_0 : wr.cell? ⟨gb104,0,none⟩ = some (.slice A0_0 l0_0.length c0_0):=(blk_cell BK104.out 0).trans rfl
        have hcz21_1 : wr.cell? ⟨gb104,1,none⟩ = some (.slice A0_1 l0_1.length c0_1):=(blk_cell BK104.out 1).trans rfl
        have hcz21_2 : wr.cell? ⟨gb104,2,none⟩ = some (.slice A0_2 l0_2.length c0_2):=(blk_cell BK104.out 2).trans rfl
        have hfz21_0:=blk_frozen BK104.out 0
        have hfz21_1:=blk_frozen BK104.out 1
        have hfz21_2:=blk_frozen BK104.out 2
        try go_wp2
        have p106 : 0 ≤ (x3_1 : Int):=of_decide_eq_true (by first|(with_reducible assumption)|assumption)
        have q106 : x3_1 < (l0_0.length : Int):=of_decide_eq_true (by first|(with_reducible assumption)|assumption)
        obtain ⟨ad106,e106,hx106_0⟩:=Kd.at_int HR0_0.out x3_1 p106 q106;have hw106_0:=hx106_0
        cases e106
        replace hx106_0:=(HB.out.cell (World.block_lt_of_cell? w _ hx106_0)).trans hx106_0
        replace p106:=eq_true p106
        replace q106:=eq_true q106
        go_quiet (first|((try simp only [i64_w,i32_w]);go_at_call 47;refine Calls.quiet_of (v:=.bool false) ?_;with_reducible refine (spec_l1In.calls (rd l0_0 x3_1) 0 (wrap64 ((l0_0.length : Int) - 1)) false _ A7.out).mono ?_;intro _ _ h_;exact ⟨h_.1,h_.2.out⟩))
        try go_wp2
        go_ret
        exact ⟨by first|rfl|(simp [errW_none,errW_some] <;> rfl)|(simp [*,errW_none,errW_some] <;> rfl),by repeat (first|(with_reducible first|exact HB.out|apply below_alloc|apply pw_below_drewN|apply below_drew1|refine below_set ?_ GE104.out)|exact HB.out)⟩
      ·
       rw [if_neg c6] at H
       exact absurd H (by simp)
     ·
      rw [if_neg c5] at H
      have c5b0 : ((l0_2.length : Int) == (l0_0.length : Int)) = false:=beq_eq_false_iff_ne.mpr c5
      have c5b1 : ((l0_2.length : Int) != (l0_0.length : Int)) = true:=bne_iff_ne.mpr c5
      have c5b2 : (l0_2.length == l0_0.length) = false:=by first|simpa using c5|(simp at c5 ⊢;omega)
      obtain rfl:=Option.some.inj H
      have hcz23_0 : wr.cell? ⟨gb104,0,none⟩ = some (.slice A0_0 l0_0.length c0_0):=(blk_cell BK104.out 0).trans rfl
      have hcz23_1 : wr.cell? ⟨gb104,1,none⟩ = some (.slice A0_1 l0_1.length c0_1):=(blk_cell BK104.out 1).trans rfl
      have hcz23_2 : wr.cell? ⟨gb104,2,none⟩ = some (.slice A0_2 l0_2.length c0_2):=(blk_cell BK104.out 2).trans rfl
      have hfz23_0:=blk_frozen BK104.out 0
      have hfz23_1:=blk_frozen BK104.out 1
      have hfz23_2:=blk_frozen BK104.out 2
      try go_wp2
      go_quiet (fail)
      try go_wp2
      go_ret
      exact ⟨by first|rfl|(simp [errW_none,errW_some] <;> rfl)|(simp [*,errW_none,errW_some] <;> rfl),by repeat (first|(with_reducible first|exact HB.out|apply below_alloc|apply pw_below_drewN|apply below_drew1|refine below_set ?_ GE104.out)|exact HB.out)⟩
    ·
     rw [if_neg c4] at H
     have c4b0 : ((l0_1.length : Int) == (l0_0.length : Int)) = false:=beq_eq_false_iff_ne.mpr c4
     have c4b1 : ((l0_1.length : Int) != (l0_0.length : Int)) = true:=bne_iff_ne.mpr c4
     have c4b2 : (l0_1.length == l0_0.length) = false:=by first|simpa using c4|(simp at c4 ⊢;omega)
     obtain rfl:=Option.some.inj H
     have hcz25_0 : wr.cell? ⟨gb104,0,none⟩ = some (.slice A0_0 l0_0.length c0_0):=(blk_cell BK104.out 0).trans rfl
     have hcz25_1 : wr.cell? ⟨gb104,1,none⟩ = some (.slice A0_1 l0_1.length c0_1):=(blk_cell BK104.out 1).trans rfl
     have hcz25_2 : wr.cell? ⟨gb104,2,none⟩ = some (.slice A0_2 l0_2.length c0_2):=(blk_cell BK104.out 2).trans rfl
     have hfz25_0:=blk_frozen BK104.out 0
     have hfz25_1:=blk_frozen BK104.out 1
     have hfz25_2:=blk_frozen BK104.out 2
     try go_wp2
     go_quiet (fail)
     try go_wp2
     go_ret
     exact ⟨by first|rfl|(simp [errW_none,errW_some] <;> rfl)|(simp [*,errW_none,errW_some] <;> rfl),by repeat (first|(with_reducible first|exact HB.out|apply below_alloc|apply pw_below_drewN|apply below_drew1|refine below_set ?_ GE104.out)|exact HB.out)⟩
   ·
    rw [if_neg c3] at H
    have c3b0 : decide (x3_1 < (l0_0.length : Int)) = false:=decide_eq_false c3;clear c3
    replace H:=Option.bind_eq_some_iff.mp H
    obtain ⟨t105,A270,H⟩:=H
    replace H : (if t105 = true then (if (l0_1.length : Int) = (l0_0.length : Int) then (some ((l0_2.length : Int) == (l0_0.length : Int))) else (some false)) else (some false)) = some r:=H
    have A27:=Aside0.mk A270;clear A270
    by_cases c28 : t105 = true
    ·
     subst c28
     have H1 : (if (l0_1.length : Int) = (l0_0.length : Int) then (some ((l0_2.length : Int) == (l0_0.length : Int))) else (some false)) = some r:=by rw [if_pos rfl] at H;exact H
     clear H;have H:=H1;clear H1
     by_cases c29 : (l0_1.length : Int) = (l0_0.length : Int)
     ·
      rw [if_pos c29] at H
      have c29b0 : ((l0_1.length : Int) == (l0_0.length : Int)) = true:=beq_iff_eq.mpr c29
      have c29b1 : ((l0_1.length : Int) != (l0_0.length : Int)) = false:=bne_eq_false_iff_eq.mpr c29
      have c29b2 : (l0_1.length == l0_0.length) = true:=by first|simpa using c29|(simp at c29 ⊢;omega)
      clear c29
      obtain rfl:=Option.some.inj H
      have hcz30_0 : wr.cell? ⟨gb104,0,none⟩ = some (.slice A0_0 l0_0.length c0_0):=(blk_cell BK104.out 0).trans rfl
      have hcz30_1 : wr.cell? ⟨gb104,1,none⟩ = some (.slice A0_1 l0_1.length c0_1):=(blk_cell BK104.out 1).trans rfl
      have hcz30_2 : wr.cell? ⟨gb104,2,none⟩ = some (.slice A0_2 l0_2.length c0_2):=(blk_cell BK104.out 2).trans rfl
      have hfz30_0:=blk_frozen BK104.out 0
      have hfz30_1:=blk_frozen BK104.out 1
      have hfz30_2:=blk_frozen BK104.out 2
      go_wp2_with (first|((with_reducible refine gate_callee (f:=47) rfl ?_);refine goesL_ (some 65) rfl rfl Tryd.func47 (by kernel_rfl) rfl #[.int .i64 (l0_0.length : Int),.int .i64 1,.int .i64 12] rfl (by (try simp only [List.map_toArray,List.map_cons,List.map_nil]);first|done|rfl|(simp only [List.length_drop,List.length_take];rfl)) ?_;(with_reducible refine (spec_l1In.calls (l0_0.length : Int) 1 12 true _ A27.out).mono ?_);rintro e w' ⟨rfl,⟨nd,rfl⟩⟩;refine ⟨_,rfl,?_⟩))
      go_ret
      exact ⟨by first|rfl|(simp [errW_none,errW_some] <;> rfl)|(simp [*,errW_none,errW_some] <;> rfl),by repeat (first|(with_reducible first|exact HB.out|apply below_alloc|apply pw_below_drewN|apply below_drew1|refine below_set ?_ GE104.out)|exact HB.out)⟩
     ·
      rw [if_neg c29] at H
      have c29b0 : ((l0_1.length : Int) == (l0_0.length : Int)) = false:=beq_eq_false_iff_ne.mpr c29
      have c29b1 : ((l0_1.length : Int) != (l0_0.length : Int)) = true:=bne_iff_ne.mpr c29
      have c29b2 : (l0_1.length == l0_0.length) = false:=by first|simpa using c29|(simp at c29 ⊢;omega)
      obtain rfl:=Option.some.inj H
      have hcz31_0 : wr.cell? ⟨gb104,0,none⟩ = some (.slice A0_0 l0_0.length c0_0):=(blk_cell BK104.out 0).trans rfl
      have hcz31_1 : wr.cell? ⟨gb104,1,none⟩ = some (.slice A0_1 l0_1.length c0_1):=(blk_cell BK104.out 1).trans rfl
      have hcz31_2 : wr.cell? ⟨gb104,2,none⟩ = some (.slice A0_2 l0_2.length c0_2):=(blk_cell BK104.out 2).trans rfl
      have hfz31_0:=blk_frozen BK104.out 0
      have hfz31_1:=blk_frozen BK104.out 1
      have hfz31_2:=blk_frozen BK104.out 2
      go_wp2_with (first|((with_reducible refine gate_callee (f:=47) rfl ?_);refine goesL_ (some 65) rfl rfl Tryd.func47 (by kernel_rfl) rfl #[.int .i64 (l0_0.length : Int),.int .i64 1,.int .i64 12] rfl (by (try simp only [List.map_toArray,List.map_cons,List.map_nil]);first|done|rfl|(simp only [List.length_drop,List.length_take];rfl)) ?_;(with_reducible refine (spec_l1In.calls (l0_0.length : Int) 1 12 true _ A27.out).mono ?_);rintro e w' ⟨rfl,⟨nd,rfl⟩⟩;refine ⟨_,rfl,?_⟩))
      go_ret
      exact ⟨by first|rfl|(simp [errW_none,errW_some] <;> rfl)|(simp [*,errW_none,errW_some] <;> rfl),by repeat (first|(with_reducible first|exact HB.out|apply below_alloc|apply pw_below_drewN|apply below_drew1|refine below_set ?_ GE104.out)|exact HB.out)⟩
    ·
     replace c28:=Bool.eq_false_iff.mpr c28;subst c28
     have H1 : (some false) = some r:=by rw [if_neg (show ¬ (false = true) by decide)] at H;exact H
     clear H;have H:=H1;clear H1
     obtain rfl:=Option.some.inj H
     have hcz32_0 : wr.cell? ⟨gb104,0,none⟩ = some (.slice A0_0 l0_0.length c0_0):=(blk_cell BK104.out 0).trans rfl
     have hcz32_1 : wr.cell? ⟨gb104,1,none⟩ = some (.slice A0_1 l0_1.length c0_1):=(blk_cell BK104.out 1).trans rfl
     have hcz32_2 : wr.cell? ⟨gb104,2,none⟩ = some (.slice A0_2 l0_2.length c0_2):=(blk_cell BK104.out 2).trans rfl
     have hfz32_0:=blk_frozen BK104.out 0
     have hfz32_1:=blk_frozen BK104.out 1
     have hfz32_2:=blk_frozen BK104.out 2
     go_wp2_with (first|((with_reducible refine gate_callee (f:=47) rfl ?_);refine goesL_ (some 65) rfl rfl Tryd.func47 (by kernel_rfl) rfl #[.int .i64 (l0_0.length : Int),.int .i64 1,.int .i64 12] rfl (by (try simp only [List.map_toArray,List.map_cons,List.map_nil]);first|done|rfl|(simp only [List.length_drop,List.length_take];rfl)) ?_;(with_reducible refine (spec_l1In.calls (l0_0.length : Int) 1 12 false _ A27.out).mono ?_);rintro e w' ⟨rfl,⟨nd,rfl⟩⟩;refine ⟨_,rfl,?_⟩))
     go_ret
     exact ⟨by first|rfl|(simp [errW_none,errW_some] <;> rfl)|(simp [*,errW_none,errW_some] <;> rfl),by repeat (first|(with_reducible first|exact HB.out|apply below_alloc|apply pw_below_drewN|apply below_drew1|refine below_set ?_ GE104.out)|exact HB.out)⟩

end Go.Proofs.YthodcgkhianecaaDoor.PA
