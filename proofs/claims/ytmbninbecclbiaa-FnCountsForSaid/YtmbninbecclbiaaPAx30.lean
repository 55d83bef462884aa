/- The machine side of functions of this seat, written by the session's program myprint.py: for each Go function a Lean function and the proof that the call answers just it. -/
import Derived.Test.YtmbninbecclbiaaPAx0
import Derived.Test.YtmbninbecclbiaaUp
import Derived.Test.YtmbninbecclbiaaPAx25
import Derived.Test.YtmbninbecclbiaaPAx26
namespace Go.Proofs.Ytmbninbecclbiaa.PA
open Go.RowKit Go.Proofs.YtmbninbecclbiaaW.PrintWords Go.Proofs.YtmbninbecclbiaaW.PrintLast Go.Proofs.YtmbninbecclbiaaW.PrintMore
attribute [local go_sem] max2_int min2_int max_two min_two max_three min_three max_four min_four   -- for this text's walks alone
set_option linter.unusedVariables false
set_option linter.unusedSimpArgs false

/-! ### spec_l20Counts: function 47 -/
def spec_l20Counts.l0 : Nat → Int → List Int → Int → List Int → Int → Option (List Int × Int)
 | 0,_,_,_,_,_ => none
 | k + 1,x1,x5,x6,x1000,x1001 => if x6 < 4 then ((spec_l20Rd_pick.f k x1000 x1001 4).bind fun bt420 => ((spec_l20Rd_pick.f k x1000 bt420.2 10).bind fun bt422 => ((some (([0,1,bt420.1,bt422.1] : List Int) : List Int)).bind fun y424 => ((spec_l20Rd_pick.f k x1000 bt422.2 4).bind fun bt427 => (if 0 ≤ bt427.1 then (if bt427.1 < (y424.length : Int) then (if x5.length < 17592186044416 then (spec_l20Counts.l0 k x1 (x5 ++ [rd y424 bt427.1]) (wrap64 (x6 + 1)) x1000 bt427.2) else (none)) else (none)) else (none)))))) else ((spec_l20Rd_odd.f k x1000 x1001 x1).bind fun bt433 => (if bt433.1 = true then ((spec_l20Rd_pick.f k x1000 bt433.2 2).bind fun bt435 => (if bt435.1 = 0 then (if x5.length < 17592186044416 then (some ((x5 ++ [0]),bt435.2)) else (none)) else (if 0 < (x5.length : Int) then (some ((x5.set (0 : Int).toNat (-1)),bt435.2)) else (none)))) else (some (x5,bt433.2))))
def spec_l20Counts.f (k : Nat) (s0_0 : List Int) (s0_1 : Int) (a1 : Int) : Option (List Int × Int):=spec_l20Counts.l0 k a1 (([] : List Int)) 0 s0_0 s0_1
theorem spec_l20Counts.mono_l : ∀ k,(∀ y0 y1 y2 y3 y4,LeO (spec_l20Counts.l0 k y0 y1 y2 y3 y4) (spec_l20Counts.l0 (k + 1) y0 y1 y2 y3 y4))
 | 0 => fun _ _ _ _ _ r h => by simp [spec_l20Counts.l0] at h
 | k + 1 => by
  have ih0:=spec_l20Counts.mono_l k
  ·
   intro y0 y1 y2 y3 y4
   unfold spec_l20Counts.l0
   repeat' first
   | (with_reducible exact ih0 _ _ _ _ _)
   | (with_reducible exact spec_l20Rd_odd.mono _ _ _ _)
   | (with_reducible exact spec_l20Rd_pick.mono _ _ _ _)
   | (with_reducible exact LeO.refl _)
   | (with_reducible exact LeO.none _)
   | (with_reducible refine LeO.ite ?_ ?_)
   | (with_reducible refine LeO.bind ?_ (fun _ => ?_))
   | exact ih0 _ _ _ _ _
   | exact spec_l20Rd_odd.mono _ _ _ _
   | exact spec_l20Rd_pick.mono _ _ _ _
   | exact LeO.none _
   | refine LeO.ite ?_ ?_
   | refine LeO.bind ?_ (fun _ => ?_)
theorem spec_l20Counts.mono : ∀ a0 a1 a2 k,LeO (spec_l20Counts.f k a0 a1 a2) (spec_l20Counts.f (k + 1) a0 a1 a2):=by
 intro a0 a1 a2 k
 have ih0:=spec_l20Counts.mono_l k
 unfold spec_l20Counts.f
 repeat' first
   | (with_reducible exact ih0 _ _ _ _ _)
   | (with_reducible exact spec_l20Rd_odd.mono _ _ _ _)
   | (with_reducible exact spec_l20Rd_pick.mono _ _ _ _)
   | (with_reducible exact LeO.refl _)
   | (with_reducible exact LeO.none _)
   | (with_reducible refine LeO.ite ?_ ?_)
   | (with_reducible refine LeO.bind ?_ (fun _ => ?_))
   | exact ih0 _ _ _ _ _
   | exact spec_l20Rd_odd.mono _ _ _ _
   | exact spec_l20Rd_pick.mono _ _ _ _
   | exact LeO.none _
   | refine LeO.ite ?_ ?_
   | refine LeO.bind ?_ (fun _ => ?_)
set_option maxHeartbeats 8000000 in
set_option maxRecDepth 100000 in
theorem spec_l20Counts.calls (k : Nat) (g : Nat) (s0_0 : List Int) (s0_1 : Int) (a1 : Int) (r1 : List Int) (r2 : Int) (w0 w : World) (hI : IsS70 w0 w g s0_0 s0_1) (hB : Below w0.heap.size w0 w) (h : spec_l20Counts.f k s0_0 s0_1 a1 = some (r1,r2)) :
  Calls Try.prog 47 #[.pointer (some ⟨g,0,none⟩),.int .i64 a1] w fun e w' => ∃ v0_ : Value,e = .returned (v0_) ∧ Kd.R (Kd.int .i64) 3 w' w.heap.size (fun _ => True) v0_ r1 ∧ IsS70 w0 w' g s0_0 r2 ∧ Below w0.heap.size w0 w' ∧ KeepBut w w' g none:=by
 have HI0:=Aside0.mk hI;have HK:=Aside0.mk (KeepBut.refl w g none)
 have HL:=Aside0.mk hB.size;clear hI
 have HW0:=Aside0.mk hB.size
 have HB:=Aside0.mk hB;clear hB
 have H : (spec_l20Counts.l0 k a1 (([] : List Int)) 0 s0_0 s0_1) = some (r1,r2):=h;clear h
 obtain ⟨y417,hy417⟩ : ∃ y_ : List Int,y_ = (([] : List Int)):=⟨_,rfl⟩
 replace H : (spec_l20Counts.l0 k a1 y417 0 s0_0 s0_1) = some (r1,r2):=by first|(rw [hy417];with_reducible exact H)|(have H2_:=(Option.bind_some _ _).symm.trans H;rw [hy417];with_reducible exact H2_)|(have H2_:=(Option.bind_some _ _).symm.trans H;with_reducible exact H2_)|with_reducible exact H|(rw [hy417];exact H)|exact H
 have Ny417:=Aside0.mk hy417;clear hy417
 have H':=Aside0.mk H;clear H
 go_enter Try.func47,Try.ntmps47
 go_wp2_with (first|((with_reducible refine gate_dst (N:=7) rfl ?_);refine Kd.R_lit (Kd.int .i64) _ 3 ?hg (N:=7) ?hd (xs:=([] : List Int)) (inner:=[]) (ok:=fun _ => True) (okp:=fun _ => True) ?hr ?hp (fun _ hk => hk) trivial (Below.refl _ _) (Nat.le_refl _) (by simp) ?_;(case hd => rfl);(case hg => rfl);(case hr => first|(go_simp;done)|(go_simp;rfl));(case hp => exact (Reps.none _ _));intro v418 w3 ho4 hb hg_ hnew_;clear hg_ hnew_;(first|rw [← Ny417.out] at ho4|(simp only [Int.reduceToNat] at ho4;rw [← Ny417.out] at ho4));have n0_:=Aside0.mk (Kd.R_lower ho4 (keep_size (w:=w) (g:=g) (row:=none) (by repeat (first|(with_reducible first|exact HK.out|apply KeepBut.set_|apply keep_drewN|apply keep_drew|apply keep_alloc)|exact HK.out))));have n1_:=Aside0.mk (IsS70.below (by repeat (first|(with_reducible first|exact HI0.out|apply IsS70.alloc|apply IsS70.drewN|apply IsS70.drew|apply IsS70.set_1)|exact HI0.out)) hb);have n2_:=Aside0.mk (KeepBut.trans (by repeat (first|(with_reducible first|exact HK.out|apply KeepBut.set_|apply keep_drewN|apply keep_drew|apply keep_alloc)|exact HK.out)) (KeepBut.of_below hb g none) (.inl rfl));have n3_:=Aside0.mk (below_step (by repeat (first|(with_reducible first|exact HB.out|apply below_alloc|apply pw_below_drewN|apply below_drew1|refine below_set ?_ (IsS70.ge HI0.out))|exact HB.out)) hb);clear HI0 HK HB;have HO419:=n0_;have HI0:=n1_;have HK:=n2_;have HB:=n3_;clear n0_ n1_ n2_ n3_ hb ho4))
 go_loopg [5,6] k (fun kq v5 v6 w' => ∃ (x5_1 : List Int) (x6_1 : Int) (x1001_1 : Int),v6 = .int .i64 x6_1 ∧ Aside0 (spec_l20Counts.l0 kq a1 x5_1 x6_1 s0_0 x1001_1 = some (r1,r2)) ∧ Aside0 (kq ≤ k) ∧ Aside0 (Kd.R (Kd.int .i64) 3 w' w.heap.size (fun _ => True) v5 x5_1) ∧ Aside0 (IsS70 w0 w' g s0_0 x1001_1) ∧ Aside0 (KeepBut w w' g none) ∧ Aside0 (Below w0.heap.size w0 w'))
 case atStart => exact ⟨(y417),(0),(s0_1),(by first|rfl|(simp;done)|(simp [*];done)),H',⟨Nat.le_refl _⟩,⟨rU HO419.out⟩,⟨by repeat (first|(with_reducible first|exact HI0.out|apply IsS70.alloc|apply IsS70.drewN|apply IsS70.drew|apply IsS70.set_1)|exact HI0.out)⟩,⟨by repeat (first|(with_reducible first|exact HK.out|apply KeepBut.set_|apply keep_drewN|apply keep_drew|apply keep_alloc)|exact HK.out)⟩,⟨by repeat (first|(with_reducible first|exact HB.out|apply below_alloc|apply pw_below_drewN|apply below_drew1|refine below_set ?_ (IsS70.ge HI0.out))|exact HB.out)⟩⟩
 case round =>
  clear H'
  try clear p2
  try clear c4
  obtain ⟨x5_1,x6_1,x1001_1,rfl,HA,HK1,HO_5,HI0,HK,HB⟩:=hrel
  cases gk with
  | zero => exact absurd HA.out (by simp [spec_l20Counts.l0])
  | succ k1 =>
   have H:=HA.out;clear HA
   simp only [spec_l20Counts.l0] at H
   by_cases c5 : x6_1 < 4
   ·
    rw [if_pos c5] at H
    have c5b0 : decide (x6_1 < 4) = true:=decide_eq_true c5;clear c5
    replace H:=Option.bind_eq_some_iff.mp H
    obtain ⟨⟨t420,t421⟩,A60,H⟩:=H
    replace H : ((spec_l20Rd_pick.f k1 s0_0 t421 10).bind fun bt422 => ((some (([0,1,t420,bt422.1] : List Int) : List Int)).bind fun y424 => ((spec_l20Rd_pick.f k1 s0_0 bt422.2 4).bind fun bt427 => (if 0 ≤ bt427.1 then (if bt427.1 < (y424.length : Int) then (if x5_1.length < 17592186044416 then (spec_l20Counts.l0 k1 a1 (x5_1 ++ [rd y424 bt427.1]) (wrap64 (x6_1 + 1)) s0_0 bt427.2) else (none)) else (none)) else (none))))) = some (r1,r2):=H
    have A6:=Aside0.mk A60;clear A60
    replace H:=Option.bind_eq_some_iff.mp H
    obtain ⟨⟨t422,t423⟩,A70,H⟩:=H
    replace H : ((some (([0,1,t420,t422] : List Int) : List Int)).bind fun y424 => ((spec_l20Rd_pick.f k1 s0_0 t423 4).bind fun bt427 => (if 0 ≤ bt427.1 then (if bt427.1 < (y424.length : Int) then (if x5_1.length < 17592186044416 then (spec_l20Counts.l0 k1 a1 (x5_1 ++ [rd y424 bt427.1]) (wrap64 (x6_1 + 1)) s0_0 bt427.2) else (none)) else (none)) else (none)))) = some (r1,r2):=H
    have A7:=Aside0.mk A70;clear A70
    obtain ⟨y424,hy424⟩ : ∃ y_ : List Int,y_ = (([0,1,t420,t422] : List Int)):=⟨_,rfl⟩
    replace H : ((spec_l20Rd_pick.f k1 s0_0 t423 4).bind fun bt427 => (if 0 ≤ bt427.1 then (if bt427.1 < (y424.length : Int) then (if x5_1.length < 17592186044416 then (spec_l20Counts.l0 k1 a1 (x5_1 ++ [rd y424 bt427.1]) (wrap64 (x6_1 + 1)) s0_0 bt427.2) else (none)) else (none)) else (none))) = some (r1,r2):=by first|(rw [hy424];with_reducible exact H)|(have H2_:=(Option.bind_some _ _).symm.trans H;rw [hy424];with_reducible exact H2_)|(have H2_:=(Option.bind_some _ _).symm.trans H;with_reducible exact H2_)|with_reducible exact H|(rw [hy424];exact H)|exact H
    have Ny424:=Aside0.mk hy424;clear hy424
    replace H:=Option.bind_eq_some_iff.mp H
    obtain ⟨⟨t427,t428⟩,A80,H⟩:=H
    replace H : (if 0 ≤ t427 then (if t427 < (y424.length : Int) then (if x5_1.length < 17592186044416 then (spec_l20Counts.l0 k1 a1 (x5_1 ++ [rd y424 t427]) (wrap64 (x6_1 + 1)) s0_0 t428) else (none)) else (none)) else (none)) = some (r1,r2):=H
    have A8:=Aside0.mk A80;clear A80
    by_cases c9 : 0 ≤ t427
    ·
     rw [if_pos c9] at H
     have c9b0 : decide (0 ≤ t427) = true:=decide_eq_true c9;clear c9
     by_cases c10 : t427 < (y424.length : Int)
     ·
      rw [if_pos c10] at H
      have c10b0 : decide (t427 < (y424.length : Int)) = true:=decide_eq_true c10;clear c10
      by_cases c11 : x5_1.length < 17592186044416
      ·
       rw [if_pos c11] at H
       have LMc11:=Aside0.mk c11;clear c11
       obtain ⟨y430,hy430⟩ : ∃ y_ : List Int,y_ = (x5_1 ++ [rd y424 t427]):=⟨_,rfl⟩
       replace H : (spec_l20Counts.l0 k1 a1 y430 (wrap64 (x6_1 + 1)) s0_0 t428) = some (r1,r2):=by first|(rw [hy430];with_reducible exact H)|(have H2_:=(Option.bind_some _ _).symm.trans H;rw [hy430];with_reducible exact H2_)|(have H2_:=(Option.bind_some _ _).symm.trans H;with_reducible exact H2_)|with_reducible exact H|(rw [hy430];exact H)|exact H
       have Ny430:=Aside0.mk hy430;clear hy430
       have H':=Aside0.mk H;clear H
       go_wp2_with (first|((with_reducible refine gate_callee (f:=59) rfl ?_);refine goesL_ (some 14) rfl rfl Try.func59 (by kernel_rfl) rfl #[.pointer (some ⟨g,0,none⟩),.int .i64 4] rfl (by (try simp only [List.map_toArray,List.map_cons,List.map_nil]);first|done|rfl|(simp only [List.length_drop,List.length_take];rfl)) ?_;(with_reducible refine (spec_l20Rd_pick.calls k1 g s0_0 x1001_1 4 t420 t421 w0 _ ?side1 ?side2 A6.out).mono ?_);(case side1 => repeat (first|(with_reducible first|exact HI0.out|apply IsS70.alloc|apply IsS70.drewN|apply IsS70.drew|apply IsS70.set_1)|exact HI0.out));(case side2 => repeat (first|(with_reducible first|exact HB.out|apply below_alloc|apply pw_below_drewN|apply below_drew1|refine below_set ?_ (IsS70.ge HI0.out))|exact HB.out));rintro e w12 ⟨rfl,hi,hb,hk⟩;refine ⟨_,rfl,?_⟩;have n0_:=Aside0.mk (Kd.R_mono (Kd.R_keep (IsS70.apart (show IsS70 w0 _ g s0_0 x1001_1 from by repeat (first|(with_reducible first|exact HI0.out|apply IsS70.alloc|apply IsS70.drewN|apply IsS70.drew|apply IsS70.set_1)|exact HI0.out)) (rU HO_5.out) (by decide)) hk (fun _ h => h.2)) (fun _ h => h.1));have n1_:=Aside0.mk (KeepBut.trans (by repeat (first|(with_reducible first|exact HK.out|apply KeepBut.set_|apply keep_drewN|apply keep_drew|apply keep_alloc)|exact HK.out)) hk (.inl rfl));have n2_:=Aside0.mk (hb);have n3_:=Aside0.mk (hi);clear HO_5 HK HB HI0;have HO_5:=n0_;have HK:=n1_;have HB:=n2_;have HI0:=n3_;clear n0_ n1_ n2_ n3_;(try clear hb);(try clear hb2);(try clear hk);(try clear hi))|((with_reducible refine gate_callee (f:=59) rfl ?_);refine goesL_ (some 16) rfl rfl Try.func59 (by kernel_rfl) rfl #[.pointer (some ⟨g,0,none⟩),.int .i64 10] rfl (by (try simp only [List.map_toArray,List.map_cons,List.map_nil]);first|done|rfl|(simp only [List.length_drop,List.length_take];rfl)) ?_;(with_reducible refine (spec_l20Rd_pick.calls k1 g s0_0 t421 10 t422 t423 w0 _ ?side1 ?side2 A7.out).mono ?_);(case side1 => repeat (first|(with_reducible first|exact HI0.out|apply IsS70.alloc|apply IsS70.drewN|apply IsS70.drew|apply IsS70.set_1)|exact HI0.out));(case side2 => repeat (first|(with_reducible first|exact HB.out|apply below_alloc|apply pw_below_drewN|apply below_drew1|refine below_set ?_ (IsS70.ge HI0.out))|exact HB.out));rintro e w13 ⟨rfl,hi,hb,hk⟩;refine ⟨_,rfl,?_⟩;have n0_:=Aside0.mk (Kd.R_mono (Kd.R_keep (IsS70.apart (show IsS70 w0 _ g s0_0 t421 from by repeat (first|(with_reducible first|exact HI0.out|apply IsS70.alloc|apply IsS70.drewN|apply IsS70.drew|apply IsS70.set_1)|exact HI0.out)) (rU HO_5.out) (by decide)) hk (fun _ h => h.2)) (fun _ h => h.1));have n1_:=Aside0.mk (KeepBut.trans (by repeat (first|(with_reducible first|exact HK.out|apply KeepBut.set_|apply keep_drewN|apply keep_drew|apply keep_alloc)|exact HK.out)) hk (.inl rfl));have n2_:=Aside0.mk (hb);have n3_:=Aside0.mk (hi);clear HO_5 HK HB HI0;have HO_5:=n0_;have HK:=n1_;have HB:=n2_;have HI0:=n3_;clear n0_ n1_ n2_ n3_;(try clear hb);(try clear hb2);(try clear hk);(try clear hi))|((with_reducible refine gate_dst (N:=17) rfl ?_);refine Kd.R_lit (Kd.int .i64) _ 3 ?hg (N:=17) ?hd (xs:=([0,1,t420,t422] : List Int)) (inner:=[.int .i64 0,.int .i64 1,.int .i64 t420,.int .i64 t422]) (ok:=fun _ => True) (okp:=fun _ => True) ?hr ?hp (fun _ hk => hk) trivial (Below.refl _ _) (Nat.le_refl _) (by simp) ?_;(case hd => rfl);(case hg => rfl);(case hr => first|(go_simp;done)|(go_simp;rfl));(case hp => exact (Reps.one (show Kd.M (Kd.int .i64) _ _ _ 0 [.int .i64 0] from rfl) (Reps.one (show Kd.M (Kd.int .i64) _ _ _ 1 [.int .i64 1] from rfl) (Reps.one (show Kd.M (Kd.int .i64) _ _ _ t420 [.int .i64 t420] from rfl) (Reps.one (show Kd.M (Kd.int .i64) _ _ _ t422 [.int .i64 t422] from rfl) (Reps.none _ _))))));intro v425 w14 ho15 hb hg_ hnew_;clear hg_ hnew_;(first|rw [← Ny424.out] at ho15|(simp only [Int.reduceToNat] at ho15;rw [← Ny424.out] at ho15));have n0_:=Aside0.mk (Kd.R_elder' (rU HO_5.out) (Kd.R_base ho15) hb);have n1_:=Aside0.mk (Kd.R_lower (Kd.R_new' ho15 (Kd.R_lt (rU HO_5.out))) (keep_size (w:=w) (g:=g) (row:=none) (by repeat (first|(with_reducible first|exact HK.out|apply KeepBut.set_|apply keep_drewN|apply keep_drew|apply keep_alloc)|exact HK.out))));have n2_:=Aside0.mk (IsS70.below (by repeat (first|(with_reducible first|exact HI0.out|apply IsS70.alloc|apply IsS70.drewN|apply IsS70.drew|apply IsS70.set_1)|exact HI0.out)) hb);have n3_:=Aside0.mk (KeepBut.trans (by repeat (first|(with_reducible first|exact HK.out|apply KeepBut.set_|apply keep_drewN|apply keep_drew|apply keep_alloc)|exact HK.out)) (KeepBut.of_below hb g none) (.inl rfl));have n4_:=Aside0.mk (below_step (by repeat (first|(with_reducible first|exact HB.out|apply below_alloc|apply pw_below_drewN|apply below_drew1|refine below_set ?_ (IsS70.ge HI0.out))|exact HB.out)) hb);clear HO_5 HI0 HK HB;have HO_5:=n0_;have HO426:=n1_;have HI0:=n2_;have HK:=n3_;have HB:=n4_;clear n0_ n1_ n2_ n3_ n4_ hb ho15)|((with_reducible refine gate_callee (f:=59) rfl ?_);refine goesL_ (some 19) rfl rfl Try.func59 (by kernel_rfl) rfl #[.pointer (some ⟨g,0,none⟩),.int .i64 4] rfl (by (try simp only [List.map_toArray,List.map_cons,List.map_nil]);first|done|rfl|(simp only [List.length_drop,List.length_take];rfl)) ?_;(with_reducible refine (spec_l20Rd_pick.calls k1 g s0_0 t423 4 t427 t428 w0 _ ?side1 ?side2 A8.out).mono ?_);(case side1 => repeat (first|(with_reducible first|exact HI0.out|apply IsS70.alloc|apply IsS70.drewN|apply IsS70.drew|apply IsS70.set_1)|exact HI0.out));(case side2 => repeat (first|(with_reducible first|exact HB.out|apply below_alloc|apply pw_below_drewN|apply below_drew1|refine below_set ?_ (IsS70.ge HI0.out))|exact HB.out));rintro e w16 ⟨rfl,hi,hb,hk⟩;refine ⟨_,rfl,?_⟩;have n0_:=Aside0.mk (Kd.R_mono (Kd.R_keep (IsS70.apart (show IsS70 w0 _ g s0_0 t423 from by repeat (first|(with_reducible first|exact HI0.out|apply IsS70.alloc|apply IsS70.drewN|apply IsS70.drew|apply IsS70.set_1)|exact HI0.out)) (rU HO_5.out) (by decide)) hk (fun _ h => h.2)) (fun _ h => h.1));have n1_:=Aside0.mk (Kd.R_mono (Kd.R_keep (IsS70.apart (show IsS70 w0 _ g s0_0 t423 from by repeat (first|(with_reducible first|exact HI0.out|apply IsS70.alloc|apply IsS70.drewN|apply IsS70.drew|apply IsS70.set_1)|exact HI0.out)) (rU HO426.out) (by decide)) hk (fun _ h => h.2)) (fun _ h => h.1));have n2_:=Aside0.mk (KeepBut.trans (by repeat (first|(with_reducible first|exact HK.out|apply KeepBut.set_|apply keep_drewN|apply keep_drew|apply keep_alloc)|exact HK.out)) hk (.inl rfl));have n3_:=Aside0.mk (hb);have n4_:=Aside0.mk (hi);clear HO_5 HO426 HK HB HI0;have HO_5:=n0_;have HO426:=n1_;have HK:=n2_;have HB:=n3_;have HI0:=n4_;clear n0_ n1_ n2_ n3_ n4_;(try clear hb);(try clear hb2);(try clear hk);(try clear hi);obtain ⟨Ao17,co17,eo17⟩:=Kd.R_slice HO426.out;subst eo17;have p429 : 0 ≤ (t427 : Int):=of_decide_eq_true (by first|(with_reducible assumption)|assumption);have q429 : t427 < (y424.length : Int):=of_decide_eq_true (by first|(with_reducible assumption)|assumption);obtain ⟨ad429,e429,hx429_0⟩:=Kd.at_int (Kd.R_reads' HO426.out).2.2 t427 p429 q429;cases e429;replace p429:=eq_true p429;replace q429:=eq_true q429)|((with_reducible refine gate_builtin (b:=.append) (xs:=#[.tmp 12,.tmp 22]) rfl ?_);at_builtin;refine Kd.R_append (Kd.int .i64) w.heap.size rfl (.tmp 12) (.tmp 22) 35 3 (.int .i64 0) 8 rfl Try.underlying35 info3 rfl (by decide) (by omega) u5 x5_1 (rd y424 t427) [.int .i64 (rd y424 t427)] (fun k_ => some k_ ≠ (.slice (some ad429) y424.length co17 : Value).ownBlock) (fun _ => False) rfl rfl ?aP (fun _ hk => hk.elim) ?aF ?aO (Below.refl _ _) ?aS ?aL ?_;(case aP => exact rfl);(case aF => exact (fun k_ hk => Kd.fresh' (Kd.R_lt (rU HO426.out)) k_ hk));(case aO => exact (by (with_reducible repeat (first|apply Kd.R_alloc|apply Kd.R_drewN|apply Kd.R_drew));exact Kd.R_mono HO_5.out (fun _ hk => hk.2)));(case aS => exact (keep_size (w:=w) (g:=g) (row:=none) (by repeat (first|(with_reducible first|exact HK.out|apply KeepBut.set_|apply keep_drewN|apply keep_drew|apply keep_alloc)|exact HK.out))));(case aL => have:=LMc11.out;omega);intro v431 w18 ho hb hg hat;rw [← Ny430.out] at ho;have n0_:=Aside0.mk (IsS70.grown (by repeat (first|(with_reducible first|exact HI0.out|apply IsS70.alloc|apply IsS70.drewN|apply IsS70.drew|apply IsS70.set_1)|exact HI0.out)) hg (IsS70.own_ne HI0.out HO_5.out (by decide)));have n1_:=Aside0.mk (Kd.R_after (ok:=(fun _ => True)) (rU HO426.out) hg hat);have n2_:=Aside0.mk (below_weaken (by repeat (first|(with_reducible first|exact HB.out|apply below_alloc|apply pw_below_drewN|apply below_drew1|refine below_set ?_ (IsS70.ge HI0.out))|exact HB.out)) HL.out hb);have n3_:=Aside0.mk (KeepBut.trans (by repeat (first|(with_reducible first|exact HK.out|apply KeepBut.set_|apply keep_drewN|apply keep_drew|apply keep_alloc)|exact HK.out)) (KeepBut.of_grown hg g) (Kd.R_base2 HO_5.out));have n4_:=Aside0.mk (ho);clear HI0 HO426 HB HK HO_5;have HI0:=n0_;have HO426:=n1_;have HB:=n2_;have HK:=n3_;have HO432:=n4_;clear n0_ n1_ n2_ n3_ n4_ ho hb hg hat))
       go_roundg k1
       case measure => have:=HK1.out;omega
       case rel => exact ⟨(y430),(wrap64 (x6_1 + 1)),(t428),(by first|rfl|(simp;done)|(simp [*];done)),H',⟨by have:=HK1.out;omega⟩,⟨by (with_reducible repeat (first|apply Kd.R_alloc|apply Kd.R_drewN|apply Kd.R_drew));exact Kd.R_mono HO432.out (fun _ hk => trivial)⟩,⟨by repeat (first|(with_reducible first|exact HI0.out|apply IsS70.alloc|apply IsS70.drewN|apply IsS70.drew|apply IsS70.set_1)|exact HI0.out)⟩,⟨by repeat (first|(with_reducible first|exact HK.out|apply KeepBut.set_|apply keep_drewN|apply keep_drew|apply keep_alloc)|exact HK.out)⟩,⟨by repeat (first|(with_reducible first|exact HB.out|apply below_alloc|apply pw_below_drewN|apply below_drew1|refine below_set ?_ (IsS70.ge HI0.out))|exact HB.out)⟩⟩
      ·
       rw [if_neg c11] at H
       exact absurd H (by simp)
     ·
      rw [if_neg c10] at H
      exact absurd H (by simp)
    ·
     rw [if_neg c9] at H
     exact absurd H (by simp)
   ·
    rw [if_neg c5] at H
    have c5b0 : decide (x6_1 < 4) = false:=decide_eq_false c5;clear c5
    replace H:=Option.bind_eq_some_iff.mp H
    obtain ⟨⟨t433,t434⟩,A190,H⟩:=H
    replace H : (if t433 = true then ((spec_l20Rd_pick.f k1 s0_0 t434 2).bind fun bt435 => (if bt435.1 = 0 then (if x5_1.length < 17592186044416 then (some ((x5_1 ++ [0]),bt435.2)) else (none)) else (if 0 < (x5_1.length : Int) then (some ((x5_1.set (0 : Int).toNat (-1)),bt435.2)) else (none)))) else (some (x5_1,t434))) = some (r1,r2):=H
    have A19:=Aside0.mk A190;clear A190
    by_cases c20 : t433 = true
    ·
     subst c20
     have H1 : ((spec_l20Rd_pick.f k1 s0_0 t434 2).bind fun bt435 => (if bt435.1 = 0 then (if x5_1.length < 17592186044416 then (some ((x5_1 ++ [0]),bt435.2)) else (none)) else (if 0 < (x5_1.length : Int) then (some ((x5_1.set (0 : Int).toNat (-1)),bt435.2)) else (none)))) = some (r1,r2):=by rw [if_pos rfl] at H;exact H
     clear H;have H:=H1;clear H1
     replace H:=Option.bind_eq_some_iff.mp H
     obtain ⟨⟨t435,t436⟩,A210,H⟩:=H
     replace H : (if t435 = 0 then (if x5_1.length < 17592186044416 then (some ((x5_1 ++ [0]),t436)) else (none)) else (if 0 < (x5_1.length : Int) then (some ((x5_1.set (0 : Int).toNat (-1)),t436)) else (none))) = some (r1,r2):=H
     have A21:=Aside0.mk A210;clear A210
     by_cases c22 : t435 = 0
     ·
      rw [if_pos c22] at H
      have c22b0 : (t435 == 0) = true:=beq_iff_eq.mpr c22
      have c22b1 : (t435 != 0) = false:=bne_eq_false_iff_eq.mpr c22;clear c22
      by_cases c23 : x5_1.length < 17592186044416
      ·
       rw [if_pos c23] at H
       have LMc23:=Aside0.mk c23;clear c23
       obtain ⟨y437,hy437⟩ : ∃ y_ : List Int,y_ = (x5_1 ++ [0]):=⟨_,rfl⟩
       replace H : (some (y437,t436)) = some (r1,r2):=by first|(rw [hy437];with_reducible exact H)|(have H2_:=(Option.bind_some _ _).symm.trans H;rw [hy437];with_reducible exact H2_)|(have H2_:=(Option.bind_some _ _).symm.trans H;with_reducible exact H2_)|with_reducible exact H|(rw [hy437];exact H)|exact H
       have Ny437:=Aside0.mk hy437;clear hy437
       simp only [Option.some.injEq,Prod.mk.injEq] at H
       obtain ⟨rfl,rfl⟩:=H
       go_wp2_with (first|((with_reducible refine gate_callee (f:=41) rfl ?_);refine goesL_ (some 26) rfl rfl Try.func41 (by kernel_rfl) rfl #[.pointer (some ⟨g,0,none⟩),.int .i64 a1] rfl (by (try simp only [List.map_toArray,List.map_cons,List.map_nil]);first|done|rfl|(simp only [List.length_drop,List.length_take];rfl)) ?_;(with_reducible refine (spec_l20Rd_odd.calls k1 g s0_0 x1001_1 a1 true t434 w0 _ ?side1 ?side2 A19.out).mono ?_);(case side1 => repeat (first|(with_reducible first|exact HI0.out|apply IsS70.alloc|apply IsS70.drewN|apply IsS70.drew|apply IsS70.set_1)|exact HI0.out));(case side2 => repeat (first|(with_reducible first|exact HB.out|apply below_alloc|apply pw_below_drewN|apply below_drew1|refine below_set ?_ (IsS70.ge HI0.out))|exact HB.out));rintro e w24 ⟨rfl,hi,hb,hk⟩;refine ⟨_,rfl,?_⟩;have n0_:=Aside0.mk (Kd.R_mono (Kd.R_keep (IsS70.apart (show IsS70 w0 _ g s0_0 x1001_1 from by repeat (first|(with_reducible first|exact HI0.out|apply IsS70.alloc|apply IsS70.drewN|apply IsS70.drew|apply IsS70.set_1)|exact HI0.out)) (rU HO_5.out) (by decide)) hk (fun _ h => h.2)) (fun _ h => h.1));have n1_:=Aside0.mk (KeepBut.trans (by repeat (first|(with_reducible first|exact HK.out|apply KeepBut.set_|apply keep_drewN|apply keep_drew|apply keep_alloc)|exact HK.out)) hk (.inl rfl));have n2_:=Aside0.mk (hb);have n3_:=Aside0.mk (hi);clear HO_5 HK HB HI0;have HO_5:=n0_;have HK:=n1_;have HB:=n2_;have HI0:=n3_;clear n0_ n1_ n2_ n3_;(try clear hb);(try clear hb2);(try clear hk);(try clear hi))|((with_reducible refine gate_callee (f:=59) rfl ?_);refine goesL_ (some 28) rfl rfl Try.func59 (by kernel_rfl) rfl #[.pointer (some ⟨g,0,none⟩),.int .i64 2] rfl (by (try simp only [List.map_toArray,List.map_cons,List.map_nil]);first|done|rfl|(simp only [List.length_drop,List.length_take];rfl)) ?_;(with_reducible refine (spec_l20Rd_pick.calls k1 g s0_0 t434 2 t435 t436 w0 _ ?side1 ?side2 A21.out).mono ?_);(case side1 => repeat (first|(with_reducible first|exact HI0.out|apply IsS70.alloc|apply IsS70.drewN|apply IsS70.drew|apply IsS70.set_1)|exact HI0.out));(case side2 => repeat (first|(with_reducible first|exact HB.out|apply below_alloc|apply pw_below_drewN|apply below_drew1|refine below_set ?_ (IsS70.ge HI0.out))|exact HB.out));rintro e w25 ⟨rfl,hi,hb,hk⟩;refine ⟨_,rfl,?_⟩;have n0_:=Aside0.mk (Kd.R_mono (Kd.R_keep (IsS70.apart (show IsS70 w0 _ g s0_0 t434 from by repeat (first|(with_reducible first|exact HI0.out|apply IsS70.alloc|apply IsS70.drewN|apply IsS70.drew|apply IsS70.set_1)|exact HI0.out)) (rU HO_5.out) (by decide)) hk (fun _ h => h.2)) (fun _ h => h.1));have n1_:=Aside0.mk (KeepBut.trans (by repeat (first|(with_reducible first|exact HK.out|apply KeepBut.set_|apply keep_drewN|apply keep_drew|apply keep_alloc)|exact HK.out)) hk (.inl rfl));have n2_:=Aside0.mk (hb);have n3_:=Aside0.mk (hi);clear HO_5 HK HB HI0;have HO_5:=n0_;have HK:=n1_;have HB:=n2_;have HI0:=n3_;clear n0_ n1_ n2_ n3_;(try clear hb);(try clear hb2);(try clear hk);(try clear hi))|((with_reducible refine gate_builtin (b:=.append) (xs:=#[.tmp 30,.tmp 31]) rfl ?_);at_builtin;refine Kd.R_append (Kd.int .i64) w.heap.size rfl (.tmp 30) (.tmp 31) 35 3 (.int .i64 0) 8 rfl Try.underlying35 info3 rfl (by decide) (by omega) u5 x5_1 0 [.int .i64 0] (fun _ => True) (fun _ => False) rfl rfl ?aP (fun _ hk => hk.elim) ?aF ?aO (Below.refl _ _) ?aS ?aL ?_;(case aP => exact rfl);(case aF => exact (fun _ _ => trivial));(case aO => exact (rU HO_5.out));(case aS => exact (keep_size (w:=w) (g:=g) (row:=none) (by repeat (first|(with_reducible first|exact HK.out|apply KeepBut.set_|apply keep_drewN|apply keep_drew|apply keep_alloc)|exact HK.out))));(case aL => have:=LMc23.out;omega);intro v438 w26 ho hb hg hat;rw [← Ny437.out] at ho;have n0_:=Aside0.mk (IsS70.grown (by repeat (first|(with_reducible first|exact HI0.out|apply IsS70.alloc|apply IsS70.drewN|apply IsS70.drew|apply IsS70.set_1)|exact HI0.out)) hg (IsS70.own_ne HI0.out HO_5.out (by decide)));have n1_:=Aside0.mk (below_weaken (by repeat (first|(with_reducible first|exact HB.out|apply below_alloc|apply pw_below_drewN|apply below_drew1|refine below_set ?_ (IsS70.ge HI0.out))|exact HB.out)) HL.out hb);have n2_:=Aside0.mk (KeepBut.trans (by repeat (first|(with_reducible first|exact HK.out|apply KeepBut.set_|apply keep_drewN|apply keep_drew|apply keep_alloc)|exact HK.out)) (KeepBut.of_grown hg g) (Kd.R_base2 HO_5.out));have n3_:=Aside0.mk (ho);clear HI0 HB HK HO_5;have HI0:=n0_;have HB:=n1_;have HK:=n2_;have HO439:=n3_;clear n0_ n1_ n2_ n3_ ho hb hg hat))
       go_ret
       exact ⟨_,by first|rfl|(simp [errW_none,errW_some] <;> rfl)|(simp [*,errW_none,errW_some] <;> rfl),rU HO439.out,by repeat (first|(with_reducible first|exact HI0.out|apply IsS70.alloc|apply IsS70.drewN|apply IsS70.drew|apply IsS70.set_1)|exact HI0.out),by repeat (first|(with_reducible first|exact HB.out|apply below_alloc|apply pw_below_drewN|apply below_drew1|refine below_set ?_ (IsS70.ge HI0.out))|exact HB.out),by repeat (first|(with_reducible first|exact HK.out|apply KeepBut.set_|apply keep_drewN|apply keep_drew|apply keep_alloc)|exact HK.out)⟩
      ·
       rw [if_neg c23] at H
       exact absurd H (by simp)
     ·
      rw [if_neg c22] at H
      have c22b0 : (t435 == 0) = false:=beq_eq_false_iff_ne.mpr c22
      have c22b1 : (t435 != 0) = true:=bne_iff_ne.mpr c22
      by_cases c27 : 0 < (x5_1.length : Int)
      ·
       rw [if_pos c27] at H
       have c27b0 : decide (0 < (x5_1.length : Int)) = true:=decide_eq_true c27
       have c27b1 : decide (0 < x5_1.length) = true:=decide_eq_true (by omega);clear c27
       obtain ⟨y440,hy440⟩ : ∃ y_ : List Int,y_ = (x5_1.set (0 : Int).toNat (-1)):=⟨_,rfl⟩
       replace H : (some (y440,t436)) = some (r1,r2):=by first|(rw [hy440];with_reducible exact H)|(have H2_:=(Option.bind_some _ _).symm.trans H;rw [hy440];with_reducible exact H2_)|(have H2_:=(Option.bind_some _ _).symm.trans H;with_reducible exact H2_)|with_reducible exact H|(rw [hy440];exact H)|exact H
       have Ny440:=Aside0.mk hy440;clear hy440
       simp only [Option.some.injEq,Prod.mk.injEq] at H
       obtain ⟨rfl,rfl⟩:=H
       go_wp2_with (first|((with_reducible refine gate_callee (f:=41) rfl ?_);refine goesL_ (some 26) rfl rfl Try.func41 (by kernel_rfl) rfl #[.pointer (some ⟨g,0,none⟩),.int .i64 a1] rfl (by (try simp only [List.map_toArray,List.map_cons,List.map_nil]);first|done|rfl|(simp only [List.length_drop,List.length_take];rfl)) ?_;(with_reducible refine (spec_l20Rd_odd.calls k1 g s0_0 x1001_1 a1 true t434 w0 _ ?side1 ?side2 A19.out).mono ?_);(case side1 => repeat (first|(with_reducible first|exact HI0.out|apply IsS70.alloc|apply IsS70.drewN|apply IsS70.drew|apply IsS70.set_1)|exact HI0.out));(case side2 => repeat (first|(with_reducible first|exact HB.out|apply below_alloc|apply pw_below_drewN|apply below_drew1|refine below_set ?_ (IsS70.ge HI0.out))|exact HB.out));rintro e w29 ⟨rfl,hi,hb,hk⟩;refine ⟨_,rfl,?_⟩;have n0_:=Aside0.mk (Kd.R_mono (Kd.R_keep (IsS70.apart (show IsS70 w0 _ g s0_0 x1001_1 from by repeat (first|(with_reducible first|exact HI0.out|apply IsS70.alloc|apply IsS70.drewN|apply IsS70.drew|apply IsS70.set_1)|exact HI0.out)) (rU HO_5.out) (by decide)) hk (fun _ h => h.2)) (fun _ h => h.1));have n1_:=Aside0.mk (KeepBut.trans (by repeat (first|(with_reducible first|exact HK.out|apply KeepBut.set_|apply keep_drewN|apply keep_drew|apply keep_alloc)|exact HK.out)) hk (.inl rfl));have n2_:=Aside0.mk (hb);have n3_:=Aside0.mk (hi);clear HO_5 HK HB HI0;have HO_5:=n0_;have HK:=n1_;have HB:=n2_;have HI0:=n3_;clear n0_ n1_ n2_ n3_;(try clear hb);(try clear hb2);(try clear hk);(try clear hi))|((with_reducible refine gate_callee (f:=59) rfl ?_);refine goesL_ (some 28) rfl rfl Try.func59 (by kernel_rfl) rfl #[.pointer (some ⟨g,0,none⟩),.int .i64 2] rfl (by (try simp only [List.map_toArray,List.map_cons,List.map_nil]);first|done|rfl|(simp only [List.length_drop,List.length_take];rfl)) ?_;(with_reducible refine (spec_l20Rd_pick.calls k1 g s0_0 t434 2 t435 t436 w0 _ ?side1 ?side2 A21.out).mono ?_);(case side1 => repeat (first|(with_reducible first|exact HI0.out|apply IsS70.alloc|apply IsS70.drewN|apply IsS70.drew|apply IsS70.set_1)|exact HI0.out));(case side2 => repeat (first|(with_reducible first|exact HB.out|apply below_alloc|apply pw_below_drewN|apply below_drew1|refine below_set ?_ (IsS70.ge HI0.out))|exact HB.out));rintro e w30 ⟨rfl,hi,hb,hk⟩;refine ⟨_,rfl,?_⟩;have n0_:=Aside0.mk (Kd.R_mono (Kd.R_keep (IsS70.apart (show IsS70 w0 _ g s0_0 t434 from by repeat (first|(with_reducible first|exact HI0.out|apply IsS70.alloc|apply IsS70.drewN|apply IsS70.drew|apply IsS70.set_1)|exact HI0.out)) (rU HO_5.out) (by decide)) hk (fun _ h => h.2)) (fun _ h => h.1));have n1_:=Aside0.mk (KeepBut.trans (by repeat (first|(with_reducible first|exact HK.out|apply KeepBut.set_|apply keep_drewN|apply keep_drew|apply keep_alloc)|exact HK.out)) hk (.inl rfl));have n2_:=Aside0.mk (hb);have n3_:=Aside0.mk (hi);clear HO_5 HK HB HI0;have HO_5:=n0_;have HK:=n1_;have HB:=n2_;have HI0:=n3_;clear n0_ n1_ n2_ n3_;(try clear hb);(try clear hb2);(try clear hk);(try clear hi);have p28 : 0 ≤ (0 : Int):=(by omega);have q28 : (0 : Int) < ((x5_1.length : Int) : Int):=of_decide_eq_true (by first|(with_reducible assumption)|assumption);have qi28 : (0 < x5_1.length) = True:=eq_true (by omega);obtain ⟨go28,co28,eo28,gb28,gl28,cl28,HG28⟩:=Kd.R_form HO_5.out (by omega);(first|cases eo28|(injection eo28 with ea_ en_ ec_;(first|subst ea_|(injection ea_ with ea_;subst ea_));subst ec_;clear en_));have GB28:=Aside0.mk gb28;have GG28:=Aside0.mk HG28;clear gb28 gl28 HG28;obtain ⟨hx28_0,hf28_0⟩:=Kd.R_celln 0 HO_5.out (0 : Int) p28 q28;(try rw [show ((0 : Int)).toNat = 0 from rfl] at hx28_0);(try simp only [Nat.reduceMul,Nat.zero_mul,Nat.zero_add,Nat.reduceAdd] at hx28_0);(try rw [show ((0 : Int)).toNat = 0 from rfl] at hf28_0);(try simp only [Nat.reduceMul,Nat.zero_mul,Nat.zero_add,Nat.reduceAdd] at hf28_0);replace p28:=eq_true p28;replace q28:=eq_true q28;obtain ⟨hy31_,hz31_⟩:=Kd.R_celln 0 HO_5.out (0 : Int) (by omega) (of_decide_eq_true (by first|(with_reducible assumption)|assumption));(try simp only [Int.reduceToNat,Int.toNat_zero,Int.toNat_ofNat,Nat.reduceMul,Nat.zero_mul,Nat.zero_add] at hy31_ hz31_);(try rw [show ((0 : Int)).toNat = 0 from rfl] at hy31_);(try rw [show ((0 : Int)).toNat = 0 from rfl] at hz31_);have HP31:=Kd.R_putg HO_5.out (0 : Int) (-1))|((with_reducible refine gate_store (t:=3) (p:=34) rfl ?_);refine store_event (t:=3) (p:=34) (v:=?vo_w32) (w1:=(w30.setCell ⟨go28,(0 : Int).toNat,none⟩ (.int .i64 (-1)))) ?hg ?ho ?hn ?hr ?_;(case ho => rfl);(case hg => rfl);(case hn => rfl);(case hr => first|(go_simp;done)|(go_simp;rfl));intro w32 hw;have hg : w30.grownBy w32 (some go28):=(by rw [hw];exact HP31.2);have hp_ : Kd.R (Kd.int .i64) 3 w32 w.heap.size (fun _ => True) (.slice (some ⟨go28,0,none⟩) x5_1.length co28) y440:=(by rw [hw,Ny440.out];exact HP31.1);clear HP31;have n0_:=Aside0.mk (hp_);have n1_:=Aside0.mk (IsS70.grown (by repeat (first|(with_reducible first|exact HI0.out|apply IsS70.alloc|apply IsS70.drewN|apply IsS70.drew|apply IsS70.set_1)|exact HI0.out)) hg (IsS70.own_ne HI0.out HO_5.out (by decide)));have n2_:=Aside0.mk ((by rw [hw];exact below_set (HB.out) (Nat.le_trans HL.out GB28.out) : Below w0.heap.size w0 w32));have n3_:=Aside0.mk (KeepBut.trans (by repeat (first|(with_reducible first|exact HK.out|apply KeepBut.set_|apply keep_drewN|apply keep_drew|apply keep_alloc)|exact HK.out)) (KeepBut.of_grown hg g) (Kd.R_base2 HO_5.out));clear HO_5 HI0 HB HK;have HO_5:=n0_;have HI0:=n1_;have HB:=n2_;have HK:=n3_;clear n0_ n1_ n2_ n3_ hg hw hp_))
       go_ret
       exact ⟨_,by first|rfl|(simp [errW_none,errW_some] <;> rfl)|(simp [*,errW_none,errW_some] <;> rfl),rU HO_5.out,by repeat (first|(with_reducible first|exact HI0.out|apply IsS70.alloc|apply IsS70.drewN|apply IsS70.drew|apply IsS70.set_1)|exact HI0.out),by repeat (first|(with_reducible first|exact HB.out|apply below_alloc|apply pw_below_drewN|apply below_drew1|refine below_set ?_ (IsS70.ge HI0.out))|exact HB.out),by repeat (first|(with_reducible first|exact HK.out|apply KeepBut.set_|apply keep_drewN|apply keep_drew|apply keep_alloc)|exact HK.out)⟩
      ·
       rw [if_neg c27] at H
       exact absurd H (by simp)
    ·
     replace c20:=Bool.eq_false_iff.mpr c20;subst c20
     have H1 : (some (x5_1,t434)) = some (r1,r2):=by rw [if_neg (show ¬ (false = true) by decide)] at H;exact H
     clear H;have H:=H1;clear H1
     simp only [Option.some.injEq,Prod.mk.injEq] at H
     obtain ⟨rfl,rfl⟩:=H
     go_wp2_with (first|((with_reducible refine gate_callee (f:=41) rfl ?_);refine goesL_ (some 26) rfl rfl Try.func41 (by kernel_rfl) rfl #[.pointer (some ⟨g,0,none⟩),.int .i64 a1] rfl (by (try simp only [List.map_toArray,List.map_cons,List.map_nil]);first|done|rfl|(simp only [List.length_drop,List.length_take];rfl)) ?_;(with_reducible refine (spec_l20Rd_odd.calls k1 g s0_0 x1001_1 a1 false t434 w0 _ ?side1 ?side2 A19.out).mono ?_);(case side1 => repeat (first|(with_reducible first|exact HI0.out|apply IsS70.alloc|apply IsS70.drewN|apply IsS70.drew|apply IsS70.set_1)|exact HI0.out));(case side2 => repeat (first|(with_reducible first|exact HB.out|apply below_alloc|apply pw_below_drewN|apply below_drew1|refine below_set ?_ (IsS70.ge HI0.out))|exact HB.out));rintro e w33 ⟨rfl,hi,hb,hk⟩;refine ⟨_,rfl,?_⟩;have n0_:=Aside0.mk (Kd.R_mono (Kd.R_keep (IsS70.apart (show IsS70 w0 _ g s0_0 x1001_1 from by repeat (first|(with_reducible first|exact HI0.out|apply IsS70.alloc|apply IsS70.drewN|apply IsS70.drew|apply IsS70.set_1)|exact HI0.out)) (rU HO_5.out) (by decide)) hk (fun _ h => h.2)) (fun _ h => h.1));have n1_:=Aside0.mk (KeepBut.trans (by repeat (first|(with_reducible first|exact HK.out|apply KeepBut.set_|apply keep_drewN|apply keep_drew|apply keep_alloc)|exact HK.out)) hk (.inl rfl));have n2_:=Aside0.mk (hb);have n3_:=Aside0.mk (hi);clear HO_5 HK HB HI0;have HO_5:=n0_;have HK:=n1_;have HB:=n2_;have HI0:=n3_;clear n0_ n1_ n2_ n3_;(try clear hb);(try clear hb2);(try clear hk);(try clear hi)))
     go_ret
     exact ⟨_,by first|rfl|(simp [errW_none,errW_some] <;> rfl)|(simp [*,errW_none,errW_some] <;> rfl),rU HO_5.out,by repeat (first|(with_reducible first|exact HI0.out|apply IsS70.alloc|apply IsS70.drewN|apply IsS70.drew|apply IsS70.set_1)|exact HI0.out),by repeat (first|(with_reducible first|exact HB.out|apply below_alloc|apply pw_below_drewN|apply below_drew1|refine below_set ?_ (IsS70.ge HI0.out))|exact HB.out),by repeat (first|(with_reducible first|exact HK.out|apply KeepBut.set_|apply keep_drewN|apply keep_drew|apply keep_alloc)|exact HK.out)⟩

end Go.Proofs.Ytmbninbecclbiaa.PA
