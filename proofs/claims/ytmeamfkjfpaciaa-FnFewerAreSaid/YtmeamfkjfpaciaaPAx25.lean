/- The machine side of functions of this seat, written by the session's program myprint.py: for each Go function a Lean function and the proof that the call answers just it. -/
import Derived.Test.YtmeamfkjfpaciaaPAx0
import Derived.Test.YtmeamfkjfpaciaaUp
import Derived.Test.YtmeamfkjfpaciaaPAx1
import Derived.Test.YtmeamfkjfpaciaaPAx10
import Derived.Test.YtmeamfkjfpaciaaPAx11
namespace Go.Proofs.Ytmeamfkjfpaciaa.PA
open Go.RowKit Go.Proofs.YtmeamfkjfpaciaaW.PrintWords Go.Proofs.YtmeamfkjfpaciaaW.PrintLast Go.Proofs.YtmeamfkjfpaciaaW.PrintMore
attribute [local go_sem] max2_int min2_int max_two min_two max_three min_three max_four min_four   -- for this text's walks alone
set_option linter.unusedVariables false
set_option linter.unusedSimpArgs false

/-! ### spec_DrawFewerAre: function 14 -/
def spec_DrawFewerAre.f (k : Nat) (l0 : List Int) : Option (List Int):=(spec_l20Open.f l0).bind fun bt378 => ((spec_l20Tri.f k bt378.1 bt378.2 14).bind fun bt381 => (some bt381.1))
theorem spec_DrawFewerAre.mono : ∀ a0 k,LeO (spec_DrawFewerAre.f k a0) (spec_DrawFewerAre.f (k + 1) a0):=by
 intro a0 k
 unfold spec_DrawFewerAre.f
 repeat' first
   | (with_reducible exact spec_l20Tri.mono _ _ _ _)
   | (with_reducible exact LeO.refl _)
   | (with_reducible exact LeO.none _)
   | (with_reducible refine LeO.ite ?_ ?_)
   | (with_reducible refine LeO.bind ?_ (fun _ => ?_))
   | exact spec_l20Tri.mono _ _ _ _
   | exact LeO.none _
   | refine LeO.ite ?_ ?_
   | refine LeO.bind ?_ (fun _ => ?_)
set_option maxHeartbeats 8000000 in
set_option maxRecDepth 100000 in
theorem spec_DrawFewerAre.calls (k : Nat) (A0 : Option Addr) (c0 : Nat) (l0 : List Int) (r : List Int) (w : World) (hr0 : Kd.C (Kd.int .u8) w A0 l0.length l0) (hc0 : l0.length ≤ c0) (h : spec_DrawFewerAre.f k l0 = some r) :
  Calls Try.prog 14 #[.slice A0 l0.length c0] w fun e w' => ∃ v0_ : Value,e = .returned (v0_) ∧ Kd.R (Kd.int .i64) 3 w' w.heap.size (fun _ => True) v0_ r ∧ Below w.heap.size w w':=by
 have HR0:=Aside0.mk hr0
 have HC0:=Aside0.mk hc0;clear hr0 hc0;have HB:=Aside0.mk (Below.refl w.heap.size w)
 have H : ((spec_l20Open.f l0).bind fun bt378 => ((spec_l20Tri.f k bt378.1 bt378.2 14).bind fun bt381 => (some bt381.1))) = some r:=h;clear h
 replace H:=Option.bind_eq_some_iff.mp H
 obtain ⟨⟨t378,t379⟩,A20,H⟩:=H
 replace H : ((spec_l20Tri.f k t378 t379 14).bind fun bt381 => (some bt381.1)) = some r:=H
 have A2:=Aside0.mk A20;clear A20
 replace H:=Option.bind_eq_some_iff.mp H
 obtain ⟨⟨t381,t384⟩,A30,H⟩:=H
 replace H : (some t381) = some r:=H
 have A3:=Aside0.mk A30;clear A30
 obtain rfl:=Option.some.inj H
 go_enter Try.func14,Try.ntmps14
 go_wp2_with (first|((with_reducible refine gate_callee (f:=23) rfl ?_);refine goesL_ (some 4) rfl rfl Try.func23 (by kernel_rfl) rfl #[.slice A0 l0.length c0] rfl (by (try simp only [List.map_toArray,List.map_cons,List.map_nil]);first|done|rfl|(simp only [List.length_drop,List.length_take];rfl)) ?_;(with_reducible refine (spec_l20Open.calls _ _ l0 t378 t379 w _ ?side1 ?side2 ?side3 A2.out).mono ?_);(case side1 => repeat (first|(with_reducible first|exact HB.out|apply below_alloc|apply pw_below_drewN|apply below_drew1)|exact HB.out));(case side2 => exact HR0.out);(case side3 => exact HC0.out);rintro e w4 ⟨g380,rfl,hi,hb,hb2⟩;refine ⟨_,rfl,?_⟩;have n0_:=Aside0.mk (hb);have n1_:=Aside0.mk (hi);clear HB;have HB:=n0_;have HI380:=n1_;clear n0_ n1_;(try clear hb);(try clear hb2);(try clear hk);(try clear hi))|((with_reducible refine gate_callee (f:=22) rfl ?_);refine goesL_ (some 5) rfl rfl Try.func22 (by kernel_rfl) rfl #[.pointer (some ⟨g380,0,none⟩),.int .i64 14] rfl (by (try simp only [List.map_toArray,List.map_cons,List.map_nil]);first|done|rfl|(simp only [List.length_drop,List.length_take];rfl)) ?_;(with_reducible refine (spec_l20Tri.calls k g380 t378 t379 14 t381 t384 w _ ?side1 ?side2 A3.out).mono ?_);(case side1 => repeat (first|(with_reducible first|exact HI380.out|apply IsS51.alloc|apply IsS51.drewN|apply IsS51.drew|apply IsS51.set_1)|exact HI380.out));(case side2 => repeat (first|(with_reducible first|exact HB.out|apply below_alloc|apply pw_below_drewN|apply below_drew1|refine below_set ?_ (IsS51.ge HI380.out))|exact HB.out));rintro e w5 ⟨v382,rfl,ho0,hi,hb,hk⟩;refine ⟨_,rfl,?_⟩;have n0_:=Aside0.mk (Kd.R_lower ho0 (below_size (by repeat (first|(with_reducible first|exact HB.out|apply below_alloc|apply pw_below_drewN|apply below_drew1|refine below_set ?_ (IsS51.ge HI380.out))|exact HB.out))));have n1_:=Aside0.mk (hb);have n2_:=Aside0.mk (hi);clear HB HI380;have HO383:=n0_;have HB:=n1_;have HI380:=n2_;clear n0_ n1_ n2_;(try clear hb);(try clear hb2);(try clear hk);(try clear hi);(try clear ho0)))
 go_ret
 exact ⟨_,by first|rfl|(simp [errW_none,errW_some] <;> rfl)|(simp [*,errW_none,errW_some] <;> rfl),rU HO383.out,by repeat (first|(with_reducible first|exact HB.out|apply below_alloc|apply pw_below_drewN|apply below_drew1|refine below_set ?_ (IsS51.ge HI380.out))|exact HB.out)⟩

end Go.Proofs.Ytmeamfkjfpaciaa.PA
