/- The machine side of functions of this seat, written by the session's program myprint.py: for each Go function a Lean function and the proof that the call answers just it. -/
import Derived.Test.YtiplbleghaoehaaPAx0
import Derived.Test.YtiplbleghaoehaaUp
import Derived.Test.YtiplbleghaoehaaPAx1
import Derived.Test.YtiplbleghaoehaaPAx2
namespace Go.Proofs.Ytiplbleghaoehaa.PA
open Go.RowKit Go.Proofs.YtiplbleghaoehaaW.PrintWords Go.Proofs.YtiplbleghaoehaaW.PrintLast Go.Proofs.YtiplbleghaoehaaW.PrintMore
attribute [local go_sem] max2_int min2_int max_two min_two max_three min_three max_four min_four   -- for this text's walks alone
set_option linter.unusedVariables false
set_option linter.unusedSimpArgs false

/-! ### spec_DrawNamedTriangle: function 19 -/
def spec_DrawNamedTriangle.f (k : Nat) (l0 : List Int) : Option (ByteArray):=(spec_l20Open.f l0).bind fun bt110 => ((spec_l20Rd_pick.f k bt110.1 bt110.2 3).bind fun bt113 => (if bt113.1 = 0 then ((some (([(⟨#[97,116,108,101,97,115,116]⟩ : ByteArray),(⟨#[106,117,115,116]⟩ : ByteArray),(⟨#[97,108,108,98,117,116]⟩ : ByteArray)] : List ByteArray) : List ByteArray)).bind fun y115 => ((spec_l20Rd_pick.f k bt110.1 bt113.2 3).bind fun bt118 => (if 0 ≤ bt118.1 then (if bt118.1 < (y115.length : Int) then ((some (([(⟨#[48]⟩ : ByteArray),(⟨#[49]⟩ : ByteArray),(⟨#[52]⟩ : ByteArray),(⟨#[53]⟩ : ByteArray),(⟨#[54]⟩ : ByteArray),(⟨#[]⟩ : ByteArray)] : List ByteArray) : List ByteArray)).bind fun y121 => ((spec_l20Rd_pick.f k bt110.1 bt118.2 6).bind fun bt124 => (if 0 ≤ bt124.1 then (if bt124.1 < (y121.length : Int) then (if (rdOf ByteArray.empty y115 bt118.1).size + (rdOf ByteArray.empty y121 bt124.1).size ≤ 9223372036854775807 then (some ((rdOf ByteArray.empty y115 bt118.1) ++ (rdOf ByteArray.empty y121 bt124.1))) else (none)) else (none)) else (none)))) else (none)) else (none)))) else ((spec_l20Names.f).bind fun t127 => ((some (([(⟨#[]⟩ : ByteArray),(⟨#[97,108,108]⟩ : ByteArray),(⟨#[69,118,101,114,121]⟩ : ByteArray)] : List ByteArray) : List ByteArray)).bind fun y130 => (if t127.length + y130.length < 8796093022208 then ((some (t127 ++ y130 : List ByteArray)).bind fun y133 => ((spec_l20Rd_pick.f k bt110.1 bt113.2 13).bind fun bt136 => (if 0 ≤ bt136.1 then (if bt136.1 < (y133.length : Int) then (some (rdOf ByteArray.empty y133 bt136.1)) else (none)) else (none)))) else (none))))))
theorem spec_DrawNamedTriangle.mono : ∀ a0 k,LeO (spec_DrawNamedTriangle.f k a0) (spec_DrawNamedTriangle.f (k + 1) a0):=by
 intro a0 k
 unfold spec_DrawNamedTriangle.f
 repeat' first
   | (with_reducible exact spec_l20Rd_pick.mono _ _ _ _)
   | (with_reducible exact LeO.refl _)
   | (with_reducible exact LeO.none _)
   | (with_reducible refine LeO.ite ?_ ?_)
   | (with_reducible refine LeO.bind ?_ (fun _ => ?_))
   | exact spec_l20Rd_pick.mono _ _ _ _
   | exact LeO.none _
   | refine LeO.ite ?_ ?_
   | refine LeO.bind ?_ (fun _ => ?_)
def spec_DrawNamedTriangle.T3 : Bool × List (List Nat × List Nat):=(true,[([],[]),([],[]),([1],[1]),([0,2],[0,2]),([3],[3]),([],[]),([],[]),([6,2],[6]),([5,7],[5,7]),([8],[8]),([4,9],[4,9]),([10,7,0,1,2,3,4,5,6,7,8,9,10],[10])])
def spec_DrawNamedTriangle.B3 : List Nat:=[0,0,2,7,15,0,0,70,230,486,1023,2047]
theorem spec_DrawNamedTriangle.tab3 : rtab .any (opsOf Try.f19 3) = spec_DrawNamedTriangle.T3:=by kernel_rfl
theorem spec_DrawNamedTriangle.bits3 : waitsOk spec_DrawNamedTriangle.T3.2 spec_DrawNamedTriangle.B3 = true:=by kernel_rfl
set_option maxHeartbeats 8000000 in
set_option maxRecDepth 100000 in
theorem spec_DrawNamedTriangle.calls (k : Nat) (A0 : Option Addr) (c0 : Nat) (l0 : List Int) (r : ByteArray) (w : World) (hr0 : Kd.C (Kd.int .u8) w A0 l0.length l0) (hc0 : l0.length ≤ c0) (h : spec_DrawNamedTriangle.f k l0 = some r) :
  Calls Try.prog 19 #[.slice A0 l0.length c0] w fun e w' => e = .returned (.string r) ∧ Below w.heap.size w w':=by
 have HR0:=Aside0.mk hr0
 have HC0:=Aside0.mk hc0;clear hr0 hc0;have HB:=Aside0.mk (Below.refl w.heap.size w)
 have H : ((spec_l20Open.f l0).bind fun bt110 => ((spec_l20Rd_pick.f k bt110.1 bt110.2 3).bind fun bt113 => (if bt113.1 = 0 then ((some (([(⟨#[97,116,108,101,97,115,116]⟩ : ByteArray),(⟨#[106,117,115,116]⟩ : ByteArray),(⟨#[97,108,108,98,117,116]⟩ : ByteArray)] : List ByteArray) : List ByteArray)).bind fun y115 => ((spec_l20Rd_pick.f k bt110.1 bt113.2 3).bind fun bt118 => (if 0 ≤ bt118.1 then (if bt118.1 < (y115.length : Int) then ((some (([(⟨#[48]⟩ : ByteArray),(⟨#[49]⟩ : ByteArray),(⟨#[52]⟩ : ByteArray),(⟨#[53]⟩ : ByteArray),(⟨#[54]⟩ : ByteArray),(⟨#[]⟩ : ByteArray)] : List ByteArray) : List ByteArray)).bind fun y121 => ((spec_l20Rd_pick.f k bt110.1 bt118.2 6).bind fun bt124 => (if 0 ≤ bt124.1 then (if bt124.1 < (y121.length : Int) then (if (rdOf ByteArray.empty y115 bt118.1).size + (rdOf ByteArray.empty y121 bt124.1).size ≤ 9223372036854775807 then (some ((rdOf ByteArray.empty y115 bt118.1) ++ (rdOf ByteArray.empty y121 bt124.1))) else (none)) else (none)) else (none)))) else (none)) else (none)))) else ((spec_l20Names.f).bind fun t127 => ((some (([(⟨#[]⟩ : ByteArray),(⟨#[97,108,108]⟩ : ByteArray),(⟨#[69,118,101,114,121]⟩ : ByteArray)] : List ByteArray) : List ByteArray)).bind fun y130 => (if t127.length + y130.length < 8796093022208 then ((some (t127 ++ y130 : List ByteArray)).bind fun y133 => ((spec_l20Rd_pick.f k bt110.1 bt113.2 13).bind fun bt136 => (if 0 ≤ bt136.1 then (if bt136.1 < (y133.length : Int) then (some (rdOf ByteArray.empty y133 bt136.1)) else (none)) else (none)))) else (none))))))) = some r:=h
 clear h
 replace H:=Option.bind_eq_some_iff.mp H
 obtain ⟨⟨t110,t111⟩,A20,H⟩:=H
 replace H : ((spec_l20Rd_pick.f k t110 t111 3).bind fun bt113 => (if bt113.1 = 0 then ((some (([(⟨#[97,116,108,101,97,115,116]⟩ : ByteArray),(⟨#[106,117,115,116]⟩ : ByteArray),(⟨#[97,108,108,98,117,116]⟩ : ByteArray)] : List ByteArray) : List ByteArray)).bind fun y115 => ((spec_l20Rd_pick.f k t110 bt113.2 3).bind fun bt118 => (if 0 ≤ bt118.1 then (if bt118.1 < (y115.length : Int) then ((some (([(⟨#[48]⟩ : ByteArray),(⟨#[49]⟩ : ByteArray),(⟨#[52]⟩ : ByteArray),(⟨#[53]⟩ : ByteArray),(⟨#[54]⟩ : ByteArray),(⟨#[]⟩ : ByteArray)] : List ByteArray) : List ByteArray)).bind fun y121 => ((spec_l20Rd_pick.f k t110 bt118.2 6).bind fun bt124 => (if 0 ≤ bt124.1 then (if bt124.1 < (y121.length : Int) then (if (rdOf ByteArray.empty y115 bt118.1).size + (rdOf ByteArray.empty y121 bt124.1).size ≤ 9223372036854775807 then (some ((rdOf ByteArray.empty y115 bt118.1) ++ (rdOf ByteArray.empty y121 bt124.1))) else (none)) else (none)) else (none)))) else (none)) else (none)))) else ((spec_l20Names.f).bind fun t127 => ((some (([(⟨#[]⟩ : ByteArray),(⟨#[97,108,108]⟩ : ByteArray),(⟨#[69,118,101,114,121]⟩ : ByteArray)] : List ByteArray) : List ByteArray)).bind fun y130 => (if t127.length + y130.length < 8796093022208 then ((some (t127 ++ y130 : List ByteArray)).bind fun y133 => ((spec_l20Rd_pick.f k t110 bt113.2 13).bind fun bt136 => (if 0 ≤ bt136.1 then (if bt136.1 < (y133.length : Int) then (some (rdOf ByteArray.empty y133 bt136.1)) else (none)) else (none)))) else (none)))))) = some r:=H
 have A2:=Aside0.mk A20;clear A20
 replace H:=Option.bind_eq_some_iff.mp H
 obtain ⟨⟨t113,t114⟩,A30,H⟩:=H
 replace H : (if t113 = 0 then ((some (([(⟨#[97,116,108,101,97,115,116]⟩ : ByteArray),(⟨#[106,117,115,116]⟩ : ByteArray),(⟨#[97,108,108,98,117,116]⟩ : ByteArray)] : List ByteArray) : List ByteArray)).bind fun y115 => ((spec_l20Rd_pick.f k t110 t114 3).bind fun bt118 => (if 0 ≤ bt118.1 then (if bt118.1 < (y115.length : Int) then ((some (([(⟨#[48]⟩ : ByteArray),(⟨#[49]⟩ : ByteArray),(⟨#[52]⟩ : ByteArray),(⟨#[53]⟩ : ByteArray),(⟨#[54]⟩ : ByteArray),(⟨#[]⟩ : ByteArray)] : List ByteArray) : List ByteArray)).bind fun y121 => ((spec_l20Rd_pick.f k t110 bt118.2 6).bind fun bt124 => (if 0 ≤ bt124.1 then (if bt124.1 < (y121.length : Int) then (if (rdOf ByteArray.empty y115 bt118.1).size + (rdOf ByteArray.empty y121 bt124.1).size ≤ 9223372036854775807 then (some ((rdOf ByteArray.empty y115 bt118.1) ++ (rdOf ByteArray.empty y121 bt124.1))) else (none)) else (none)) else (none)))) else (none)) else (none)))) else ((spec_l20Names.f).bind fun t127 => ((some (([(⟨#[]⟩ : ByteArray),(⟨#[97,108,108]⟩ : ByteArray),(⟨#[69,118,101,114,121]⟩ : ByteArray)] : List ByteArray) : List ByteArray)).bind fun y130 => (if t127.length + y130.length < 8796093022208 then ((some (t127 ++ y130 : List ByteArray)).bind fun y133 => ((spec_l20Rd_pick.f k t110 t114 13).bind fun bt136 => (if 0 ≤ bt136.1 then (if bt136.1 < (y133.length : Int) then (some (rdOf ByteArray.empty y133 bt136.1)) else (none)) else (none)))) else (none))))) = some r:=H
 have A3:=Aside0.mk A30;clear A30
 by_cases c4 : t113 = 0
 ·
  rw [if_pos c4] at H
  have c4b0 : (t113 == 0) = true:=beq_iff_eq.mpr c4
  have c4b1 : (t113 != 0) = false:=bne_eq_false_iff_eq.mpr c4;clear c4
  obtain ⟨y115,hy115⟩ : ∃ y_ : List ByteArray,y_ = (([(⟨#[97,116,108,101,97,115,116]⟩ : ByteArray),(⟨#[106,117,115,116]⟩ : ByteArray),(⟨#[97,108,108,98,117,116]⟩ : ByteArray)] : List ByteArray)):=⟨_,rfl⟩
  replace H : ((spec_l20Rd_pick.f k t110 t114 3).bind fun bt118 => (if 0 ≤ bt118.1 then (if bt118.1 < (y115.length : Int) then ((some (([(⟨#[48]⟩ : ByteArray),(⟨#[49]⟩ : ByteArray),(⟨#[52]⟩ : ByteArray),(⟨#[53]⟩ : ByteArray),(⟨#[54]⟩ : ByteArray),(⟨#[]⟩ : ByteArray)] : List ByteArray) : List ByteArray)).bind fun y121 => ((spec_l20Rd_pick.f k t110 bt118.2 6).bind fun bt124 => (if 0 ≤ bt124.1 then (if bt124.1 < (y121.length : Int) then (if (rdOf ByteArray.empty y115 bt118.1).size + (rdOf ByteArray.empty y121 bt124.1).size ≤ 9223372036854775807 then (some ((rdOf ByteArray.empty y115 bt118.1) ++ (rdOf ByteArray.empty y121 bt124.1))) else (none)) else (none)) else (none)))) else (none)) else (none))) = some r:=by first|(rw [hy115];with_reducible exact H)|(have H2_:=(Option.bind_some _ _).symm.trans H;rw [hy115];with_reducible exact H2_)|(have H2_:=(Option.bind_some _ _).symm.trans H;with_reducible exact H2_)|with_reducible exact H|(rw [hy115];exact H)|exact H
  have Ny115:=Aside0.mk hy115;clear hy115
  replace H:=Option.bind_eq_some_iff.mp H
  obtain ⟨⟨t118,t119⟩,A50,H⟩:=H
  replace H : (if 0 ≤ t118 then (if t118 < (y115.length : Int) then ((some (([(⟨#[48]⟩ : ByteArray),(⟨#[49]⟩ : ByteArray),(⟨#[52]⟩ : ByteArray),(⟨#[53]⟩ : ByteArray),(⟨#[54]⟩ : ByteArray),(⟨#[]⟩ : ByteArray)] : List ByteArray) : List ByteArray)).bind fun y121 => ((spec_l20Rd_pick.f k t110 t119 6).bind fun bt124 => (if 0 ≤ bt124.1 then (if bt124.1 < (y121.length : Int) then (if (rdOf ByteArray.empty y115 t118).size + (rdOf ByteArray.empty y121 bt124.1).size ≤ 9223372036854775807 then (some ((rdOf ByteArray.empty y115 t118) ++ (rdOf ByteArray.empty y121 bt124.1))) else (none)) else (none)) else (none)))) else (none)) else (none)) = some r:=H
  have A5:=Aside0.mk A50;clear A50
  by_cases c6 : 0 ≤ t118
  ·
   rw [if_pos c6] at H
   have c6b0 : decide (0 ≤ t118) = true:=decide_eq_true c6;clear c6
   by_cases c7 : t118 < (y115.length : Int)
   ·
    rw [if_pos c7] at H
    have c7b0 : decide (t118 < (y115.length : Int)) = true:=decide_eq_true c7;clear c7
    obtain ⟨y121,hy121⟩ : ∃ y_ : List ByteArray,y_ = (([(⟨#[48]⟩ : ByteArray),(⟨#[49]⟩ : ByteArray),(⟨#[52]⟩ : ByteArray),(⟨#[53]⟩ : ByteArray),(⟨#[54]⟩ : ByteArray),(⟨#[]⟩ : ByteArray)] : List ByteArray)):=⟨_,rfl⟩
    replace H : ((spec_l20Rd_pick.f k t110 t119 6).bind fun bt124 => (if 0 ≤ bt124.1 then (if bt124.1 < (y121.length : Int) then (if (rdOf ByteArray.empty y115 t118).size + (rdOf ByteArray.empty y121 bt124.1).size ≤ 9223372036854775807 then (some ((rdOf ByteArray.empty y115 t118) ++ (rdOf ByteArray.empty y121 bt124.1))) else (none)) else (none)) else (none))) = some r:=by first|(rw [hy121];with_reducible exact H)|(have H2_:=(Option.bind_some _ _).symm.trans H;rw [hy121];with_reducible exact H2_)|(have H2_:=(Option.bind_some _ _).symm.trans H;with_reducible exact H2_)|with_reducible exact H|(rw [hy121];exact H)|exact H
    have Ny121:=Aside0.mk hy121;clear hy121
    replace H:=Option.bind_eq_some_iff.mp H
    obtain ⟨⟨t124,t125⟩,A80,H⟩:=H
    replace H : (if 0 ≤ t124 then (if t124 < (y121.length : Int) then (if (rdOf ByteArray.empty y115 t118).size + (rdOf ByteArray.empty y121 t124).size ≤ 9223372036854775807 then (some ((rdOf ByteArray.empty y115 t118) ++ (rdOf ByteArray.empty y121 t124))) else (none)) else (none)) else (none)) = some r:=H
    have A8:=Aside0.mk A80;clear A80
    by_cases c9 : 0 ≤ t124
    ·
     rw [if_pos c9] at H
     have c9b0 : decide (0 ≤ t124) = true:=decide_eq_true c9;clear c9
     by_cases c10 : t124 < (y121.length : Int)
     ·
      rw [if_pos c10] at H
      have c10b0 : decide (t124 < (y121.length : Int)) = true:=decide_eq_true c10;clear c10
      by_cases c11 : (rdOf ByteArray.empty y115 t118).size + (rdOf ByteArray.empty y121 t124).size ≤ 9223372036854775807
      ·
       rw [if_pos c11] at H
       have c11b0:=eq_true c11
       have c11b1 : decide ((rdOf ByteArray.empty y115 t118).size + (rdOf ByteArray.empty y121 t124).size ≤ 9223372036854775807) = true:=decide_eq_true c11
       try have c11b2 : (9223372036854775807 < (rdOf ByteArray.empty y115 t118).size + (rdOf ByteArray.empty y121 t124).size) = False:=eq_false (Nat.not_lt.2 c11)
       have zl0 : (⟨#[106,117,115,116]⟩ : ByteArray).size = 4:=rfl
       have zl1 : (⟨#[48]⟩ : ByteArray).size = 1:=rfl
       have zl2 : (⟨#[49]⟩ : ByteArray).size = 1:=rfl
       have zl3 : (⟨#[52]⟩ : ByteArray).size = 1:=rfl
       have zl4 : (⟨#[53]⟩ : ByteArray).size = 1:=rfl
       have zl5 : (⟨#[54]⟩ : ByteArray).size = 1:=rfl
       have zl6 : (⟨#[69,118,101,114,121]⟩ : ByteArray).size = 5:=rfl
       have zl7 : (⟨#[97,108,108,98,117,116]⟩ : ByteArray).size = 6:=rfl
       have zl8 : (⟨#[97,108,108]⟩ : ByteArray).size = 3:=rfl
       have zl9 : (⟨#[97,116,108,101,97,115,116]⟩ : ByteArray).size = 7:=rfl
       have zl10 : (⟨#[]⟩ : ByteArray).size = 0:=rfl;have c11n:=c11
       (try simp only [ByteArray.size_append,zl0,zl1,zl2,zl3,zl4,zl5,zl6,zl7,zl8,zl9,zl10,Nat.reduceAdd] at c11n)
       (try have c11n0:=eq_true c11n)
       (try have c11n1:=decide_eq_true c11n)
       (try have c11n2:=eq_false (Nat.not_lt.2 c11n));clear zl0 zl1 zl2 zl3 zl4 zl5 zl6 zl7 zl8 zl9 zl10
       obtain rfl:=Option.some.inj H
       go_enter Try.func19,Try.ntmps19
       try go_wp2_with (first|((with_reducible refine gate_callee (f:=33) rfl ?_);refine goesL_ (some 5) rfl rfl Try.func33 (by kernel_rfl) rfl #[.slice A0 l0.length c0] rfl (by (try simp only [List.map_toArray,List.map_cons,List.map_nil]);first|done|rfl|(simp only [List.length_drop,List.length_take];rfl)) ?_;(with_reducible refine (spec_l20Open.calls _ _ l0 t110 t111 w _ ?side1 ?side2 ?side3 A2.out).mono ?_);(case side1 => repeat (first|(with_reducible first|exact HB.out|apply below_alloc|apply pw_below_drewN|apply below_drew1)|exact HB.out));(case side2 => exact HR0.out);(case side3 => exact HC0.out);rintro e w12 ⟨g112,rfl,hi,hb,hb2⟩;refine ⟨_,rfl,?_⟩;have n0_:=Aside0.mk (hb);have n1_:=Aside0.mk (hi);clear HB;have HB:=n0_;have HI112:=n1_;clear n0_ n1_;(try clear hb);(try clear hb2);(try clear hk);(try clear hi))|((with_reducible refine gate_callee (f:=38) rfl ?_);refine goesL_ (some 7) rfl rfl Try.func38 (by kernel_rfl) rfl #[.pointer (some ⟨g112,0,none⟩),.int .i64 3] rfl (by (try simp only [List.map_toArray,List.map_cons,List.map_nil]);first|done|rfl|(simp only [List.length_drop,List.length_take];rfl)) ?_;(with_reducible refine (spec_l20Rd_pick.calls k g112 t110 t111 3 t113 t114 w _ ?side1 ?side2 A3.out).mono ?_);(case side1 => repeat (first|(with_reducible first|exact HI112.out|apply IsS79.alloc|apply IsS79.drewN|apply IsS79.drew|apply IsS79.set_1)|exact HI112.out));(case side2 => repeat (first|(with_reducible first|exact HB.out|apply below_alloc|apply pw_below_drewN|apply below_drew1|refine below_set ?_ (IsS79.ge HI112.out))|exact HB.out));rintro e w13 ⟨rfl,hi,hb,hk⟩;refine ⟨_,rfl,?_⟩;have n0_:=Aside0.mk (hb);have n1_:=Aside0.mk (hi);clear HB HI112;have HB:=n0_;have HI112:=n1_;clear n0_ n1_;(try clear hb);(try clear hb2);(try clear hk);(try clear hi)))
       have pi120 : (0 ≤ (t118 : Int)) = True:=eq_true (of_decide_eq_true (by first|(with_reducible assumption)|assumption))
       have qi120 : (t118 < (y115.length : Int)) = True:=eq_true (of_decide_eq_true (by first|(with_reducible assumption)|assumption))
       have pi126 : (0 ≤ (t124 : Int)) = True:=eq_true (of_decide_eq_true (by first|(with_reducible assumption)|assumption))
       have qi126 : (t124 < (y121.length : Int)) = True:=eq_true (of_decide_eq_true (by first|(with_reducible assumption)|assumption));have n0_:=Aside0.mk (IsS79.drew HI112.out);have n1_:=Aside0.mk (below_drew1 HB.out);clear HI112 HB;have HI112:=n0_;have HB:=n1_;clear n0_ n1_
       refine start_ (n:=12) (S:=fun w' => True) (ds:=[]) #[false,false,false,false,false,false,false,false,false,false,false,false] (by kernel_rfl) rfl rfl trivial (fun hHeld => ?_);refine with_tabW spec_DrawNamedTriangle.tab3 spec_DrawNamedTriangle.bits3 (fun HT_ HW_ => ?_)
       generalize w13.drew = w14 at HI112 HB hHeld ⊢
       refine pure_ (i:=1) (N:=some 10) (v:=?_) (a':=?_) #[false,true,false,false,false,false,false,false,false,false,false,false] rfl rfl (any_of HT_.out (by kernel_rfl)) (fun _ _ _ h => h) (Or.inl ⟨by rfl,?_⟩) ?_ ?_;rotate_left
       ·
        intro w'
        go_simp
        with_reducible rfl
       rotate_left
       ·
        simp only [Act.put,List.setIfInBounds_toArray,List.set_cons_zero,List.set_cons_succ,i64_w,i32_w]
        rfl
       refine pure_ (i:=6) (N:=some 15) (v:=?_) (a':=?_) #[false,true,false,false,false,false,true,false,false,false,false,false] rfl rfl (any_of HT_.out (by kernel_rfl)) (fun _ _ _ h => h) (Or.inl ⟨by rfl,?_⟩) ?_ ?_;rotate_left
       ·
        intro w'
        go_simp
        with_reducible rfl
       rotate_left
       ·
        simp only [Act.put,List.setIfInBounds_toArray,List.set_cons_zero,List.set_cons_succ,i64_w,i32_w]
        rfl
       refine inv_at [0,2,3,4,5,7,8,9,10,11] (fun a0_ b a w' => ∃ (v116 : Value) (adz_v116 : Addr) (v122 : Value) (adz_v122 : Addr) (m3_ : Value) (m8_ : Value),a = putSel a0_ b [(0,9,v116),(2,11,.int .i64 t118),(3,12,m3_),(4,13,.string (rdOf ByteArray.empty y115 t118)),(5,14,v122),(7,16,.int .i64 t124),(8,17,m8_),(9,18,.string (rdOf ByteArray.empty y121 t124)),(10,19,.string ((rdOf ByteArray.empty y115 t118) ++ (rdOf ByteArray.empty y121 t124))),(11,2,.string ((rdOf ByteArray.empty y115 t118) ++ (rdOf ByteArray.empty y121 t124)))] ∧ (b 2 = false → IsS79 w w' g112 t110 t114) ∧ (Below w.heap.size w w') ∧ (b 0 = true → Kd.R Kd.string 9 w' w.heap.size (fun _ => True) v116 y115) ∧ (b 0 = true → ∃ c_,(v116 : Value) = .slice (some adz_v116) y115.length c_) ∧ (b 2 = true → b 7 = false → IsS79 w w' g112 t110 t119) ∧ (b 5 = true → Kd.R Kd.string 9 w' w.heap.size (fun _ => True) v122 y121) ∧ (b 5 = true → ∃ c_,(v122 : Value) = .slice (some adz_v122) y121.length c_) ∧ (b 7 = true → IsS79 w w' g112 t110 t125) ∧ (b 3 = true → (m3_ : Value) = .pointer (some (adz_v116.add (t118).toNat))) ∧ (b 8 = true → (m8_ : Value) = .pointer (some (adz_v122.add (t124).toNat)))) HT_.out HW_.out (by kernel_rfl) (by kernel_rfl) ?_ ?_ ?_
       ·
        exact ⟨.bool false,⟨0,0,none⟩,.bool false,⟨0,0,none⟩,.bool false,.bool false,by simp only [putSel,Bool.false_eq_true,if_false],fun _ => HI112.out,HB.out,fun h_ => absurd h_ (by decide),fun h_ => absurd h_ (by decide),fun h_ => absurd h_ (by decide),fun h_ => absurd h_ (by decide),fun h_ => absurd h_ (by decide),fun h_ => absurd h_ (by decide),fun h_ => absurd h_ (by decide),fun h_ => absurd h_ (by decide)⟩
       ·
        skip;clear HB HI112
        refine steps_cons ?_ ?_
        ·
         rintro b a w' ⟨v116,adz_v116,v122,adz_v122,m3_,m8_,ha,Q_HI112,Q_HB,Q_HO117,Q_HA_HO117,Q_HI112_e2,Q_HO123,Q_HA_HO123,Q_HI112_e7,Q_X3_,Q_X8_⟩ hb_ hon hoff
         refine ⟨_,rfl,fun K hK => ?_⟩
         replace ha:=Aside0.mk ha
         have HB:=Aside0.mk Q_HB
         refine Kd.R_lit_step Kd.string _ 9 ?hg (N:=9) ?hd (xs:=([(⟨#[97,116,108,101,97,115,116]⟩ : ByteArray),(⟨#[106,117,115,116]⟩ : ByteArray),(⟨#[97,108,108,98,117,116]⟩ : ByteArray)] : List ByteArray)) (inner:=[.string (⟨#[97,116,108,101,97,115,116]⟩ : ByteArray),.string (⟨#[106,117,115,116]⟩ : ByteArray),.string (⟨#[97,108,108,98,117,116]⟩ : ByteArray)]) (ok:=fun _ => True) (okp:=fun _ => True) ?hr ?hp (fun _ hk => hk) trivial (Below.refl _ _) (Nat.le_refl _) (by simp) ?_;(case hd => rfl);(case hg => rfl);(case hr => first|(go_simp;done)|(go_simp;rfl));(case hp => exact (Reps.one (show Kd.M Kd.string _ _ _ (⟨#[97,116,108,101,97,115,116]⟩ : ByteArray) [.string (⟨#[97,116,108,101,97,115,116]⟩ : ByteArray)] from rfl) (Reps.one (show Kd.M Kd.string _ _ _ (⟨#[106,117,115,116]⟩ : ByteArray) [.string (⟨#[106,117,115,116]⟩ : ByteArray)] from rfl) (Reps.one (show Kd.M Kd.string _ _ _ (⟨#[97,108,108,98,117,116]⟩ : ByteArray) [.string (⟨#[97,108,108,98,117,116]⟩ : ByteArray)] from rfl) (Reps.none _ _)))));intro v116 w15 ho16 hb hg_ hnew_;clear hg_ hnew_
         (first|rw [← Ny115.out] at ho16|(simp only [Int.reduceToNat] at ho16;rw [← Ny115.out] at ho16));have n0_:=Aside0.mk (Kd.R_lower ho16 (below_size (belU HB.out)));have n2_:=Aside0.mk (below_step (belU HB.out) hb)
         have z_HI112:=fun (h0_ : b 2 = false) => (show IsS79 w w15 g112 t110 t114 from by first|exact (IsS79.below (by repeat (first|(with_reducible first|exact (Q_HI112 h0_)|apply IsS79.alloc|apply IsS79.drewN|apply IsS79.drew|apply IsS79.set_1)|exact (Q_HI112 h0_))) hb))
         have z_HI112_e2:=fun (h0_ : b 2 = true) (h1_ : b 7 = false) => (show IsS79 w w15 g112 t110 t119 from by first|exact (IsS79.below (by repeat (first|(with_reducible first|exact (Q_HI112_e2 h0_ h1_)|apply IsS79.alloc|apply IsS79.drewN|apply IsS79.drew|apply IsS79.set_1)|exact (Q_HI112_e2 h0_ h1_))) hb))
         have z_HO123:=fun (h0_ : b 5 = true) => (show Kd.R Kd.string 9 w15 w.heap.size (fun _ => True) v122 y121 from by first|exact (Kd.R_elder' (by (with_reducible repeat (first|apply Kd.R_alloc|apply Kd.R_drewN|apply Kd.R_drew));exact (Q_HO123 h0_)) (Kd.R_base ho16) hb)|exact Kd.R_mono (Kd.R_elder' (by (with_reducible repeat (first|apply Kd.R_alloc|apply Kd.R_drewN|apply Kd.R_drew));exact (Q_HO123 h0_)) (Kd.R_base ho16) hb) (fun _ h_ => by first|trivial|exact h_|exact h_.1))
         have z_HI112_e7:=fun (h0_ : b 7 = true) => (show IsS79 w w15 g112 t110 t125 from by first|exact (IsS79.below (by repeat (first|(with_reducible first|exact (Q_HI112_e7 h0_)|apply IsS79.alloc|apply IsS79.drewN|apply IsS79.drew|apply IsS79.set_1)|exact (Q_HI112_e7 h0_))) hb))
         clear HB;have HO117:=n0_;have HB:=n2_;clear n0_ n2_ hb ho16
         obtain ⟨Ao17,co17,eo17⟩:=Kd.R_slice HO117.out;subst eo17
         obtain ⟨ado17,fo17,_⟩:=Kd.at_string (Kd.R_reads' HO117.out).2.2 0 (by decide) (by rw [Ny115.out];simp)
         cases fo17
         refine hK.out _ _ ⟨.slice (some ado17) y115.length co17,ado17,v122,adz_v122,m3_,m8_,(by rw [ha.out];exact putSel_upk 0 hb_ rfl rfl rfl),z_HI112,(belU HB.out),fun _ => (rU HO117.out),fun _ => ⟨_,rfl⟩,z_HI112_e2,z_HO123,Q_HA_HO123,z_HI112_e7,fun h0_ => absurd ((hoff 3 (by kernel_rfl)).symm.trans h0_) (by decide),Q_X8_⟩
        refine steps_cons ?_ ?_
        ·
         rintro b a w' ⟨v116,adz_v116,v122,adz_v122,m3_,m8_,ha,Q_HI112,Q_HB,Q_HO117,Q_HA_HO117,Q_HI112_e2,Q_HO123,Q_HA_HO123,Q_HI112_e7,Q_X3_,Q_X8_⟩ hb_ hon hoff
         refine ⟨_,rfl,fun K hK => ?_⟩
         have e10 : a.tmps[10]? = some (.pointer (some ⟨g112,0,none⟩)):=by rw [ha];exact (putSel_off rfl).trans rfl
         replace ha:=Aside0.mk ha;have HI112:=Aside0.mk (Q_HI112 hb_)
         have HB:=Aside0.mk Q_HB
         refine goes_ Try.func38 (by kernel_rfl) rfl #[.pointer (some ⟨g112,0,none⟩),.int .i64 3] (by rfl) rfl rfl (by first|(simp only [List.map_toArray,List.map_cons,List.map_nil,Act.eval,Array.getD_eq_getD_getElem?,Option.getD_some,e10];done)|(simp only [List.map_toArray,List.map_cons,List.map_nil,Act.eval,Array.getD_eq_getD_getElem?,Option.getD_some,e10];rfl)) ?_
         with_reducible refine (spec_l20Rd_pick.calls k g112 t110 t114 3 t118 t119 w _ ?side1 ?side2 A5.out).mono ?_
         (case side1 => repeat (first|(with_reducible first|exact HI112.out|apply IsS79.alloc|apply IsS79.drewN|apply IsS79.drew|apply IsS79.set_1)|exact HI112.out))
         (case side2 => repeat (first|(with_reducible first|exact HB.out|apply below_alloc|apply pw_below_drewN|apply below_drew1|refine below_set ?_ (IsS79.ge HI112.out))|exact HB.out))
         rintro e w15 ⟨rfl,hi,hb,hk⟩
         refine ⟨_,rfl,?_⟩;have n0_:=Aside0.mk (hb);have n1_:=Aside0.mk (hi)
         have z_HO117:=fun (h0_ : b 0 = true) => (show Kd.R Kd.string 9 w15 w.heap.size (fun _ => True) v116 y115 from by first|exact (Kd.R_mono (Kd.R_keep (IsS79.apart (show IsS79 w _ g112 t110 t114 from by repeat (first|(with_reducible first|exact HI112.out|apply IsS79.alloc|apply IsS79.drewN|apply IsS79.drew|apply IsS79.set_1)|exact HI112.out)) (by (with_reducible repeat (first|apply Kd.R_alloc|apply Kd.R_drewN|apply Kd.R_drew));exact (Q_HO117 h0_)) (by decide)) hk (fun _ h => h.2)) (fun _ h => h.1))|exact Kd.R_mono (Kd.R_mono (Kd.R_keep (IsS79.apart (show IsS79 w _ g112 t110 t114 from by repeat (first|(with_reducible first|exact HI112.out|apply IsS79.alloc|apply IsS79.drewN|apply IsS79.drew|apply IsS79.set_1)|exact HI112.out)) (by (with_reducible repeat (first|apply Kd.R_alloc|apply Kd.R_drewN|apply Kd.R_drew));exact (Q_HO117 h0_)) (by decide)) hk (fun _ h => h.2)) (fun _ h => h.1)) (fun _ h_ => by first|trivial|exact h_|exact h_.1))
         have z_HO123:=fun (h0_ : b 5 = true) => (show Kd.R Kd.string 9 w15 w.heap.size (fun _ => True) v122 y121 from by first|exact (Kd.R_mono (Kd.R_keep (IsS79.apart (show IsS79 w _ g112 t110 t114 from by repeat (first|(with_reducible first|exact HI112.out|apply IsS79.alloc|apply IsS79.drewN|apply IsS79.drew|apply IsS79.set_1)|exact HI112.out)) (by (with_reducible repeat (first|apply Kd.R_alloc|apply Kd.R_drewN|apply Kd.R_drew));exact (Q_HO123 h0_)) (by decide)) hk (fun _ h => h.2)) (fun _ h => h.1))|exact Kd.R_mono (Kd.R_mono (Kd.R_keep (IsS79.apart (show IsS79 w _ g112 t110 t114 from by repeat (first|(with_reducible first|exact HI112.out|apply IsS79.alloc|apply IsS79.drewN|apply IsS79.drew|apply IsS79.set_1)|exact HI112.out)) (by (with_reducible repeat (first|apply Kd.R_alloc|apply Kd.R_drewN|apply Kd.R_drew));exact (Q_HO123 h0_)) (by decide)) hk (fun _ h => h.2)) (fun _ h => h.1)) (fun _ h_ => by first|trivial|exact h_|exact h_.1))
         clear HB HI112;have HB:=n0_;have HI112:=n1_;clear n0_ n1_
         (try clear hb)
         (try clear hb2)
         (try clear hk)
         (try clear hi)
         refine hK.out _ _ ⟨v116,adz_v116,v122,adz_v122,m3_,m8_,(by rw [ha.out];exact putSel_upk 1 hb_ rfl rfl rfl),fun h0_ => absurd ((up_self b 2).symm.trans h0_) (by decide),(by repeat (first|(with_reducible first|exact HB.out|apply below_alloc|apply pw_below_drewN|apply below_drew1|refine below_set ?_ (IsS79.ge HI112.out))|exact HB.out)),z_HO117,Q_HA_HO117,fun _ _ => (by repeat (first|(with_reducible first|exact HI112.out|apply IsS79.alloc|apply IsS79.drewN|apply IsS79.drew|apply IsS79.set_1)|exact HI112.out)),z_HO123,Q_HA_HO123,fun h0_ => absurd ((hoff 7 (by kernel_rfl)).symm.trans h0_) (by decide),fun h0_ => absurd ((hoff 3 (by kernel_rfl)).symm.trans h0_) (by decide),fun h0_ => absurd ((hoff 8 (by kernel_rfl)).symm.trans h0_) (by decide)⟩
        refine steps_cons ?_ ?_
        ·
         rintro b a w' ⟨v116,adz_v116,v122,adz_v122,m3_,m8_,ha,Q_HI112,Q_HB,Q_HO117,Q_HA_HO117,Q_HI112_e2,Q_HO123,Q_HA_HO123,Q_HI112_e7,Q_X3_,Q_X8_⟩ hb_ hon hoff
         refine ⟨_,rfl,fun K hK => ?_⟩
         have e9 : a.tmps[9]? = some (v116):=by rw [ha];exact putSel_on (e:=(0,9,v116)) 0 rfl rfl (hon 0 (by kernel_rfl)) rfl
         have e11 : a.tmps[11]? = some (.int .i64 t118):=by rw [ha];exact putSel_on (e:=(2,11,.int .i64 t118)) 1 rfl rfl (hon 2 (by kernel_rfl)) rfl
         replace ha:=Aside0.mk ha
         have HB:=Aside0.mk Q_HB;have HO117:=Aside0.mk (Q_HO117 (hon 0 (by kernel_rfl)));have HA_HO117:=Aside0.mk (Q_HA_HO117 (hon 0 (by kernel_rfl)))
         obtain ⟨c_,hv_⟩:=HA_HO117.out
         rw [hv_] at e9
         refine value_ (w1:=w') (v:=.pointer (some (adz_v116.add (t118).toNat))) (by rfl) rfl ?_ ?_
         ·
          go_simp
          (try simp only [i64_w])
          try rfl
          all_goals (have zl0 : (⟨#[106,117,115,116]⟩ : ByteArray).size = 4:=rfl;have zl1 : (⟨#[48]⟩ : ByteArray).size = 1:=rfl;have zl2 : (⟨#[49]⟩ : ByteArray).size = 1:=rfl;have zl3 : (⟨#[52]⟩ : ByteArray).size = 1:=rfl;have zl4 : (⟨#[53]⟩ : ByteArray).size = 1:=rfl;have zl5 : (⟨#[54]⟩ : ByteArray).size = 1:=rfl;have zl6 : (⟨#[69,118,101,114,121]⟩ : ByteArray).size = 5:=rfl;have zl7 : (⟨#[97,108,108,98,117,116]⟩ : ByteArray).size = 6:=rfl;have zl8 : (⟨#[97,108,108]⟩ : ByteArray).size = 3:=rfl;have zl9 : (⟨#[97,116,108,101,97,115,116]⟩ : ByteArray).size = 7:=rfl;have zl10 : (⟨#[]⟩ : ByteArray).size = 0:=rfl;(try simp only [ByteArray.size_append,ByteArray.size_extract,zl0,zl1,zl2,zl3,zl4,zl5,zl6,zl7,zl8,zl9,zl10] at c11);(try simp only [ByteArray.size_append,ByteArray.size_extract,zl0,zl1,zl2,zl3,zl4,zl5,zl6,zl7,zl8,zl9,zl10]);omega)
         refine hK.out _ _ ⟨v116,adz_v116,v122,adz_v122,(.pointer (some (adz_v116.add (t118).toNat))),m8_,(by rw [ha.out];exact putSel_upk 2 hb_ rfl rfl rfl),fun h0_ => absurd ((hon 2 (by kernel_rfl)).symm.trans h0_) (by decide),Q_HB,Q_HO117,Q_HA_HO117,Q_HI112_e2,Q_HO123,Q_HA_HO123,Q_HI112_e7,fun _ => rfl,Q_X8_⟩
        refine steps_cons ?_ ?_
        ·
         rintro b a w' ⟨v116,adz_v116,v122,adz_v122,m3_,m8_,ha,Q_HI112,Q_HB,Q_HO117,Q_HA_HO117,Q_HI112_e2,Q_HO123,Q_HA_HO123,Q_HI112_e7,Q_X3_,Q_X8_⟩ hb_ hon hoff
         refine ⟨_,rfl,fun K hK => ?_⟩
         have e12 : a.tmps[12]? = some (m3_):=by rw [ha];exact putSel_on (e:=(3,12,m3_)) 2 rfl rfl (hon 3 (by kernel_rfl)) rfl
         rw [Q_X3_ (hon 3 (by kernel_rfl))] at e12
         replace ha:=Aside0.mk ha
         have HB:=Aside0.mk Q_HB;have HO117:=Aside0.mk (Q_HO117 (hon 0 (by kernel_rfl)));have HA_HO117:=Aside0.mk (Q_HA_HO117 (hon 0 (by kernel_rfl)))
         obtain ⟨c_,hv_⟩:=HA_HO117.out;have hF_:=HO117.out
         rw [hv_] at hF_
         obtain ⟨ad_,ea_,hx_⟩:=Kd.at_string (Kd.R_reads' hF_).2.2 t118 (of_eq_true pi120) (of_eq_true qi120)
         cases ea_
         refine value_ (w1:=w') (v:=.string (rdOf ByteArray.empty y115 t118)) (by rfl) rfl ?_ ?_
         ·
          go_simp
          (try simp only [i64_w])
          try rfl
          all_goals (have zl0 : (⟨#[106,117,115,116]⟩ : ByteArray).size = 4:=rfl;have zl1 : (⟨#[48]⟩ : ByteArray).size = 1:=rfl;have zl2 : (⟨#[49]⟩ : ByteArray).size = 1:=rfl;have zl3 : (⟨#[52]⟩ : ByteArray).size = 1:=rfl;have zl4 : (⟨#[53]⟩ : ByteArray).size = 1:=rfl;have zl5 : (⟨#[54]⟩ : ByteArray).size = 1:=rfl;have zl6 : (⟨#[69,118,101,114,121]⟩ : ByteArray).size = 5:=rfl;have zl7 : (⟨#[97,108,108,98,117,116]⟩ : ByteArray).size = 6:=rfl;have zl8 : (⟨#[97,108,108]⟩ : ByteArray).size = 3:=rfl;have zl9 : (⟨#[97,116,108,101,97,115,116]⟩ : ByteArray).size = 7:=rfl;have zl10 : (⟨#[]⟩ : ByteArray).size = 0:=rfl;(try simp only [ByteArray.size_append,ByteArray.size_extract,zl0,zl1,zl2,zl3,zl4,zl5,zl6,zl7,zl8,zl9,zl10] at c11);(try simp only [ByteArray.size_append,ByteArray.size_extract,zl0,zl1,zl2,zl3,zl4,zl5,zl6,zl7,zl8,zl9,zl10]);omega)
         refine hK.out _ _ ⟨v116,adz_v116,v122,adz_v122,m3_,m8_,(by rw [ha.out];exact putSel_upk 3 hb_ rfl rfl rfl),fun h0_ => absurd ((hon 2 (by kernel_rfl)).symm.trans h0_) (by decide),Q_HB,Q_HO117,Q_HA_HO117,Q_HI112_e2,Q_HO123,Q_HA_HO123,Q_HI112_e7,Q_X3_,Q_X8_⟩
        refine steps_cons ?_ ?_
        ·
         rintro b a w' ⟨v116,adz_v116,v122,adz_v122,m3_,m8_,ha,Q_HI112,Q_HB,Q_HO117,Q_HA_HO117,Q_HI112_e2,Q_HO123,Q_HA_HO123,Q_HI112_e7,Q_X3_,Q_X8_⟩ hb_ hon hoff
         refine ⟨_,rfl,fun K hK => ?_⟩
         replace ha:=Aside0.mk ha
         have HB:=Aside0.mk Q_HB
         refine Kd.R_lit_step Kd.string _ 9 ?hg (N:=14) ?hd (xs:=([(⟨#[48]⟩ : ByteArray),(⟨#[49]⟩ : ByteArray),(⟨#[52]⟩ : ByteArray),(⟨#[53]⟩ : ByteArray),(⟨#[54]⟩ : ByteArray),(⟨#[]⟩ : ByteArray)] : List ByteArray)) (inner:=[.string (⟨#[48]⟩ : ByteArray),.string (⟨#[49]⟩ : ByteArray),.string (⟨#[52]⟩ : ByteArray),.string (⟨#[53]⟩ : ByteArray),.string (⟨#[54]⟩ : ByteArray),.string (⟨#[]⟩ : ByteArray)]) (ok:=fun _ => True) (okp:=fun _ => True) ?hr ?hp (fun _ hk => hk) trivial (Below.refl _ _) (Nat.le_refl _) (by simp) ?_;(case hd => rfl);(case hg => rfl);(case hr => first|(go_simp;done)|(go_simp;rfl));(case hp => exact (Reps.one (show Kd.M Kd.string _ _ _ (⟨#[48]⟩ : ByteArray) [.string (⟨#[48]⟩ : ByteArray)] from rfl) (Reps.one (show Kd.M Kd.string _ _ _ (⟨#[49]⟩ : ByteArray) [.string (⟨#[49]⟩ : ByteArray)] from rfl) (Reps.one (show Kd.M Kd.string _ _ _ (⟨#[52]⟩ : ByteArray) [.string (⟨#[52]⟩ : ByteArray)] from rfl) (Reps.one (show Kd.M Kd.string _ _ _ (⟨#[53]⟩ : ByteArray) [.string (⟨#[53]⟩ : ByteArray)] from rfl) (Reps.one (show Kd.M Kd.string _ _ _ (⟨#[54]⟩ : ByteArray) [.string (⟨#[54]⟩ : ByteArray)] from rfl) (Reps.one (show Kd.M Kd.string _ _ _ (⟨#[]⟩ : ByteArray) [.string (⟨#[]⟩ : ByteArray)] from rfl) (Reps.none _ _))))))));intro v122 w15 ho16 hb hg_ hnew_;clear hg_ hnew_
         (first|rw [← Ny121.out] at ho16|(simp only [Int.reduceToNat] at ho16;rw [← Ny121.out] at ho16));have n0_:=Aside0.mk (Kd.R_lower ho16 (below_size (belU HB.out)));have n2_:=Aside0.mk (below_step (belU HB.out) hb)
         have z_HI112:=fun (h0_ : b 2 = false) => (show IsS79 w w15 g112 t110 t114 from by first|exact (IsS79.below (by repeat (first|(with_reducible first|exact (Q_HI112 h0_)|apply IsS79.alloc|apply IsS79.drewN|apply IsS79.drew|apply IsS79.set_1)|exact (Q_HI112 h0_))) hb))
         have z_HO117:=fun (h0_ : b 0 = true) => (show Kd.R Kd.string 9 w15 w.heap.size (fun _ => True) v116 y115 from by first|exact (Kd.R_elder' (by (with_reducible repeat (first|apply Kd.R_alloc|apply Kd.R_drewN|apply Kd.R_drew));exact (Q_HO117 h0_)) (Kd.R_base ho16) hb)|exact Kd.R_mono (Kd.R_elder' (by (with_reducible repeat (first|apply Kd.R_alloc|apply Kd.R_drewN|apply Kd.R_drew));exact (Q_HO117 h0_)) (Kd.R_base ho16) hb) (fun _ h_ => by first|trivial|exact h_|exact h_.1))
         have z_HI112_e2:=fun (h0_ : b 2 = true) (h1_ : b 7 = false) => (show IsS79 w w15 g112 t110 t119 from by first|exact (IsS79.below (by repeat (first|(with_reducible first|exact (Q_HI112_e2 h0_ h1_)|apply IsS79.alloc|apply IsS79.drewN|apply IsS79.drew|apply IsS79.set_1)|exact (Q_HI112_e2 h0_ h1_))) hb))
         have z_HI112_e7:=fun (h0_ : b 7 = true) => (show IsS79 w w15 g112 t110 t125 from by first|exact (IsS79.below (by repeat (first|(with_reducible first|exact (Q_HI112_e7 h0_)|apply IsS79.alloc|apply IsS79.drewN|apply IsS79.drew|apply IsS79.set_1)|exact (Q_HI112_e7 h0_))) hb))
         clear HB;have HO123:=n0_;have HB:=n2_;clear n0_ n2_ hb ho16
         obtain ⟨Ao17,co17,eo17⟩:=Kd.R_slice HO123.out;subst eo17
         obtain ⟨ado17,fo17,_⟩:=Kd.at_string (Kd.R_reads' HO123.out).2.2 0 (by decide) (by rw [Ny121.out];simp)
         cases fo17
         refine hK.out _ _ ⟨v116,adz_v116,.slice (some ado17) y121.length co17,ado17,m3_,m8_,(by rw [ha.out];exact putSel_upk 4 hb_ rfl rfl rfl),z_HI112,(belU HB.out),z_HO117,Q_HA_HO117,z_HI112_e2,fun _ => (rU HO123.out),fun _ => ⟨_,rfl⟩,z_HI112_e7,Q_X3_,fun h0_ => absurd ((hoff 8 (by kernel_rfl)).symm.trans h0_) (by decide)⟩
        refine steps_cons ?_ ?_
        ·
         rintro b a w' ⟨v116,adz_v116,v122,adz_v122,m3_,m8_,ha,Q_HI112,Q_HB,Q_HO117,Q_HA_HO117,Q_HI112_e2,Q_HO123,Q_HA_HO123,Q_HI112_e7,Q_X3_,Q_X8_⟩ hb_ hon hoff
         refine ⟨_,rfl,fun K hK => ?_⟩
         have e15 : a.tmps[15]? = some (.pointer (some ⟨g112,0,none⟩)):=by rw [ha];exact (putSel_off rfl).trans rfl
         replace ha:=Aside0.mk ha
         have HB:=Aside0.mk Q_HB;have HI112:=Aside0.mk (Q_HI112_e2 (hon 2 (by kernel_rfl)) hb_)
         refine goes_ Try.func38 (by kernel_rfl) rfl #[.pointer (some ⟨g112,0,none⟩),.int .i64 6] (by rfl) rfl rfl (by first|(simp only [List.map_toArray,List.map_cons,List.map_nil,Act.eval,Array.getD_eq_getD_getElem?,Option.getD_some,e15];done)|(simp only [List.map_toArray,List.map_cons,List.map_nil,Act.eval,Array.getD_eq_getD_getElem?,Option.getD_some,e15];rfl)) ?_
         with_reducible refine (spec_l20Rd_pick.calls k g112 t110 t119 6 t124 t125 w _ ?side1 ?side2 A8.out).mono ?_
         (case side1 => repeat (first|(with_reducible first|exact HI112.out|apply IsS79.alloc|apply IsS79.drewN|apply IsS79.drew|apply IsS79.set_1)|exact HI112.out))
         (case side2 => repeat (first|(with_reducible first|exact HB.out|apply below_alloc|apply pw_below_drewN|apply below_drew1|refine below_set ?_ (IsS79.ge HI112.out))|exact HB.out))
         rintro e w17 ⟨rfl,hi,hb,hk⟩
         refine ⟨_,rfl,?_⟩;have n0_:=Aside0.mk (hb);have n1_:=Aside0.mk (hi)
         have z_HO117:=fun (h0_ : b 0 = true) => (show Kd.R Kd.string 9 w17 w.heap.size (fun _ => True) v116 y115 from by first|exact (Kd.R_mono (Kd.R_keep (IsS79.apart (show IsS79 w _ g112 t110 t119 from by repeat (first|(with_reducible first|exact HI112.out|apply IsS79.alloc|apply IsS79.drewN|apply IsS79.drew|apply IsS79.set_1)|exact HI112.out)) (by (with_reducible repeat (first|apply Kd.R_alloc|apply Kd.R_drewN|apply Kd.R_drew));exact (Q_HO117 h0_)) (by decide)) hk (fun _ h => h.2)) (fun _ h => h.1))|exact Kd.R_mono (Kd.R_mono (Kd.R_keep (IsS79.apart (show IsS79 w _ g112 t110 t119 from by repeat (first|(with_reducible first|exact HI112.out|apply IsS79.alloc|apply IsS79.drewN|apply IsS79.drew|apply IsS79.set_1)|exact HI112.out)) (by (with_reducible repeat (first|apply Kd.R_alloc|apply Kd.R_drewN|apply Kd.R_drew));exact (Q_HO117 h0_)) (by decide)) hk (fun _ h => h.2)) (fun _ h => h.1)) (fun _ h_ => by first|trivial|exact h_|exact h_.1))
         have z_HO123:=fun (h0_ : b 5 = true) => (show Kd.R Kd.string 9 w17 w.heap.size (fun _ => True) v122 y121 from by first|exact (Kd.R_mono (Kd.R_keep (IsS79.apart (show IsS79 w _ g112 t110 t119 from by repeat (first|(with_reducible first|exact HI112.out|apply IsS79.alloc|apply IsS79.drewN|apply IsS79.drew|apply IsS79.set_1)|exact HI112.out)) (by (with_reducible repeat (first|apply Kd.R_alloc|apply Kd.R_drewN|apply Kd.R_drew));exact (Q_HO123 h0_)) (by decide)) hk (fun _ h => h.2)) (fun _ h => h.1))|exact Kd.R_mono (Kd.R_mono (Kd.R_keep (IsS79.apart (show IsS79 w _ g112 t110 t119 from by repeat (first|(with_reducible first|exact HI112.out|apply IsS79.alloc|apply IsS79.drewN|apply IsS79.drew|apply IsS79.set_1)|exact HI112.out)) (by (with_reducible repeat (first|apply Kd.R_alloc|apply Kd.R_drewN|apply Kd.R_drew));exact (Q_HO123 h0_)) (by decide)) hk (fun _ h => h.2)) (fun _ h => h.1)) (fun _ h_ => by first|trivial|exact h_|exact h_.1))
         clear HB HI112;have HB:=n0_;have HI112:=n1_;clear n0_ n1_
         (try clear hb)
         (try clear hb2)
         (try clear hk)
         (try clear hi)
         refine hK.out _ _ ⟨v116,adz_v116,v122,adz_v122,m3_,m8_,(by rw [ha.out];exact putSel_upk 5 hb_ rfl rfl rfl),fun h0_ => absurd ((hon 2 (by kernel_rfl)).symm.trans h0_) (by decide),(by repeat (first|(with_reducible first|exact HB.out|apply below_alloc|apply pw_below_drewN|apply below_drew1|refine below_set ?_ (IsS79.ge HI112.out))|exact HB.out)),z_HO117,Q_HA_HO117,fun _ h1_ => absurd ((up_self b 7).symm.trans h1_) (by decide),z_HO123,Q_HA_HO123,fun _ => (by repeat (first|(with_reducible first|exact HI112.out|apply IsS79.alloc|apply IsS79.drewN|apply IsS79.drew|apply IsS79.set_1)|exact HI112.out)),Q_X3_,fun h0_ => absurd ((hoff 8 (by kernel_rfl)).symm.trans h0_) (by decide)⟩
        refine steps_cons ?_ ?_
        ·
         rintro b a w' ⟨v116,adz_v116,v122,adz_v122,m3_,m8_,ha,Q_HI112,Q_HB,Q_HO117,Q_HA_HO117,Q_HI112_e2,Q_HO123,Q_HA_HO123,Q_HI112_e7,Q_X3_,Q_X8_⟩ hb_ hon hoff
         refine ⟨_,rfl,fun K hK => ?_⟩
         have e14 : a.tmps[14]? = some (v122):=by rw [ha];exact putSel_on (e:=(5,14,v122)) 4 rfl rfl (hon 5 (by kernel_rfl)) rfl
         have e16 : a.tmps[16]? = some (.int .i64 t124):=by rw [ha];exact putSel_on (e:=(7,16,.int .i64 t124)) 5 rfl rfl (hon 7 (by kernel_rfl)) rfl
         replace ha:=Aside0.mk ha
         have HB:=Aside0.mk Q_HB;have HO123:=Aside0.mk (Q_HO123 (hon 5 (by kernel_rfl)));have HA_HO123:=Aside0.mk (Q_HA_HO123 (hon 5 (by kernel_rfl)));have HI112:=Aside0.mk (Q_HI112_e7 (hon 7 (by kernel_rfl)))
         obtain ⟨c_,hv_⟩:=HA_HO123.out
         rw [hv_] at e14
         refine value_ (w1:=w') (v:=.pointer (some (adz_v122.add (t124).toNat))) (by rfl) rfl ?_ ?_
         ·
          go_simp
          (try simp only [i64_w])
          try rfl
          all_goals (have zl0 : (⟨#[106,117,115,116]⟩ : ByteArray).size = 4:=rfl;have zl1 : (⟨#[48]⟩ : ByteArray).size = 1:=rfl;have zl2 : (⟨#[49]⟩ : ByteArray).size = 1:=rfl;have zl3 : (⟨#[52]⟩ : ByteArray).size = 1:=rfl;have zl4 : (⟨#[53]⟩ : ByteArray).size = 1:=rfl;have zl5 : (⟨#[54]⟩ : ByteArray).size = 1:=rfl;have zl6 : (⟨#[69,118,101,114,121]⟩ : ByteArray).size = 5:=rfl;have zl7 : (⟨#[97,108,108,98,117,116]⟩ : ByteArray).size = 6:=rfl;have zl8 : (⟨#[97,108,108]⟩ : ByteArray).size = 3:=rfl;have zl9 : (⟨#[97,116,108,101,97,115,116]⟩ : ByteArray).size = 7:=rfl;have zl10 : (⟨#[]⟩ : ByteArray).size = 0:=rfl;(try simp only [ByteArray.size_append,ByteArray.size_extract,zl0,zl1,zl2,zl3,zl4,zl5,zl6,zl7,zl8,zl9,zl10] at c11);(try simp only [ByteArray.size_append,ByteArray.size_extract,zl0,zl1,zl2,zl3,zl4,zl5,zl6,zl7,zl8,zl9,zl10]);omega)
         refine hK.out _ _ ⟨v116,adz_v116,v122,adz_v122,m3_,(.pointer (some (adz_v122.add (t124).toNat))),(by rw [ha.out];exact putSel_upk 6 hb_ rfl rfl rfl),fun h0_ => absurd ((hon 2 (by kernel_rfl)).symm.trans h0_) (by decide),Q_HB,Q_HO117,Q_HA_HO117,fun _ h1_ => absurd ((hon 7 (by kernel_rfl)).symm.trans h1_) (by decide),Q_HO123,Q_HA_HO123,Q_HI112_e7,Q_X3_,fun _ => rfl⟩
        refine steps_cons ?_ ?_
        ·
         rintro b a w' ⟨v116,adz_v116,v122,adz_v122,m3_,m8_,ha,Q_HI112,Q_HB,Q_HO117,Q_HA_HO117,Q_HI112_e2,Q_HO123,Q_HA_HO123,Q_HI112_e7,Q_X3_,Q_X8_⟩ hb_ hon hoff
         refine ⟨_,rfl,fun K hK => ?_⟩
         have e17 : a.tmps[17]? = some (m8_):=by rw [ha];exact putSel_on (e:=(8,17,m8_)) 6 rfl rfl (hon 8 (by kernel_rfl)) rfl
         rw [Q_X8_ (hon 8 (by kernel_rfl))] at e17
         replace ha:=Aside0.mk ha
         have HB:=Aside0.mk Q_HB;have HO123:=Aside0.mk (Q_HO123 (hon 5 (by kernel_rfl)));have HA_HO123:=Aside0.mk (Q_HA_HO123 (hon 5 (by kernel_rfl)));have HI112:=Aside0.mk (Q_HI112_e7 (hon 7 (by kernel_rfl)))
         obtain ⟨c_,hv_⟩:=HA_HO123.out;have hF_:=HO123.out
         rw [hv_] at hF_
         obtain ⟨ad_,ea_,hx_⟩:=Kd.at_string (Kd.R_reads' hF_).2.2 t124 (of_eq_true pi126) (of_eq_true qi126)
         cases ea_
         refine value_ (w1:=w') (v:=.string (rdOf ByteArray.empty y121 t124)) (by rfl) rfl ?_ ?_
         ·
          go_simp
          (try simp only [i64_w])
          try rfl
          all_goals (have zl0 : (⟨#[106,117,115,116]⟩ : ByteArray).size = 4:=rfl;have zl1 : (⟨#[48]⟩ : ByteArray).size = 1:=rfl;have zl2 : (⟨#[49]⟩ : ByteArray).size = 1:=rfl;have zl3 : (⟨#[52]⟩ : ByteArray).size = 1:=rfl;have zl4 : (⟨#[53]⟩ : ByteArray).size = 1:=rfl;have zl5 : (⟨#[54]⟩ : ByteArray).size = 1:=rfl;have zl6 : (⟨#[69,118,101,114,121]⟩ : ByteArray).size = 5:=rfl;have zl7 : (⟨#[97,108,108,98,117,116]⟩ : ByteArray).size = 6:=rfl;have zl8 : (⟨#[97,108,108]⟩ : ByteArray).size = 3:=rfl;have zl9 : (⟨#[97,116,108,101,97,115,116]⟩ : ByteArray).size = 7:=rfl;have zl10 : (⟨#[]⟩ : ByteArray).size = 0:=rfl;(try simp only [ByteArray.size_append,ByteArray.size_extract,zl0,zl1,zl2,zl3,zl4,zl5,zl6,zl7,zl8,zl9,zl10] at c11);(try simp only [ByteArray.size_append,ByteArray.size_extract,zl0,zl1,zl2,zl3,zl4,zl5,zl6,zl7,zl8,zl9,zl10]);omega)
         refine hK.out _ _ ⟨v116,adz_v116,v122,adz_v122,m3_,m8_,(by rw [ha.out];exact putSel_upk 7 hb_ rfl rfl rfl),fun h0_ => absurd ((hon 2 (by kernel_rfl)).symm.trans h0_) (by decide),Q_HB,Q_HO117,Q_HA_HO117,fun _ h1_ => absurd ((hon 7 (by kernel_rfl)).symm.trans h1_) (by decide),Q_HO123,Q_HA_HO123,Q_HI112_e7,Q_X3_,Q_X8_⟩
        refine steps_cons ?_ ?_
        ·
         rintro b a w' ⟨v116,adz_v116,v122,adz_v122,m3_,m8_,ha,Q_HI112,Q_HB,Q_HO117,Q_HA_HO117,Q_HI112_e2,Q_HO123,Q_HA_HO123,Q_HI112_e7,Q_X3_,Q_X8_⟩ hb_ hon hoff
         refine ⟨_,rfl,fun K hK => ?_⟩
         have e13 : a.tmps[13]? = some (.string (rdOf ByteArray.empty y115 t118)):=by rw [ha];exact putSel_on (e:=(4,13,.string (rdOf ByteArray.empty y115 t118))) 3 rfl rfl (hon 4 (by kernel_rfl)) rfl
         have e18 : a.tmps[18]? = some (.string (rdOf ByteArray.empty y121 t124)):=by rw [ha];exact putSel_on (e:=(9,18,.string (rdOf ByteArray.empty y121 t124))) 7 rfl rfl (hon 9 (by kernel_rfl)) rfl
         replace ha:=Aside0.mk ha
         have HB:=Aside0.mk Q_HB;have HO117:=Aside0.mk (Q_HO117 (hon 0 (by kernel_rfl)));have HA_HO117:=Aside0.mk (Q_HA_HO117 (hon 0 (by kernel_rfl)));have HO123:=Aside0.mk (Q_HO123 (hon 5 (by kernel_rfl)));have HA_HO123:=Aside0.mk (Q_HA_HO123 (hon 5 (by kernel_rfl)));have HI112:=Aside0.mk (Q_HI112_e7 (hon 7 (by kernel_rfl)))
         refine value_ (w1:=w') (v:=.string ((rdOf ByteArray.empty y115 t118) ++ (rdOf ByteArray.empty y121 t124))) (by rfl) rfl ?_ ?_
         ·
          go_simp
          (try simp only [i64_w])
          try rfl
          all_goals (have zl0 : (⟨#[106,117,115,116]⟩ : ByteArray).size = 4:=rfl;have zl1 : (⟨#[48]⟩ : ByteArray).size = 1:=rfl;have zl2 : (⟨#[49]⟩ : ByteArray).size = 1:=rfl;have zl3 : (⟨#[52]⟩ : ByteArray).size = 1:=rfl;have zl4 : (⟨#[53]⟩ : ByteArray).size = 1:=rfl;have zl5 : (⟨#[54]⟩ : ByteArray).size = 1:=rfl;have zl6 : (⟨#[69,118,101,114,121]⟩ : ByteArray).size = 5:=rfl;have zl7 : (⟨#[97,108,108,98,117,116]⟩ : ByteArray).size = 6:=rfl;have zl8 : (⟨#[97,108,108]⟩ : ByteArray).size = 3:=rfl;have zl9 : (⟨#[97,116,108,101,97,115,116]⟩ : ByteArray).size = 7:=rfl;have zl10 : (⟨#[]⟩ : ByteArray).size = 0:=rfl;(try simp only [ByteArray.size_append,ByteArray.size_extract,zl0,zl1,zl2,zl3,zl4,zl5,zl6,zl7,zl8,zl9,zl10] at c11);(try simp only [ByteArray.size_append,ByteArray.size_extract,zl0,zl1,zl2,zl3,zl4,zl5,zl6,zl7,zl8,zl9,zl10]);omega)
         refine hK.out _ _ ⟨v116,adz_v116,v122,adz_v122,m3_,m8_,(by rw [ha.out];exact putSel_upk 8 hb_ rfl rfl rfl),fun h0_ => absurd ((hon 2 (by kernel_rfl)).symm.trans h0_) (by decide),Q_HB,Q_HO117,Q_HA_HO117,fun _ h1_ => absurd ((hon 7 (by kernel_rfl)).symm.trans h1_) (by decide),Q_HO123,Q_HA_HO123,Q_HI112_e7,Q_X3_,Q_X8_⟩
        refine steps_cons ?_ ?_
        ·
         rintro b a w' ⟨v116,adz_v116,v122,adz_v122,m3_,m8_,ha,Q_HI112,Q_HB,Q_HO117,Q_HA_HO117,Q_HI112_e2,Q_HO123,Q_HA_HO123,Q_HI112_e7,Q_X3_,Q_X8_⟩ hb_ hon hoff
         refine ⟨_,rfl,fun K hK => ?_⟩
         have e19 : a.tmps[19]? = some (.string ((rdOf ByteArray.empty y115 t118) ++ (rdOf ByteArray.empty y121 t124))):=by rw [ha];exact putSel_on (e:=(10,19,.string ((rdOf ByteArray.empty y115 t118) ++ (rdOf ByteArray.empty y121 t124)))) 8 rfl rfl (hon 10 (by kernel_rfl)) rfl
         replace ha:=Aside0.mk ha
         have HB:=Aside0.mk Q_HB;have HO117:=Aside0.mk (Q_HO117 (hon 0 (by kernel_rfl)));have HA_HO117:=Aside0.mk (Q_HA_HO117 (hon 0 (by kernel_rfl)));have HO123:=Aside0.mk (Q_HO123 (hon 5 (by kernel_rfl)));have HA_HO123:=Aside0.mk (Q_HA_HO123 (hon 5 (by kernel_rfl)));have HI112:=Aside0.mk (Q_HI112_e7 (hon 7 (by kernel_rfl)))
         refine value_ (w1:=w') (v:=.string ((rdOf ByteArray.empty y115 t118) ++ (rdOf ByteArray.empty y121 t124))) (by rfl) rfl ?_ ?_
         ·
          go_simp
          (try simp only [i64_w])
          try rfl
          all_goals (have zl0 : (⟨#[106,117,115,116]⟩ : ByteArray).size = 4:=rfl;have zl1 : (⟨#[48]⟩ : ByteArray).size = 1:=rfl;have zl2 : (⟨#[49]⟩ : ByteArray).size = 1:=rfl;have zl3 : (⟨#[52]⟩ : ByteArray).size = 1:=rfl;have zl4 : (⟨#[53]⟩ : ByteArray).size = 1:=rfl;have zl5 : (⟨#[54]⟩ : ByteArray).size = 1:=rfl;have zl6 : (⟨#[69,118,101,114,121]⟩ : ByteArray).size = 5:=rfl;have zl7 : (⟨#[97,108,108,98,117,116]⟩ : ByteArray).size = 6:=rfl;have zl8 : (⟨#[97,108,108]⟩ : ByteArray).size = 3:=rfl;have zl9 : (⟨#[97,116,108,101,97,115,116]⟩ : ByteArray).size = 7:=rfl;have zl10 : (⟨#[]⟩ : ByteArray).size = 0:=rfl;(try simp only [ByteArray.size_append,ByteArray.size_extract,zl0,zl1,zl2,zl3,zl4,zl5,zl6,zl7,zl8,zl9,zl10] at c11);(try simp only [ByteArray.size_append,ByteArray.size_extract,zl0,zl1,zl2,zl3,zl4,zl5,zl6,zl7,zl8,zl9,zl10]);omega)
         refine hK.out _ _ ⟨v116,adz_v116,v122,adz_v122,m3_,m8_,(by rw [ha.out];exact putSel_upk 9 hb_ rfl rfl rfl),fun h0_ => absurd ((hon 2 (by kernel_rfl)).symm.trans h0_) (by decide),Q_HB,Q_HO117,Q_HA_HO117,fun _ h1_ => absurd ((hon 7 (by kernel_rfl)).symm.trans h1_) (by decide),Q_HO123,Q_HA_HO123,Q_HI112_e7,Q_X3_,Q_X8_⟩
        exact steps_nil
       rintro b a w23 hall ⟨v116,adz_v116,v122,adz_v122,m3_,m8_,ha,Q_HI112,Q_HB,Q_HO117,Q_HA_HO117,Q_HI112_e2,Q_HO123,Q_HA_HO123,Q_HI112_e7,Q_X3_,Q_X8_⟩;clear HB HI112
       have hb0_:=hall 0 (by kernel_rfl)
       have hb2_:=hall 2 (by kernel_rfl)
       have hb3_:=hall 3 (by kernel_rfl)
       have hb4_:=hall 4 (by kernel_rfl)
       have hb5_:=hall 5 (by kernel_rfl)
       have hb7_:=hall 7 (by kernel_rfl)
       have hb8_:=hall 8 (by kernel_rfl)
       have hb9_:=hall 9 (by kernel_rfl)
       have hb10_:=hall 10 (by kernel_rfl)
       have hb11_:=hall 11 (by kernel_rfl);subst ha
       obtain rfl:=Q_X3_ hb3_
       obtain rfl:=Q_X8_ hb8_
       simp only [putSel,hb0_,hb2_,hb3_,hb4_,hb5_,hb7_,hb8_,hb9_,hb10_,hb11_,if_true,Act.put,List.setIfInBounds_toArray,List.set_cons_zero,List.set_cons_succ];clear Q_HI112
       have HB:=Aside0.mk Q_HB;clear Q_HB;have HO117:=Aside0.mk (Q_HO117 hb0_);clear Q_HO117;have HA_HO117:=Aside0.mk (Q_HA_HO117 hb0_);clear Q_HA_HO117 Q_HI112_e2;have HO123:=Aside0.mk (Q_HO123 hb5_);clear Q_HO123;have HA_HO123:=Aside0.mk (Q_HA_HO123 hb5_);clear Q_HA_HO123;have HI112:=Aside0.mk (Q_HI112_e7 hb7_);clear Q_HI112_e7 hall hb0_ hb2_ hb3_ hb4_ hb5_ hb7_ hb8_ hb9_ hb10_ hb11_
       obtain ⟨co24,eo24⟩:=HA_HO117.out;clear HA_HO117;subst eo24
       obtain ⟨co25,eo25⟩:=HA_HO123.out;clear HA_HO123;subst eo25
       try go_wp2
       go_ret
       exact ⟨by first|rfl|(simp [errW_none,errW_some] <;> rfl)|(simp [*,errW_none,errW_some] <;> rfl),by repeat (first|(with_reducible first|exact HB.out|apply below_alloc|apply pw_below_drewN|apply below_drew1|refine below_set ?_ (IsS79.ge HI112.out))|exact HB.out)⟩
      ·
       rw [if_neg c11] at H
       exact absurd H (by simp)
     ·
      rw [if_neg c10] at H
      exact absurd H (by simp)
    ·
     rw [if_neg c9] at H
     exact absurd H (by simp)
   ·
    rw [if_neg c7] at H
    exact absurd H (by simp)
  ·
   rw [if_neg c6] at H
   exact absurd H (by simp)
 ·
  rw [if_neg c4] at H
  have c4b0 : (t113 == 0) = false:=beq_eq_false_iff_ne.mpr c4
  have c4b1 : (t113 != 0) = true:=bne_iff_ne.mpr c4
  replace H:=Option.bind_eq_some_iff.mp H
  obtain ⟨t127,A260,H⟩:=H
  replace H : ((some (([(⟨#[]⟩ : ByteArray),(⟨#[97,108,108]⟩ : ByteArray),(⟨#[69,118,101,114,121]⟩ : ByteArray)] : List ByteArray) : List ByteArray)).bind fun y130 => (if t127.length + y130.length < 8796093022208 then ((some (t127 ++ y130 : List ByteArray)).bind fun y133 => ((spec_l20Rd_pick.f k t110 t114 13).bind fun bt136 => (if 0 ≤ bt136.1 then (if bt136.1 < (y133.length : Int) then (some (rdOf ByteArray.empty y133 bt136.1)) else (none)) else (none)))) else (none))) = some r:=H
  have A26:=Aside0.mk A260;clear A260
  obtain ⟨y130,hy130⟩ : ∃ y_ : List ByteArray,y_ = (([(⟨#[]⟩ : ByteArray),(⟨#[97,108,108]⟩ : ByteArray),(⟨#[69,118,101,114,121]⟩ : ByteArray)] : List ByteArray)):=⟨_,rfl⟩
  replace H : (if t127.length + y130.length < 8796093022208 then ((some (t127 ++ y130 : List ByteArray)).bind fun y133 => ((spec_l20Rd_pick.f k t110 t114 13).bind fun bt136 => (if 0 ≤ bt136.1 then (if bt136.1 < (y133.length : Int) then (some (rdOf ByteArray.empty y133 bt136.1)) else (none)) else (none)))) else (none)) = some r:=by first|(rw [hy130];with_reducible exact H)|(have H2_:=(Option.bind_some _ _).symm.trans H;rw [hy130];with_reducible exact H2_)|(have H2_:=(Option.bind_some _ _).symm.trans H;with_reducible exact H2_)|with_reducible exact H|(rw [hy130];exact H)|exact H
  have Ny130:=Aside0.mk hy130;clear hy130
  by_cases c27 : t127.length + y130.length < 8796093022208
  ·
   rw [if_pos c27] at H
   have LMc27:=Aside0.mk c27;clear c27
   obtain ⟨y133,hy133⟩ : ∃ y_ : List ByteArray,y_ = (t127 ++ y130):=⟨_,rfl⟩
   replace H : ((spec_l20Rd_pick.f k t110 t114 13).bind fun bt136 => (if 0 ≤ bt136.1 then (if bt136.1 < (y133.length : Int) then (some (rdOf ByteArray.empty y133 bt136.1)) else (none)) else (none))) = some r:=by first|(rw [hy133];with_reducible exact H)|(have H2_:=(Option.bind_some _ _).symm.trans H;rw [hy133];with_reducible exact H2_)|(have H2_:=(Option.bind_some _ _).symm.trans H;with_reducible exact H2_)|with_reducible exact H|(rw [hy133];exact H)|exact H
   have Ny133:=Aside0.mk hy133;clear hy133
   replace H:=Option.bind_eq_some_iff.mp H
   obtain ⟨⟨t136,t137⟩,A280,H⟩:=H
   replace H : (if 0 ≤ t136 then (if t136 < (y133.length : Int) then (some (rdOf ByteArray.empty y133 t136)) else (none)) else (none)) = some r:=H
   have A28:=Aside0.mk A280;clear A280
   by_cases c29 : 0 ≤ t136
   ·
    rw [if_pos c29] at H
    have c29b0 : decide (0 ≤ t136) = true:=decide_eq_true c29;clear c29
    by_cases c30 : t136 < (y133.length : Int)
    ·
     rw [if_pos c30] at H
     have c30b0 : decide (t136 < (y133.length : Int)) = true:=decide_eq_true c30;clear c30
     obtain rfl:=Option.some.inj H
     go_enter Try.func19,Try.ntmps19
     go_wp2_with (first|((with_reducible refine gate_callee (f:=33) rfl ?_);refine goesL_ (some 5) rfl rfl Try.func33 (by kernel_rfl) rfl #[.slice A0 l0.length c0] rfl (by (try simp only [List.map_toArray,List.map_cons,List.map_nil]);first|done|rfl|(simp only [List.length_drop,List.length_take];rfl)) ?_;(with_reducible refine (spec_l20Open.calls _ _ l0 t110 t111 w _ ?side1 ?side2 ?side3 A2.out).mono ?_);(case side1 => repeat (first|(with_reducible first|exact HB.out|apply below_alloc|apply pw_below_drewN|apply below_drew1)|exact HB.out));(case side2 => exact HR0.out);(case side3 => exact HC0.out);rintro e w31 ⟨g112,rfl,hi,hb,hb2⟩;refine ⟨_,rfl,?_⟩;have n0_:=Aside0.mk (hb);have n1_:=Aside0.mk (hi);clear HB;have HB:=n0_;have HI112:=n1_;clear n0_ n1_;(try clear hb);(try clear hb2);(try clear hk);(try clear hi))|((with_reducible refine gate_callee (f:=38) rfl ?_);refine goesL_ (some 7) rfl rfl Try.func38 (by kernel_rfl) rfl #[.pointer (some ⟨g112,0,none⟩),.int .i64 3] rfl (by (try simp only [List.map_toArray,List.map_cons,List.map_nil]);first|done|rfl|(simp only [List.length_drop,List.length_take];rfl)) ?_;(with_reducible refine (spec_l20Rd_pick.calls k g112 t110 t111 3 t113 t114 w _ ?side1 ?side2 A3.out).mono ?_);(case side1 => repeat (first|(with_reducible first|exact HI112.out|apply IsS79.alloc|apply IsS79.drewN|apply IsS79.drew|apply IsS79.set_1)|exact HI112.out));(case side2 => repeat (first|(with_reducible first|exact HB.out|apply below_alloc|apply pw_below_drewN|apply below_drew1|refine below_set ?_ (IsS79.ge HI112.out))|exact HB.out));rintro e w32 ⟨rfl,hi,hb,hk⟩;refine ⟨_,rfl,?_⟩;have n0_:=Aside0.mk (hb);have n1_:=Aside0.mk (hi);clear HB HI112;have HB:=n0_;have HI112:=n1_;clear n0_ n1_;(try clear hb);(try clear hb2);(try clear hk);(try clear hi))|((with_reducible refine gate_callee (f:=39) rfl ?_);refine goesL_ (some 20) rfl rfl Try.func39 (by kernel_rfl) rfl #[] rfl (by (try simp only [List.map_toArray,List.map_cons,List.map_nil]);first|done|rfl|(simp only [List.length_drop,List.length_take];rfl)) ?_;(with_reducible refine (spec_l20Names.calls  t127 _ A26.out).mono ?_);rintro e w33 ⟨v128,rfl,ho0,hb⟩;refine ⟨_,rfl,?_⟩;have n0_:=Aside0.mk (Kd.R_lower ho0 (below_size (by repeat (first|(with_reducible first|exact HB.out|apply below_alloc|apply pw_below_drewN|apply below_drew1|refine below_set ?_ (IsS79.ge HI112.out))|exact HB.out))));have n1_:=Aside0.mk (IsS79.below (by repeat (first|(with_reducible first|exact HI112.out|apply IsS79.alloc|apply IsS79.drewN|apply IsS79.drew|apply IsS79.set_1)|exact HI112.out)) hb);have n2_:=Aside0.mk (below_step (by repeat (first|(with_reducible first|exact HB.out|apply below_alloc|apply pw_below_drewN|apply below_drew1|refine below_set ?_ (IsS79.ge HI112.out))|exact HB.out)) hb);clear HI112 HB;have HO129:=n0_;have HI112:=n1_;have HB:=n2_;clear n0_ n1_ n2_;(try clear hb);(try clear hb2);(try clear hk);(try clear hi);(try clear ho0))|((with_reducible refine gate_dst (N:=21) rfl ?_);refine Kd.R_lit Kd.string _ 9 ?hg (N:=21) ?hd (xs:=([(⟨#[]⟩ : ByteArray),(⟨#[97,108,108]⟩ : ByteArray),(⟨#[69,118,101,114,121]⟩ : ByteArray)] : List ByteArray)) (inner:=[.string (⟨#[]⟩ : ByteArray),.string (⟨#[97,108,108]⟩ : ByteArray),.string (⟨#[69,118,101,114,121]⟩ : ByteArray)]) (ok:=fun _ => True) (okp:=fun _ => True) ?hr ?hp (fun _ hk => hk) trivial (Below.refl _ _) (Nat.le_refl _) (by simp) ?_;(case hd => rfl);(case hg => rfl);(case hr => first|(go_simp;done)|(go_simp;rfl));(case hp => exact (Reps.one (show Kd.M Kd.string _ _ _ (⟨#[]⟩ : ByteArray) [.string (⟨#[]⟩ : ByteArray)] from rfl) (Reps.one (show Kd.M Kd.string _ _ _ (⟨#[97,108,108]⟩ : ByteArray) [.string (⟨#[97,108,108]⟩ : ByteArray)] from rfl) (Reps.one (show Kd.M Kd.string _ _ _ (⟨#[69,118,101,114,121]⟩ : ByteArray) [.string (⟨#[69,118,101,114,121]⟩ : ByteArray)] from rfl) (Reps.none _ _)))));intro v131 w34 ho35 hb hg_ hnew_;clear hg_ hnew_;(first|rw [← Ny130.out] at ho35|(simp only [Int.reduceToNat] at ho35;rw [← Ny130.out] at ho35));have n0_:=Aside0.mk (Kd.R_elder' (rU HO129.out) (Kd.R_base ho35) hb);have n1_:=Aside0.mk (Kd.R_lower (Kd.R_new' ho35 (Kd.R_lt (rU HO129.out))) (below_size (by repeat (first|(with_reducible first|exact HB.out|apply below_alloc|apply pw_below_drewN|apply below_drew1|refine below_set ?_ (IsS79.ge HI112.out))|exact HB.out))));have n2_:=Aside0.mk (IsS79.below (by repeat (first|(with_reducible first|exact HI112.out|apply IsS79.alloc|apply IsS79.drewN|apply IsS79.drew|apply IsS79.set_1)|exact HI112.out)) hb);have n3_:=Aside0.mk (below_step (by repeat (first|(with_reducible first|exact HB.out|apply below_alloc|apply pw_below_drewN|apply below_drew1|refine below_set ?_ (IsS79.ge HI112.out))|exact HB.out)) hb);clear HO129 HI112 HB;have HO129:=n0_;have HO132:=n1_;have HI112:=n2_;have HB:=n3_;clear n0_ n1_ n2_ n3_ hb ho35;obtain ⟨Ao37,co37,eo37⟩:=Kd.R_slice HO132.out;subst eo37)|((with_reducible refine gate_builtin (b:=.append) (xs:=#[.tmp 20,.tmp 21]) rfl ?_);at_builtin;refine Kd.R_append_rows Kd.string (w0:=w) w.heap.size rfl (.tmp 20) (.tmp 21) 56 9 (.string ⟨#[]⟩) 16 rfl Try.underlying56 info9 rfl (by decide) (by omega) v128 t127 y130 _ _ _ (fun k_ => some k_ ≠ (.slice Ao37 y130.length co37 : Value).ownBlock) (fun _ => False) rfl rfl ?aO ?aR (fun _ _ h => h) (fun _ h => h.elim) ?aF ?aB ?aS ?aL ?_;(case aR => exact cU (Kd.R_reads' HO132.out).2.2);(case aB => exact (by repeat (first|(with_reducible first|exact HB.out|apply below_alloc|apply pw_below_drewN|apply below_drew1|refine below_set ?_ (IsS79.ge HI112.out))|exact HB.out)));(case aF => exact (fun k_ hk => Kd.fresh' (Kd.R_lt (rU HO132.out)) k_ hk));(case aO => exact (by (with_reducible repeat (first|apply Kd.R_alloc|apply Kd.R_drewN|apply Kd.R_drew));exact Kd.R_mono HO129.out (fun _ hk => hk.2)));(case aS => exact (below_size (by repeat (first|(with_reducible first|exact HB.out|apply below_alloc|apply pw_below_drewN|apply below_drew1|refine below_set ?_ (IsS79.ge HI112.out))|exact HB.out))));(case aL => have:=LMc27.out;omega);intro v134 w36 ho hb hg hat;rw [← Ny133.out] at ho;have n0_:=Aside0.mk (IsS79.grown (by repeat (first|(with_reducible first|exact HI112.out|apply IsS79.alloc|apply IsS79.drewN|apply IsS79.drew|apply IsS79.set_1)|exact HI112.out)) hg (IsS79.own_ne HI112.out HO129.out (by decide)));have n1_:=Aside0.mk (Kd.R_after (ok:=(fun _ => True)) (rU HO132.out) hg hat);have n2_:=Aside0.mk (hb);have n3_:=Aside0.mk (ho);clear HI112 HO132 HB HO129;have HI112:=n0_;have HO132:=n1_;have HB:=n2_;have HO135:=n3_;clear n0_ n1_ n2_ n3_ ho hb hg hat)|((with_reducible refine gate_callee (f:=38) rfl ?_);refine goesL_ (some 24) rfl rfl Try.func38 (by kernel_rfl) rfl #[.pointer (some ⟨g112,0,none⟩),.int .i64 13] rfl (by (try simp only [List.map_toArray,List.map_cons,List.map_nil]);first|done|rfl|(simp only [List.length_drop,List.length_take];rfl)) ?_;(with_reducible refine (spec_l20Rd_pick.calls k g112 t110 t114 13 t136 t137 w _ ?side1 ?side2 A28.out).mono ?_);(case side1 => repeat (first|(with_reducible first|exact HI112.out|apply IsS79.alloc|apply IsS79.drewN|apply IsS79.drew|apply IsS79.set_1)|exact HI112.out));(case side2 => repeat (first|(with_reducible first|exact HB.out|apply below_alloc|apply pw_below_drewN|apply below_drew1|refine below_set ?_ (IsS79.ge HI112.out))|exact HB.out));rintro e w38 ⟨rfl,hi,hb,hk⟩;refine ⟨_,rfl,?_⟩;have n0_:=Aside0.mk (Kd.R_mono (Kd.R_keep (IsS79.apart (show IsS79 w _ g112 t110 t114 from by repeat (first|(with_reducible first|exact HI112.out|apply IsS79.alloc|apply IsS79.drewN|apply IsS79.drew|apply IsS79.set_1)|exact HI112.out)) (rU HO132.out) (by decide)) hk (fun _ h => h.2)) (fun _ h => h.1));have n1_:=Aside0.mk (Kd.R_mono (Kd.R_keep (IsS79.apart (show IsS79 w _ g112 t110 t114 from by repeat (first|(with_reducible first|exact HI112.out|apply IsS79.alloc|apply IsS79.drewN|apply IsS79.drew|apply IsS79.set_1)|exact HI112.out)) (rU HO135.out) (by decide)) hk (fun _ h => h.2)) (fun _ h => h.1));have n2_:=Aside0.mk (hb);have n3_:=Aside0.mk (hi);clear HO132 HO135 HB HI112;have HO132:=n0_;have HO135:=n1_;have HB:=n2_;have HI112:=n3_;clear n0_ n1_ n2_ n3_;(try clear hb);(try clear hb2);(try clear hk);(try clear hi);obtain ⟨Ao39,co39,eo39⟩:=Kd.R_slice HO135.out;subst eo39;have p138 : 0 ≤ (t136 : Int):=of_decide_eq_true (by first|(with_reducible assumption)|assumption);have q138 : t136 < (y133.length : Int):=of_decide_eq_true (by first|(with_reducible assumption)|assumption);obtain ⟨ad138,e138,hx138_0⟩:=Kd.at_string (Kd.R_reads' HO135.out).2.2 t136 p138 q138;cases e138;replace p138:=eq_true p138;replace q138:=eq_true q138))
     go_ret
     exact ⟨by first|rfl|(simp [errW_none,errW_some] <;> rfl)|(simp [*,errW_none,errW_some] <;> rfl),by repeat (first|(with_reducible first|exact HB.out|apply below_alloc|apply pw_below_drewN|apply below_drew1|refine below_set ?_ (IsS79.ge HI112.out))|exact HB.out)⟩
    ·
     rw [if_neg c30] at H
     exact absurd H (by simp)
   ·
    rw [if_neg c29] at H
    exact absurd H (by simp)
  ·
   rw [if_neg c27] at H
   exact absurd H (by simp)

end Go.Proofs.Ytiplbleghaoehaa.PA
