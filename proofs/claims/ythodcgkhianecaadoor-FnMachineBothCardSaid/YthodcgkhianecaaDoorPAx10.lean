/- The machine side of functions of this seat, written by the session's program myprint.py: for each Go function a Lean function and the proof that the call answers just it. -/
import Derived.Test.YthodcgkhianecaaDoorPAx0
import Derived.Test.YthodcgkhianecaaDoorUp
import Derived.Test.YthodcgkhianecaaDoorPAx1
import Derived.Test.YthodcgkhianecaaDoorPAx4
import Derived.Test.YthodcgkhianecaaDoorPAx8
namespace Go.Proofs.YthodcgkhianecaaDoor.PA
open Go.RowKit Go.Proofs.YthodcgkhianecaaDoorW.PrintWords Go.Proofs.YthodcgkhianecaaDoorW.PrintLast Go.Proofs.YthodcgkhianecaaDoorW.PrintMore
attribute [local go_sem] max2_int min2_int max_two min_two max_three min_three max_four min_four   -- for this text's walks alone
set_option linter.unusedVariables false
set_option linter.unusedSimpArgs false

/-! ### spec_l20Letters: function 21 -/
def spec_l20Letters.l0 : Nat → Int → ByteArray → Int → List Int → Int → Option (ByteArray × Int)
 | 0,_,_,_,_,_ => none
 | k + 1,x2,x7,x8,x1000,x1001 => if x8 > 0 then ((some (([(⟨#[48]⟩ : ByteArray),(⟨#[49]⟩ : ByteArray)] : List ByteArray) : List ByteArray)).bind fun y333 => ((spec_l20Rd_pick.f k x1000 x1001 2).bind fun bt336 => (if 0 ≤ bt336.1 then (if bt336.1 < (y333.length : Int) then (if x7.size + (rdOf ByteArray.empty y333 bt336.1).size ≤ 9223372036854775807 then (spec_l20Letters.l0 k x2 (x7 ++ (rdOf ByteArray.empty y333 bt336.1)) (wrap64 (x8 - 1)) x1000 bt336.2) else (none)) else (none)) else (none)))) else ((spec_l20Rd_odd.f k x1000 x1001 x2).bind fun bt339 => (if bt339.1 = true then (if x7.size + 1 ≤ 9223372036854775807 then (some (x7 ++ (⟨#[120]⟩ : ByteArray),bt339.2)) else (none)) else (some (x7,bt339.2))))
def spec_l20Letters.f (k : Nat) (s0_0 : List Int) (s0_1 : Int) (a1 : Int) (a2 : Int) : Option (ByteArray × Int):=(spec_l20Rd_pick.f k s0_0 s0_1 (wrap64 (a1 + 1))).bind fun bt331 => (spec_l20Letters.l0 k a2 (⟨#[]⟩ : ByteArray) bt331.1 s0_0 bt331.2)
theorem spec_l20Letters.mono_l : ∀ k,(∀ y0 y1 y2 y3 y4,LeO (spec_l20Letters.l0 k y0 y1 y2 y3 y4) (spec_l20Letters.l0 (k + 1) y0 y1 y2 y3 y4))
 | 0 => fun _ _ _ _ _ r h => by simp [spec_l20Letters.l0] at h
 | k + 1 => by
  have ih0:=spec_l20Letters.mono_l k
  ·
   intro y0 y1 y2 y3 y4
   unfold spec_l20Letters.l0
   repeat' first
   | (with_reducible exact ih0 _ _ _ _ _)
   | (with_reducible exact spec_l20Rd_odd.mono _ _ _ _)
   | (with_reducible exact spec_l20Rd_pick.mono _ _ _ _)
   | (with_reducible exact LeO.refl _)
   | (with_reducible exact LeO.none _)
   | (with_reducible refine LeO.ite ?_ ?_)
   | (with_reducible refine LeO.bind ?_ (fun _ => ?_))
   | exact ih0 _ _ _ _ _
   | exact spec_l20Rd_odd.mono _ _ _ _
   | exact spec_l20Rd_pick.mono _ _ _ _
   | exact LeO.none _
   | refine LeO.ite ?_ ?_
   | refine LeO.bind ?_ (fun _ => ?_)
theorem spec_l20Letters.mono : ∀ a0 a1 a2 a3 k,LeO (spec_l20Letters.f k a0 a1 a2 a3) (spec_l20Letters.f (k + 1) a0 a1 a2 a3):=by
 intro a0 a1 a2 a3 k
 have ih0:=spec_l20Letters.mono_l k
 unfold spec_l20Letters.f
 repeat' first
   | (with_reducible exact ih0 _ _ _ _ _)
   | (with_reducible exact spec_l20Rd_odd.mono _ _ _ _)
   | (with_reducible exact spec_l20Rd_pick.mono _ _ _ _)
   | (with_reducible exact LeO.refl _)
   | (with_reducible exact LeO.none _)
   | (with_reducible refine LeO.ite ?_ ?_)
   | (with_reducible refine LeO.bind ?_ (fun _ => ?_))
   | exact ih0 _ _ _ _ _
   | exact spec_l20Rd_odd.mono _ _ _ _
   | exact spec_l20Rd_pick.mono _ _ _ _
   | exact LeO.none _
   | refine LeO.ite ?_ ?_
   | refine LeO.bind ?_ (fun _ => ?_)
set_option maxHeartbeats 8000000 in
set_option maxRecDepth 100000 in
theorem spec_l20Letters.calls (k : Nat) (g : Nat) (s0_0 : List Int) (s0_1 : Int) (a1 : Int) (a2 : Int) (r1 : ByteArray) (r2 : Int) (w0 w : World) (hI : IsS56 w0 w g s0_0 s0_1) (hB : Below w0.heap.size w0 w) (h : spec_l20Letters.f k s0_0 s0_1 a1 a2 = some (r1,r2)) :
  Calls Tryd.prog 21 #[.pointer (some ⟨g,0,none⟩),.int .i64 a1,.int .i64 a2] w fun e w' => e = .returned (.string r1) ∧ IsS56 w0 w' g s0_0 r2 ∧ Below w0.heap.size w0 w' ∧ KeepBut w w' g none:=by
 have HI0:=Aside0.mk hI;have HK:=Aside0.mk (KeepBut.refl w g none)
 have HL:=Aside0.mk hB.size;clear hI
 have HW0:=Aside0.mk hB.size
 have HB:=Aside0.mk hB;clear hB
 have H : ((spec_l20Rd_pick.f k s0_0 s0_1 (wrap64 (a1 + 1))).bind fun bt331 => (spec_l20Letters.l0 k a2 (⟨#[]⟩ : ByteArray) bt331.1 s0_0 bt331.2)) = some (r1,r2):=h;clear h
 replace H:=Option.bind_eq_some_iff.mp H
 obtain ⟨⟨t331,t332⟩,A40,H⟩:=H
 replace H : (spec_l20Letters.l0 k a2 (⟨#[]⟩ : ByteArray) t331 s0_0 t332) = some (r1,r2):=H
 have A4:=Aside0.mk A40;clear A40
 have H':=Aside0.mk H;clear H
 go_enter Tryd.func21,Tryd.ntmps21
 go_wp2_with (first|((with_reducible refine gate_callee (f:=36) rfl ?_);refine goesL_ (some 12) rfl rfl Tryd.func36 (by kernel_rfl) rfl #[.pointer (some ⟨g,0,none⟩),.int .i64 (wrap64 (a1 + 1))] rfl (by (try simp only [List.map_toArray,List.map_cons,List.map_nil]);first|done|rfl|(simp only [List.length_drop,List.length_take];rfl)) ?_;(with_reducible refine (spec_l20Rd_pick.calls k g s0_0 s0_1 (wrap64 (a1 + 1)) t331 t332 w0 _ ?side1 ?side2 A4.out).mono ?_);(case side1 => repeat (first|(with_reducible first|exact HI0.out|apply IsS56.alloc|apply IsS56.drewN|apply IsS56.drew|apply IsS56.set_1)|exact HI0.out));(case side2 => repeat (first|(with_reducible first|exact HB.out|apply below_alloc|apply pw_below_drewN|apply below_drew1|refine below_set ?_ (IsS56.ge HI0.out))|exact HB.out));rintro e w5 ⟨rfl,hi,hb,hk⟩;refine ⟨_,rfl,?_⟩;have n0_:=Aside0.mk (KeepBut.trans (by repeat (first|(with_reducible first|exact HK.out|apply KeepBut.set_|apply keep_drewN|apply keep_drew|apply keep_alloc)|exact HK.out)) hk (.inl rfl));have n1_:=Aside0.mk (hb);have n2_:=Aside0.mk (hi);clear HK HB HI0;have HK:=n0_;have HB:=n1_;have HI0:=n2_;clear n0_ n1_ n2_;(try clear hb);(try clear hb2);(try clear hk);(try clear hi)))
 go_loopg [7,8] k (fun kq v7 v8 w' => ∃ (x7_1 : ByteArray) (x8_1 : Int) (x1001_1 : Int),v7 = .string x7_1 ∧ v8 = .int .i64 x8_1 ∧ Aside0 (spec_l20Letters.l0 kq a2 x7_1 x8_1 s0_0 x1001_1 = some (r1,r2)) ∧ Aside0 (kq ≤ k) ∧ Aside0 (IsS56 w0 w' g s0_0 x1001_1) ∧ Aside0 (KeepBut w w' g none) ∧ Aside0 (Below w0.heap.size w0 w'))
 case atStart => exact ⟨((⟨#[]⟩ : ByteArray)),(t331),(t332),(by first|rfl|(simp;done)|(simp [*];done)),(by first|rfl|(simp;done)|(simp [*];done)),H',⟨Nat.le_refl _⟩,⟨by repeat (first|(with_reducible first|exact HI0.out|apply IsS56.alloc|apply IsS56.drewN|apply IsS56.drew|apply IsS56.set_1)|exact HI0.out)⟩,⟨by repeat (first|(with_reducible first|exact HK.out|apply KeepBut.set_|apply keep_drewN|apply keep_drew|apply keep_alloc)|exact HK.out)⟩,⟨by repeat (first|(with_reducible first|exact HB.out|apply below_alloc|apply pw_below_drewN|apply below_drew1|refine below_set ?_ (IsS56.ge HI0.out))|exact HB.out)⟩⟩
 case round =>
  clear H'
  try clear c2
  try clear p2
  try clear c3
  obtain ⟨x7_1,x8_1,x1001_1,rfl,rfl,HA,HK1,HI0,HK,HB⟩:=hrel
  cases gk with
  | zero => exact absurd HA.out (by simp [spec_l20Letters.l0])
  | succ k1 =>
   have H:=HA.out;clear HA
   simp only [spec_l20Letters.l0] at H
   by_cases c6 : x8_1 > 0
   ·
    rw [if_pos c6] at H
    have c6b0 : decide (0 < x8_1) = true:=decide_eq_true c6;clear c6
    obtain ⟨y333,hy333⟩ : ∃ y_ : List ByteArray,y_ = (([(⟨#[48]⟩ : ByteArray),(⟨#[49]⟩ : ByteArray)] : List ByteArray)):=⟨_,rfl⟩
    replace H : ((spec_l20Rd_pick.f k1 s0_0 x1001_1 2).bind fun bt336 => (if 0 ≤ bt336.1 then (if bt336.1 < (y333.length : Int) then (if x7_1.size + (rdOf ByteArray.empty y333 bt336.1).size ≤ 9223372036854775807 then (spec_l20Letters.l0 k1 a2 (x7_1 ++ (rdOf ByteArray.empty y333 bt336.1)) (wrap64 (x8_1 - 1)) s0_0 bt336.2) else (none)) else (none)) else (none))) = some (r1,r2):=by first|(rw [hy333];with_reducible exact H)|(have H2_:=(Option.bind_some _ _).symm.trans H;rw [hy333];with_reducible exact H2_)|(have H2_:=(Option.bind_some _ _).symm.trans H;with_reducible exact H2_)|with_reducible exact H|(rw [hy333];exact H)|exact H
    have Ny333:=Aside0.mk hy333;clear hy333
    replace H:=Option.bind_eq_some_iff.mp H
    obtain ⟨⟨t336,t337⟩,A70,H⟩:=H
    replace H : (if 0 ≤ t336 then (if t336 < (y333.length : Int) then (if x7_1.size + (rdOf ByteArray.empty y333 t336).size ≤ 9223372036854775807 then (spec_l20Letters.l0 k1 a2 (x7_1 ++ (rdOf ByteArray.empty y333 t336)) (wrap64 (x8_1 - 1)) s0_0 t337) else (none)) else (none)) else (none)) = some (r1,r2):=H
    have A7:=Aside0.mk A70;clear A70
    by_cases c8 : 0 ≤ t336
    ·
     rw [if_pos c8] at H
     have c8b0 : decide (0 ≤ t336) = true:=decide_eq_true c8;clear c8
     by_cases c9 : t336 < (y333.length : Int)
     ·
      rw [if_pos c9] at H
      have c9b0 : decide (t336 < (y333.length : Int)) = true:=decide_eq_true c9;clear c9
      by_cases c10 : x7_1.size + (rdOf ByteArray.empty y333 t336).size ≤ 9223372036854775807
      ·
       rw [if_pos c10] at H
       have c10b0:=eq_true c10
       have c10b1 : decide (x7_1.size + (rdOf ByteArray.empty y333 t336).size ≤ 9223372036854775807) = true:=decide_eq_true c10
       try have c10b2 : (9223372036854775807 < x7_1.size + (rdOf ByteArray.empty y333 t336).size) = False:=eq_false (Nat.not_lt.2 c10)
       have zl0 : (⟨#[120]⟩ : ByteArray).size = 1:=rfl
       have zl1 : (⟨#[48]⟩ : ByteArray).size = 1:=rfl
       have zl2 : (⟨#[49]⟩ : ByteArray).size = 1:=rfl
       have zl3 : (⟨#[]⟩ : ByteArray).size = 0:=rfl;have c10n:=c10
       (try simp only [ByteArray.size_append,zl0,zl1,zl2,zl3,Nat.reduceAdd] at c10n)
       (try have c10n0:=eq_true c10n)
       (try have c10n1:=decide_eq_true c10n)
       (try have c10n2:=eq_false (Nat.not_lt.2 c10n));clear zl0 zl1 zl2 zl3
       have H':=Aside0.mk H;clear H
       go_wp2_with (first|((with_reducible refine gate_dst (N:=18) rfl ?_);refine Kd.R_lit Kd.string _ 9 ?hg (N:=18) ?hd (xs:=([(⟨#[48]⟩ : ByteArray),(⟨#[49]⟩ : ByteArray)] : List ByteArray)) (inner:=[.string (⟨#[48]⟩ : ByteArray),.string (⟨#[49]⟩ : ByteArray)]) (ok:=fun _ => True) (okp:=fun _ => True) ?hr ?hp (fun _ hk => hk) trivial (Below.refl _ _) (Nat.le_refl _) (by simp) ?_;(case hd => rfl);(case hg => rfl);(case hr => first|(go_simp;done)|(go_simp;rfl));(case hp => exact (Reps.one (show Kd.M Kd.string _ _ _ (⟨#[48]⟩ : ByteArray) [.string (⟨#[48]⟩ : ByteArray)] from rfl) (Reps.one (show Kd.M Kd.string _ _ _ (⟨#[49]⟩ : ByteArray) [.string (⟨#[49]⟩ : ByteArray)] from rfl) (Reps.none _ _))));intro v334 w11 ho12 hb hg_ hnew_;clear hg_ hnew_;(first|rw [← Ny333.out] at ho12|(simp only [Int.reduceToNat] at ho12;rw [← Ny333.out] at ho12));have n0_:=Aside0.mk (Kd.R_lower ho12 (keep_size (w:=w) (g:=g) (row:=none) (by repeat (first|(with_reducible first|exact HK.out|apply KeepBut.set_|apply keep_drewN|apply keep_drew|apply keep_alloc)|exact HK.out))));have n1_:=Aside0.mk (IsS56.below (by repeat (first|(with_reducible first|exact HI0.out|apply IsS56.alloc|apply IsS56.drewN|apply IsS56.drew|apply IsS56.set_1)|exact HI0.out)) hb);have n2_:=Aside0.mk (KeepBut.trans (by repeat (first|(with_reducible first|exact HK.out|apply KeepBut.set_|apply keep_drewN|apply keep_drew|apply keep_alloc)|exact HK.out)) (KeepBut.of_below hb g none) (.inl rfl));have n3_:=Aside0.mk (below_step (by repeat (first|(with_reducible first|exact HB.out|apply below_alloc|apply pw_below_drewN|apply below_drew1|refine below_set ?_ (IsS56.ge HI0.out))|exact HB.out)) hb);clear HI0 HK HB;have HO335:=n0_;have HI0:=n1_;have HK:=n2_;have HB:=n3_;clear n0_ n1_ n2_ n3_ hb ho12)|((with_reducible refine gate_callee (f:=36) rfl ?_);refine goesL_ (some 20) rfl rfl Tryd.func36 (by kernel_rfl) rfl #[.pointer (some ⟨g,0,none⟩),.int .i64 2] rfl (by (try simp only [List.map_toArray,List.map_cons,List.map_nil]);first|done|rfl|(simp only [List.length_drop,List.length_take];rfl)) ?_;(with_reducible refine (spec_l20Rd_pick.calls k1 g s0_0 x1001_1 2 t336 t337 w0 _ ?side1 ?side2 A7.out).mono ?_);(case side1 => repeat (first|(with_reducible first|exact HI0.out|apply IsS56.alloc|apply IsS56.drewN|apply IsS56.drew|apply IsS56.set_1)|exact HI0.out));(case side2 => repeat (first|(with_reducible first|exact HB.out|apply below_alloc|apply pw_below_drewN|apply below_drew1|refine below_set ?_ (IsS56.ge HI0.out))|exact HB.out));rintro e w13 ⟨rfl,hi,hb,hk⟩;refine ⟨_,rfl,?_⟩;have n0_:=Aside0.mk (Kd.R_mono (Kd.R_keep (IsS56.apart (show IsS56 w0 _ g s0_0 x1001_1 from by repeat (first|(with_reducible first|exact HI0.out|apply IsS56.alloc|apply IsS56.drewN|apply IsS56.drew|apply IsS56.set_1)|exact HI0.out)) (rU HO335.out) (by decide)) hk (fun _ h => h.2)) (fun _ h => h.1));have n1_:=Aside0.mk (KeepBut.trans (by repeat (first|(with_reducible first|exact HK.out|apply KeepBut.set_|apply keep_drewN|apply keep_drew|apply keep_alloc)|exact HK.out)) hk (.inl rfl));have n2_:=Aside0.mk (hb);have n3_:=Aside0.mk (hi);clear HO335 HK HB HI0;have HO335:=n0_;have HK:=n1_;have HB:=n2_;have HI0:=n3_;clear n0_ n1_ n2_ n3_;(try clear hb);(try clear hb2);(try clear hk);(try clear hi);obtain ⟨Ao14,co14,eo14⟩:=Kd.R_slice HO335.out;subst eo14;have p338 : 0 ≤ (t336 : Int):=of_decide_eq_true (by first|(with_reducible assumption)|assumption);have q338 : t336 < (y333.length : Int):=of_decide_eq_true (by first|(with_reducible assumption)|assumption);obtain ⟨ad338,e338,hx338_0⟩:=Kd.at_string (Kd.R_reads' HO335.out).2.2 t336 p338 q338;cases e338;replace p338:=eq_true p338;replace q338:=eq_true q338))
       go_roundg k1
       case measure => have:=HK1.out;omega
       case rel => exact ⟨(x7_1 ++ (rdOf ByteArray.empty y333 t336)),(wrap64 (x8_1 - 1)),(t337),(by first|rfl|(simp;done)|(simp [*];done)),(by first|rfl|(simp;done)|(simp [*];done)),H',⟨by have:=HK1.out;omega⟩,⟨by repeat (first|(with_reducible first|exact HI0.out|apply IsS56.alloc|apply IsS56.drewN|apply IsS56.drew|apply IsS56.set_1)|exact HI0.out)⟩,⟨by repeat (first|(with_reducible first|exact HK.out|apply KeepBut.set_|apply keep_drewN|apply keep_drew|apply keep_alloc)|exact HK.out)⟩,⟨by repeat (first|(with_reducible first|exact HB.out|apply below_alloc|apply pw_below_drewN|apply below_drew1|refine below_set ?_ (IsS56.ge HI0.out))|exact HB.out)⟩⟩
      ·
       rw [if_neg c10] at H
       exact absurd H (by simp)
     ·
      rw [if_neg c9] at H
      exact absurd H (by simp)
    ·
     rw [if_neg c8] at H
     exact absurd H (by simp)
   ·
    rw [if_neg c6] at H
    have c6b0 : decide (0 < x8_1) = false:=decide_eq_false c6;clear c6
    replace H:=Option.bind_eq_some_iff.mp H
    obtain ⟨⟨t339,t340⟩,A150,H⟩:=H
    replace H : (if t339 = true then (if x7_1.size + 1 ≤ 9223372036854775807 then (some (x7_1 ++ (⟨#[120]⟩ : ByteArray),t340)) else (none)) else (some (x7_1,t340))) = some (r1,r2):=H
    have A15:=Aside0.mk A150;clear A150
    by_cases c16 : t339 = true
    ·
     subst c16
     have H1 : (if x7_1.size + 1 ≤ 9223372036854775807 then (some (x7_1 ++ (⟨#[120]⟩ : ByteArray),t340)) else (none)) = some (r1,r2):=by rw [if_pos rfl] at H;exact H
     clear H;have H:=H1;clear H1
     by_cases c17 : x7_1.size + 1 ≤ 9223372036854775807
     ·
      rw [if_pos c17] at H
      have c17b0:=eq_true c17
      have c17b1 : decide (x7_1.size + 1 ≤ 9223372036854775807) = true:=decide_eq_true c17
      try have c17b2 : (9223372036854775807 < x7_1.size + 1) = False:=eq_false (Nat.not_lt.2 c17)
      have zl0 : (⟨#[120]⟩ : ByteArray).size = 1:=rfl
      have zl1 : (⟨#[48]⟩ : ByteArray).size = 1:=rfl
      have zl2 : (⟨#[49]⟩ : ByteArray).size = 1:=rfl
      have zl3 : (⟨#[]⟩ : ByteArray).size = 0:=rfl;have c17n:=c17
      (try simp only [ByteArray.size_append,zl0,zl1,zl2,zl3,Nat.reduceAdd] at c17n)
      (try have c17n0:=eq_true c17n)
      (try have c17n1:=decide_eq_true c17n)
      (try have c17n2:=eq_false (Nat.not_lt.2 c17n));clear zl0 zl1 zl2 zl3
      simp only [Option.some.injEq,Prod.mk.injEq] at H
      obtain ⟨rfl,rfl⟩:=H
      go_wp2_with (first|((with_reducible refine gate_callee (f:=39) rfl ?_);refine goesL_ (some 26) rfl rfl Tryd.func39 (by kernel_rfl) rfl #[.pointer (some ⟨g,0,none⟩),.int .i64 a2] rfl (by (try simp only [List.map_toArray,List.map_cons,List.map_nil]);first|done|rfl|(simp only [List.length_drop,List.length_take];rfl)) ?_;(with_reducible refine (spec_l20Rd_odd.calls k1 g s0_0 x1001_1 a2 true t340 w0 _ ?side1 ?side2 A15.out).mono ?_);(case side1 => repeat (first|(with_reducible first|exact HI0.out|apply IsS56.alloc|apply IsS56.drewN|apply IsS56.drew|apply IsS56.set_1)|exact HI0.out));(case side2 => repeat (first|(with_reducible first|exact HB.out|apply below_alloc|apply pw_below_drewN|apply below_drew1|refine below_set ?_ (IsS56.ge HI0.out))|exact HB.out));rintro e w18 ⟨rfl,hi,hb,hk⟩;refine ⟨_,rfl,?_⟩;have n0_:=Aside0.mk (KeepBut.trans (by repeat (first|(with_reducible first|exact HK.out|apply KeepBut.set_|apply keep_drewN|apply keep_drew|apply keep_alloc)|exact HK.out)) hk (.inl rfl));have n1_:=Aside0.mk (hb);have n2_:=Aside0.mk (hi);clear HK HB HI0;have HK:=n0_;have HB:=n1_;have HI0:=n2_;clear n0_ n1_ n2_;(try clear hb);(try clear hb2);(try clear hk);(try clear hi)))
      go_ret
      exact ⟨by first|rfl|(simp [errW_none,errW_some] <;> rfl)|(simp [*,errW_none,errW_some] <;> rfl),by repeat (first|(with_reducible first|exact HI0.out|apply IsS56.alloc|apply IsS56.drewN|apply IsS56.drew|apply IsS56.set_1)|exact HI0.out),by repeat (first|(with_reducible first|exact HB.out|apply below_alloc|apply pw_below_drewN|apply below_drew1|refine below_set ?_ (IsS56.ge HI0.out))|exact HB.out),by repeat (first|(with_reducible first|exact HK.out|apply KeepBut.set_|apply keep_drewN|apply keep_drew|apply keep_alloc)|exact HK.out)⟩
     ·
      rw [if_neg c17] at H
      exact absurd H (by simp)
    ·
     replace c16:=Bool.eq_false_iff.mpr c16;subst c16
     have H1 : (some (x7_1,t340)) = some (r1,r2):=by rw [if_neg (show ¬ (false = true) by decide)] at H;exact H
     clear H;have H:=H1;clear H1
     simp only [Option.some.injEq,Prod.mk.injEq] at H
     obtain ⟨rfl,rfl⟩:=H
     go_wp2_with (first|((with_reducible refine gate_callee (f:=39) rfl ?_);refine goesL_ (some 26) rfl rfl Tryd.func39 (by kernel_rfl) rfl #[.pointer (some ⟨g,0,none⟩),.int .i64 a2] rfl (by (try simp only [List.map_toArray,List.map_cons,List.map_nil]);first|done|rfl|(simp only [List.length_drop,List.length_take];rfl)) ?_;(with_reducible refine (spec_l20Rd_odd.calls k1 g s0_0 x1001_1 a2 false t340 w0 _ ?side1 ?side2 A15.out).mono ?_);(case side1 => repeat (first|(with_reducible first|exact HI0.out|apply IsS56.alloc|apply IsS56.drewN|apply IsS56.drew|apply IsS56.set_1)|exact HI0.out));(case side2 => repeat (first|(with_reducible first|exact HB.out|apply below_alloc|apply pw_below_drewN|apply below_drew1|refine below_set ?_ (IsS56.ge HI0.out))|exact HB.out));rintro e w19 ⟨rfl,hi,hb,hk⟩;refine ⟨_,rfl,?_⟩;have n0_:=Aside0.mk (KeepBut.trans (by repeat (first|(with_reducible first|exact HK.out|apply KeepBut.set_|apply keep_drewN|apply keep_drew|apply keep_alloc)|exact HK.out)) hk (.inl rfl));have n1_:=Aside0.mk (hb);have n2_:=Aside0.mk (hi);clear HK HB HI0;have HK:=n0_;have HB:=n1_;have HI0:=n2_;clear n0_ n1_ n2_;(try clear hb);(try clear hb2);(try clear hk);(try clear hi)))
     go_ret
     exact ⟨by first|rfl|(simp [errW_none,errW_some] <;> rfl)|(simp [*,errW_none,errW_some] <;> rfl),by repeat (first|(with_reducible first|exact HI0.out|apply IsS56.alloc|apply IsS56.drewN|apply IsS56.drew|apply IsS56.set_1)|exact HI0.out),by repeat (first|(with_reducible first|exact HB.out|apply below_alloc|apply pw_below_drewN|apply below_drew1|refine below_set ?_ (IsS56.ge HI0.out))|exact HB.out),by repeat (first|(with_reducible first|exact HK.out|apply KeepBut.set_|apply keep_drewN|apply keep_drew|apply keep_alloc)|exact HK.out)⟩

end Go.Proofs.YthodcgkhianecaaDoor.PA
