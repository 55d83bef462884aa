/- The machine side of functions of this seat, written by the session's program myprint.py: for each Go function a Lean function and the proof that the call answers just it. -/
import Derived.Test.YtmbninbecclbiaaPAx0
import Derived.Test.YtmbninbecclbiaaUp
import Derived.Test.YtmbninbecclbiaaPAx1
import Derived.Test.YtmbninbecclbiaaPAx2
import Derived.Test.YtmbninbecclbiaaPAx6
import Derived.Test.YtmbninbecclbiaaPAx7
namespace Go.Proofs.Ytmbninbecclbiaa.PA
open Go.RowKit Go.Proofs.YtmbninbecclbiaaW.PrintWords Go.Proofs.YtmbninbecclbiaaW.PrintLast Go.Proofs.YtmbninbecclbiaaW.PrintMore
attribute [local go_sem] max2_int min2_int max_two min_two max_three min_three max_four min_four   -- for this text's walks alone
set_option linter.unusedVariables false
set_option linter.unusedSimpArgs false

theorem v_at_drewN {α : Type} {d : Kd α} {e : Nat} {w w2 : World} {base : Nat} {ok : Nat → Prop} {v : Value} {xs : List α} {m : Nat} (hq : w.drewN m = w2) (h : Kd.V d e w base ok v xs) : Kd.V d e w2 base ok v xs:=by subst hq;exact Kd.V_drewN h m
/-! ### spec_CornersOf: function 25 -/
mutual
def spec_CornersOf.l0 : Nat → List (S29) → List (List Int) → Int → Option ((List (List Int)))
 | 0,_,_,_ => none
 | k + 1,x0,x3,x4 => if x4 < (x0.length : Int) then (if 0 ≤ x4 then ((spec_WeighOk.f ((rd_T29 x0 x4).f0) ((rd_T29 x0 x4).f1) ((rd_T29 x0 x4).f2)).bind fun t189 => (if t189 = true then (if (x0.length : Int) > 6 then (some (([] : List (List Int)))) else ((spec_l6Row.f k ((rd_T29 x0 x4).f0) ((rd_T29 x0 x4).f1) ((rd_T29 x0 x4).f2)).bind fun bt194 => (if x3.length < 5864062014805 then (spec_CornersOf.l0 k x0 (x3 ++ [bt194.1]) (wrap64 (x4 + 1))) else (none)))) else (some (([] : List (List Int)))))) else (none)) else ((spec_l6Corners.f k x3).bind fun t204 => (spec_CornersOf.l1 k t204 1))
def spec_CornersOf.l1 : Nat → List (List Int) → Int → Option ((List (List Int)))
 | 0,_,_ => none
 | k + 1,x7,x8 => if x8 < (x7.length : Int) then (spec_CornersOf.l2 k x7 x8 x8) else (some x7)
def spec_CornersOf.l2 : Nat → List (List Int) → Int → Int → Option ((List (List Int)))
 | 0,_,_,_ => none
 | k + 1,x7,x8,x9 => if x9 > 0 then (if 0 ≤ x9 then (if x9 < (x7.length : Int) then (if 0 ≤ (wrap64 (x9 - 1)) then (if (wrap64 (x9 - 1)) < (x7.length : Int) then ((spec_l6Less.f k (rd_L2 x7 x9) (rd_L2 x7 (wrap64 (x9 - 1)))).bind fun t209 => (if t209 = true then (spec_CornersOf.l2 k ((x7.set (x9 : Int).toNat (rd_L2 x7 (wrap64 (x9 - 1)))).set ((wrap64 (x9 - 1)) : Int).toNat (rd_L2 x7 x9)) x8 (wrap64 (x9 - 1))) else (spec_CornersOf.l1 k x7 (wrap64 (x8 + 1))))) else (none)) else (none)) else (none)) else (none)) else (spec_CornersOf.l1 k x7 (wrap64 (x8 + 1)))
end
def spec_CornersOf.f (k : Nat) (l0 : List (S29)) : Option ((List (List Int))):=spec_CornersOf.l0 k l0 (([(([1,0,0,0] : List Int)),(([0,1,0,0] : List Int)),(([0,0,1,0] : List Int)),(([0,0,0,1] : List Int))] : List (List Int))) 0
theorem spec_CornersOf.mono_l : ∀ k,(∀ y0 y1 y2,LeO (spec_CornersOf.l0 k y0 y1 y2) (spec_CornersOf.l0 (k + 1) y0 y1 y2)) ∧ (∀ y0 y1,LeO (spec_CornersOf.l1 k y0 y1) (spec_CornersOf.l1 (k + 1) y0 y1)) ∧ (∀ y0 y1 y2,LeO (spec_CornersOf.l2 k y0 y1 y2) (spec_CornersOf.l2 (k + 1) y0 y1 y2))
 | 0 => ⟨fun _ _ _ r h => by simp [spec_CornersOf.l0] at h,fun _ _ r h => by simp [spec_CornersOf.l1] at h,fun _ _ _ r h => by simp [spec_CornersOf.l2] at h⟩
 | k + 1 => by
  obtain ⟨ih0,ih1,ih2⟩:=spec_CornersOf.mono_l k
  refine ⟨?_,?_,?_⟩
  ·
   intro y0 y1 y2
   unfold spec_CornersOf.l0
   repeat' first
   | (with_reducible exact ih0 _ _ _)
   | (with_reducible exact ih1 _ _)
   | (with_reducible exact ih2 _ _ _)
   | (with_reducible exact spec_l6Corners.mono _ _)
   | (with_reducible exact spec_l6Less.mono _ _ _)
   | (with_reducible exact spec_l6Row.mono _ _ _ _)
   | (with_reducible exact LeO.refl _)
   | (with_reducible exact LeO.none _)
   | (with_reducible refine LeO.ite ?_ ?_)
   | (with_reducible refine LeO.bind ?_ (fun _ => ?_))
   | exact ih0 _ _ _
   | exact ih1 _ _
   | exact ih2 _ _ _
   | exact spec_l6Corners.mono _ _
   | exact spec_l6Less.mono _ _ _
   | exact spec_l6Row.mono _ _ _ _
   | exact LeO.none _
   | refine LeO.ite ?_ ?_
   | refine LeO.bind ?_ (fun _ => ?_)
  ·
   intro y0 y1
   unfold spec_CornersOf.l1
   repeat' first
   | (with_reducible exact ih0 _ _ _)
   | (with_reducible exact ih1 _ _)
   | (with_reducible exact ih2 _ _ _)
   | (with_reducible exact spec_l6Corners.mono _ _)
   | (with_reducible exact spec_l6Less.mono _ _ _)
   | (with_reducible exact spec_l6Row.mono _ _ _ _)
   | (with_reducible exact LeO.refl _)
   | (with_reducible exact LeO.none _)
   | (with_reducible refine LeO.ite ?_ ?_)
   | (with_reducible refine LeO.bind ?_ (fun _ => ?_))
   | exact ih0 _ _ _
   | exact ih1 _ _
   | exact ih2 _ _ _
   | exact spec_l6Corners.mono _ _
   | exact spec_l6Less.mono _ _ _
   | exact spec_l6Row.mono _ _ _ _
   | exact LeO.none _
   | refine LeO.ite ?_ ?_
   | refine LeO.bind ?_ (fun _ => ?_)
  ·
   intro y0 y1 y2
   unfold spec_CornersOf.l2
   repeat' first
   | (with_reducible exact ih0 _ _ _)
   | (with_reducible exact ih1 _ _)
   | (with_reducible exact ih2 _ _ _)
   | (with_reducible exact spec_l6Corners.mono _ _)
   | (with_reducible exact spec_l6Less.mono _ _ _)
   | (with_reducible exact spec_l6Row.mono _ _ _ _)
   | (with_reducible exact LeO.refl _)
   | (with_reducible exact LeO.none _)
   | (with_reducible refine LeO.ite ?_ ?_)
   | (with_reducible refine LeO.bind ?_ (fun _ => ?_))
   | exact ih0 _ _ _
   | exact ih1 _ _
   | exact ih2 _ _ _
   | exact spec_l6Corners.mono _ _
   | exact spec_l6Less.mono _ _ _
   | exact spec_l6Row.mono _ _ _ _
   | exact LeO.none _
   | refine LeO.ite ?_ ?_
   | refine LeO.bind ?_ (fun _ => ?_)
theorem spec_CornersOf.mono : ∀ a0 k,LeO (spec_CornersOf.f k a0) (spec_CornersOf.f (k + 1) a0):=by
 intro a0 k
 obtain ⟨ih0,ih1,ih2⟩:=spec_CornersOf.mono_l k
 unfold spec_CornersOf.f
 repeat' first
   | (with_reducible exact ih0 _ _ _)
   | (with_reducible exact ih1 _ _)
   | (with_reducible exact ih2 _ _ _)
   | (with_reducible exact spec_l6Corners.mono _ _)
   | (with_reducible exact spec_l6Less.mono _ _ _)
   | (with_reducible exact spec_l6Row.mono _ _ _ _)
   | (with_reducible exact LeO.refl _)
   | (with_reducible exact LeO.none _)
   | (with_reducible refine LeO.ite ?_ ?_)
   | (with_reducible refine LeO.bind ?_ (fun _ => ?_))
   | exact ih0 _ _ _
   | exact ih1 _ _
   | exact ih2 _ _ _
   | exact spec_l6Corners.mono _ _
   | exact spec_l6Less.mono _ _ _
   | exact spec_l6Row.mono _ _ _ _
   | exact LeO.none _
   | refine LeO.ite ?_ ?_
   | refine LeO.bind ?_ (fun _ => ?_)
set_option maxHeartbeats 8000000 in
set_option maxRecDepth 100000 in
theorem spec_CornersOf.calls (k : Nat) (A0 : Option Addr) (c0 : Nat) (l0 : List (S29)) (r : List (List Int)) (w : World) (hr0 : Kd.C k29 w A0 l0.length l0) (hc0 : l0.length ≤ c0) (h : spec_CornersOf.f k l0 = some r) :
  Calls Try.prog 25 #[.slice A0 l0.length c0] w fun e w' => ∃ v0_ : Value,e = .returned (v0_) ∧ Kd.N (Kd.slice 3 (Kd.int .i64)) 35 w' w.heap.size (fun k_ => (w.heap.size ≤ k_)) v0_ r ∧ Below w.heap.size w w':=by
 have hu29:=Try.underlying29
 have HR0:=Aside0.mk hr0
 have HC0:=Aside0.mk hc0;clear hr0 hc0;have HB:=Aside0.mk (Below.refl w.heap.size w)
 have H : (spec_CornersOf.l0 k l0 (([(([1,0,0,0] : List Int)),(([0,1,0,0] : List Int)),(([0,0,1,0] : List Int)),(([0,0,0,1] : List Int))] : List (List Int))) 0) = some r:=h;clear h
 obtain ⟨y173,hy173⟩ : ∃ y_ : List Int,y_ = (([1,0,0,0] : List Int)):=⟨_,rfl⟩
 replace H : (spec_CornersOf.l0 k l0 (([y173,(([0,1,0,0] : List Int)),(([0,0,1,0] : List Int)),(([0,0,0,1] : List Int))] : List (List Int))) 0) = some r:=by first|(rw [hy173];with_reducible exact H)|(have H2_:=(Option.bind_some _ _).symm.trans H;rw [hy173];with_reducible exact H2_)|(have H2_:=(Option.bind_some _ _).symm.trans H;with_reducible exact H2_)|with_reducible exact H|(rw [hy173];exact H)|exact H
 have Ny173:=Aside0.mk hy173;clear hy173
 obtain ⟨y176,hy176⟩ : ∃ y_ : List Int,y_ = (([0,1,0,0] : List Int)):=⟨_,rfl⟩
 replace H : (spec_CornersOf.l0 k l0 (([y173,y176,(([0,0,1,0] : List Int)),(([0,0,0,1] : List Int))] : List (List Int))) 0) = some r:=by first|(rw [hy176];with_reducible exact H)|(have H2_:=(Option.bind_some _ _).symm.trans H;rw [hy176];with_reducible exact H2_)|(have H2_:=(Option.bind_some _ _).symm.trans H;with_reducible exact H2_)|with_reducible exact H|(rw [hy176];exact H)|exact H
 have Ny176:=Aside0.mk hy176;clear hy176
 obtain ⟨y179,hy179⟩ : ∃ y_ : List Int,y_ = (([0,0,1,0] : List Int)):=⟨_,rfl⟩
 replace H : (spec_CornersOf.l0 k l0 (([y173,y176,y179,(([0,0,0,1] : List Int))] : List (List Int))) 0) = some r:=by first|(rw [hy179];with_reducible exact H)|(have H2_:=(Option.bind_some _ _).symm.trans H;rw [hy179];with_reducible exact H2_)|(have H2_:=(Option.bind_some _ _).symm.trans H;with_reducible exact H2_)|with_reducible exact H|(rw [hy179];exact H)|exact H
 have Ny179:=Aside0.mk hy179;clear hy179
 obtain ⟨y182,hy182⟩ : ∃ y_ : List Int,y_ = (([0,0,0,1] : List Int)):=⟨_,rfl⟩
 replace H : (spec_CornersOf.l0 k l0 (([y173,y176,y179,y182] : List (List Int))) 0) = some r:=by first|(rw [hy182];with_reducible exact H)|(have H2_:=(Option.bind_some _ _).symm.trans H;rw [hy182];with_reducible exact H2_)|(have H2_:=(Option.bind_some _ _).symm.trans H;with_reducible exact H2_)|with_reducible exact H|(rw [hy182];exact H)|exact H
 have Ny182:=Aside0.mk hy182;clear hy182
 obtain ⟨y185,hy185⟩ : ∃ y_ : List (List Int),y_ = (([y173,y176,y179,y182] : List (List Int))):=⟨_,rfl⟩
 replace H : (spec_CornersOf.l0 k l0 y185 0) = some r:=by first|(rw [hy185];with_reducible exact H)|(have H2_:=(Option.bind_some _ _).symm.trans H;rw [hy185];with_reducible exact H2_)|(have H2_:=(Option.bind_some _ _).symm.trans H;with_reducible exact H2_)|with_reducible exact H|(rw [hy185];exact H)|exact H
 have Ny185:=Aside0.mk hy185;clear hy185
 have H':=Aside0.mk H;clear H
 go_enter Try.func25,Try.ntmps25
 go_wp2_with (first|((with_reducible refine gate_dst (N:=11) rfl ?_);(try (refine gate_guard (by rfl) ?_;dsimp only));refine Kd.R_lit (Kd.int .i64) _ 3 ?hg (N:=11) ?hd (xs:=([1,0,0,0] : List Int)) (inner:=[.int .i64 1,.int .i64 0,.int .i64 0,.int .i64 0]) (ok:=fun _ => True) (okp:=fun _ => True) ?hr ?hp (fun _ hk => hk) trivial (Below.refl _ _) (Nat.le_refl _) (by simp) ?_;(case hd => rfl);(case hg => rfl);(case hr => first|(go_simp;done)|(go_simp;rfl));(case hp => exact (Reps.one (show Kd.M (Kd.int .i64) _ _ _ 1 [.int .i64 1] from rfl) (Reps.one (show Kd.M (Kd.int .i64) _ _ _ 0 [.int .i64 0] from rfl) (Reps.one (show Kd.M (Kd.int .i64) _ _ _ 0 [.int .i64 0] from rfl) (Reps.one (show Kd.M (Kd.int .i64) _ _ _ 0 [.int .i64 0] from rfl) (Reps.none _ _))))));intro v174 w2 ho3 hb hg_ hnew_;clear hg_ hnew_;(first|rw [← Ny173.out] at ho3|(simp only [Int.reduceToNat] at ho3;rw [← Ny173.out] at ho3));have n0_:=Aside0.mk (Kd.R_lower (Kd.R_newM (M:=fun k_ => (w.heap.size ≤ k_)) ho3 (below_size (belU HB.out)) (fun k_ h_ => h_)) (below_size (belU HB.out)));have n1_:=Aside0.mk (below_step (belU HB.out) hb);clear HB;have HO175:=n0_;have HB:=n1_;clear n0_ n1_ hb ho3)|((with_reducible refine gate_dst (N:=12) rfl ?_);(try (refine gate_guard (by rfl) ?_;dsimp only));refine Kd.R_lit (Kd.int .i64) _ 3 ?hg (N:=12) ?hd (xs:=([0,1,0,0] : List Int)) (inner:=[.int .i64 0,.int .i64 1,.int .i64 0,.int .i64 0]) (ok:=fun _ => True) (okp:=fun _ => True) ?hr ?hp (fun _ hk => hk) trivial (Below.refl _ _) (Nat.le_refl _) (by simp) ?_;(case hd => rfl);(case hg => rfl);(case hr => first|(go_simp;done)|(go_simp;rfl));(case hp => exact (Reps.one (show Kd.M (Kd.int .i64) _ _ _ 0 [.int .i64 0] from rfl) (Reps.one (show Kd.M (Kd.int .i64) _ _ _ 1 [.int .i64 1] from rfl) (Reps.one (show Kd.M (Kd.int .i64) _ _ _ 0 [.int .i64 0] from rfl) (Reps.one (show Kd.M (Kd.int .i64) _ _ _ 0 [.int .i64 0] from rfl) (Reps.none _ _))))));intro v177 w4 ho5 hb hg_ hnew_;clear hg_ hnew_;(first|rw [← Ny176.out] at ho5|(simp only [Int.reduceToNat] at ho5;rw [← Ny176.out] at ho5));have n0_:=Aside0.mk (Kd.R_elder' (rU HO175.out) (Kd.R_base ho5) hb);have n1_:=Aside0.mk (Kd.R_lower (Kd.R_new' (Kd.R_newM (M:=fun k_ => (w.heap.size ≤ k_)) ho5 (below_size (belU HB.out)) (fun k_ h_ => h_)) (Kd.R_lt (rU HO175.out))) (below_size (belU HB.out)));have n2_:=Aside0.mk (below_step (belU HB.out) hb);clear HO175 HB;have HO175:=n0_;have HO178:=n1_;have HB:=n2_;clear n0_ n1_ n2_ hb ho5)|((with_reducible refine gate_dst (N:=13) rfl ?_);(try (refine gate_guard (by rfl) ?_;dsimp only));refine Kd.R_lit (Kd.int .i64) _ 3 ?hg (N:=13) ?hd (xs:=([0,0,1,0] : List Int)) (inner:=[.int .i64 0,.int .i64 0,.int .i64 1,.int .i64 0]) (ok:=fun _ => True) (okp:=fun _ => True) ?hr ?hp (fun _ hk => hk) trivial (Below.refl _ _) (Nat.le_refl _) (by simp) ?_;(case hd => rfl);(case hg => rfl);(case hr => first|(go_simp;done)|(go_simp;rfl));(case hp => exact (Reps.one (show Kd.M (Kd.int .i64) _ _ _ 0 [.int .i64 0] from rfl) (Reps.one (show Kd.M (Kd.int .i64) _ _ _ 0 [.int .i64 0] from rfl) (Reps.one (show Kd.M (Kd.int .i64) _ _ _ 1 [.int .i64 1] from rfl) (Reps.one (show Kd.M (Kd.int .i64) _ _ _ 0 [.int .i64 0] from rfl) (Reps.none _ _))))));intro v180 w6 ho7 hb hg_ hnew_;clear hg_ hnew_;(first|rw [← Ny179.out] at ho7|(simp only [Int.reduceToNat] at ho7;rw [← Ny179.out] at ho7));have n0_:=Aside0.mk (Kd.R_elder' (rU HO175.out) (Kd.R_base ho7) hb);have n1_:=Aside0.mk (Kd.R_elder' (rU HO178.out) (Kd.R_base ho7) hb);have n2_:=Aside0.mk (Kd.R_lower (Kd.R_new' (Kd.R_new' (Kd.R_newM (M:=fun k_ => (w.heap.size ≤ k_)) ho7 (below_size (belU HB.out)) (fun k_ h_ => h_)) (Kd.R_lt (rU HO175.out))) (Kd.R_lt (rU HO178.out))) (below_size (belU HB.out)));have n3_:=Aside0.mk (below_step (belU HB.out) hb);clear HO175 HO178 HB;have HO175:=n0_;have HO178:=n1_;have HO181:=n2_;have HB:=n3_;clear n0_ n1_ n2_ n3_ hb ho7)|((with_reducible refine gate_dst (N:=14) rfl ?_);(try (refine gate_guard (by rfl) ?_;dsimp only));refine Kd.R_lit (Kd.int .i64) _ 3 ?hg (N:=14) ?hd (xs:=([0,0,0,1] : List Int)) (inner:=[.int .i64 0,.int .i64 0,.int .i64 0,.int .i64 1]) (ok:=fun _ => True) (okp:=fun _ => True) ?hr ?hp (fun _ hk => hk) trivial (Below.refl _ _) (Nat.le_refl _) (by simp) ?_;(case hd => rfl);(case hg => rfl);(case hr => first|(go_simp;done)|(go_simp;rfl));(case hp => exact (Reps.one (show Kd.M (Kd.int .i64) _ _ _ 0 [.int .i64 0] from rfl) (Reps.one (show Kd.M (Kd.int .i64) _ _ _ 0 [.int .i64 0] from rfl) (Reps.one (show Kd.M (Kd.int .i64) _ _ _ 0 [.int .i64 0] from rfl) (Reps.one (show Kd.M (Kd.int .i64) _ _ _ 1 [.int .i64 1] from rfl) (Reps.none _ _))))));intro v183 w8 ho9 hb hg_ hnew_;clear hg_ hnew_;(first|rw [← Ny182.out] at ho9|(simp only [Int.reduceToNat] at ho9;rw [← Ny182.out] at ho9));have n0_:=Aside0.mk (Kd.R_elder' (rU HO175.out) (Kd.R_base ho9) hb);have n1_:=Aside0.mk (Kd.R_elder' (rU HO178.out) (Kd.R_base ho9) hb);have n2_:=Aside0.mk (Kd.R_elder' (rU HO181.out) (Kd.R_base ho9) hb);have n3_:=Aside0.mk (Kd.R_lower (Kd.R_new' (Kd.R_new' (Kd.R_new' (Kd.R_newM (M:=fun k_ => (w.heap.size ≤ k_)) ho9 (below_size (belU HB.out)) (fun k_ h_ => h_)) (Kd.R_lt (rU HO175.out))) (Kd.R_lt (rU HO178.out))) (Kd.R_lt (rU HO181.out))) (below_size (belU HB.out)));have n4_:=Aside0.mk (below_step (belU HB.out) hb);clear HO175 HO178 HO181 HB;have HO175:=n0_;have HO178:=n1_;have HO181:=n2_;have HO184:=n3_;have HB:=n4_;clear n0_ n1_ n2_ n3_ n4_ hb ho9;obtain ⟨Ao10,co10,eo10⟩:=Kd.R_slice HO175.out;subst eo10;obtain ⟨Ao11,co11,eo11⟩:=Kd.R_slice HO178.out;subst eo11;obtain ⟨Ao12,co12,eo12⟩:=Kd.R_slice HO181.out;subst eo12;obtain ⟨Ao13,co13,eo13⟩:=Kd.R_slice HO184.out;subst eo13)|((with_reducible refine gate_dst (N:=15) rfl ?_);(try (refine gate_guard (by rfl) ?_;dsimp only));refine Kd.N_lit (Kd.slice 3 (Kd.int .i64)) _ 35 ?hg (N':=15) ?hd (xs:=([y173,y176,y179,y182] : List (List Int))) (inner:=[.slice Ao10 y173.length co10,.slice Ao11 y176.length co11,.slice Ao12 y179.length co12,.slice Ao13 y182.length co13]) (ok:=(fun k_ => (w.heap.size ≤ k_))) (okp:=(fun k_ => (w.heap.size ≤ k_))) ?hr ?hp (fun _ hk => hk) ((show ∀ k_,w8.heap.size ≤ k_ → (fun k_ => (w.heap.size ≤ k_)) k_ from fun k_ hk => (Nat.le_trans (below_size (belU HB.out)) hk)) _ (Nat.le_refl _)) (Below.refl _ _) (Nat.le_refl _) (by simp) ?_;(case hd => rfl);(case hg => rfl);(case hr => first|(go_simp;done)|(go_simp;rfl));(case hp => exact (Reps.one (show Kd.FK (Kd.slice 3 (Kd.int .i64)) _ _ y173 [.slice Ao10 y173.length co10] from (Kd.FK_slice_mk (Kd.R_reads' (Kd.R_mono (ok':=(fun k_ => (w.heap.size ≤ k_))) (HO175.out) (fun k_ hk => hk.1.1.1.1))).2.1 (Kd.R_F (Kd.R_mono (ok':=(fun k_ => (w.heap.size ≤ k_))) (HO175.out) (fun k_ hk => hk.1.1.1.1))))) (Reps.one (show Kd.FK (Kd.slice 3 (Kd.int .i64)) _ _ y176 [.slice Ao11 y176.length co11] from (Kd.FK_slice_mk (Kd.R_reads' (Kd.R_mono (ok':=(fun k_ => (w.heap.size ≤ k_))) (HO178.out) (fun k_ hk => hk.1.1.1.1))).2.1 (Kd.R_F (Kd.R_mono (ok':=(fun k_ => (w.heap.size ≤ k_))) (HO178.out) (fun k_ hk => hk.1.1.1.1))))) (Reps.one (show Kd.FK (Kd.slice 3 (Kd.int .i64)) _ _ y179 [.slice Ao12 y179.length co12] from (Kd.FK_slice_mk (Kd.R_reads' (Kd.R_mono (ok':=(fun k_ => (w.heap.size ≤ k_))) (HO181.out) (fun k_ hk => hk.1.1.1.1))).2.1 (Kd.R_F (Kd.R_mono (ok':=(fun k_ => (w.heap.size ≤ k_))) (HO181.out) (fun k_ hk => hk.1.1.1.1))))) (Reps.one (show Kd.FK (Kd.slice 3 (Kd.int .i64)) _ _ y182 [.slice Ao13 y182.length co13] from (Kd.FK_slice_mk (Kd.R_reads' (Kd.R_mono (ok':=(fun k_ => (w.heap.size ≤ k_))) (HO184.out) (fun k_ hk => hk.1.1.1.1))).2.1 (Kd.R_F (Kd.R_mono (ok':=(fun k_ => (w.heap.size ≤ k_))) (HO184.out) (fun k_ hk => hk.1.1.1.1))))) (Reps.none _ _))))));intro v186 w14 ho15 hb hg_ hnew_;clear hg_ hnew_;(first|rw [← Ny185.out] at ho15|(simp only [Int.reduceToNat] at ho15;rw [← Ny185.out] at ho15));have n0_:=Aside0.mk (Kd.N_lower ho15 (below_size (belU HB.out)));have n1_:=Aside0.mk (below_step (belU HB.out) hb);clear HB HO175 HO178 HO181 HO184;have HO187:=n0_;have HB:=n1_;clear n0_ n1_ hb ho15))
 repeat (go_quiet (first|((with_reducible refine gate_dst (N:=11) rfl ?_);(try (refine gate_guard (by rfl) ?_;dsimp only));refine Kd.R_lit (Kd.int .i64) _ 3 ?hg (N:=11) ?hd (xs:=([1,0,0,0] : List Int)) (inner:=[.int .i64 1,.int .i64 0,.int .i64 0,.int .i64 0]) (ok:=fun _ => True) (okp:=fun _ => True) ?hr ?hp (fun _ hk => hk) trivial (Below.refl _ _) (Nat.le_refl _) (by simp) ?_;(case hd => rfl);(case hg => rfl);(case hr => first|(go_simp;done)|(go_simp;rfl));(case hp => exact (Reps.one (show Kd.M (Kd.int .i64) _ _ _ 1 [.int .i64 1] from rfl) (Reps.one (show Kd.M (Kd.int .i64) _ _ _ 0 [.int .i64 0] from rfl) (Reps.one (show Kd.M (Kd.int .i64) _ _ _ 0 [.int .i64 0] from rfl) (Reps.one (show Kd.M (Kd.int .i64) _ _ _ 0 [.int .i64 0] from rfl) (Reps.none _ _))))));intro v174 w2 ho3 hb hg_ hnew_;clear hg_ hnew_;(first|rw [← Ny173.out] at ho3|(simp only [Int.reduceToNat] at ho3;rw [← Ny173.out] at ho3));have n0_:=Aside0.mk (Kd.R_lower (Kd.R_newM (M:=fun k_ => (w.heap.size ≤ k_)) ho3 (below_size (belU HB.out)) (fun k_ h_ => h_)) (below_size (belU HB.out)));have n1_:=Aside0.mk (below_step (belU HB.out) hb);clear HB;have HO175:=n0_;have HB:=n1_;clear n0_ n1_ hb ho3)|((with_reducible refine gate_dst (N:=12) rfl ?_);(try (refine gate_guard (by rfl) ?_;dsimp only));refine Kd.R_lit (Kd.int .i64) _ 3 ?hg (N:=12) ?hd (xs:=([0,1,0,0] : List Int)) (inner:=[.int .i64 0,.int .i64 1,.int .i64 0,.int .i64 0]) (ok:=fun _ => True) (okp:=fun _ => True) ?hr ?hp (fun _ hk => hk) trivial (Below.refl _ _) (Nat.le_refl _) (by simp) ?_;(case hd => rfl);(case hg => rfl);(case hr => first|(go_simp;done)|(go_simp;rfl));(case hp => exact (Reps.one (show Kd.M (Kd.int .i64) _ _ _ 0 [.int .i64 0] from rfl) (Reps.one (show Kd.M (Kd.int .i64) _ _ _ 1 [.int .i64 1] from rfl) (Reps.one (show Kd.M (Kd.int .i64) _ _ _ 0 [.int .i64 0] from rfl) (Reps.one (show Kd.M (Kd.int .i64) _ _ _ 0 [.int .i64 0] from rfl) (Reps.none _ _))))));intro v177 w4 ho5 hb hg_ hnew_;clear hg_ hnew_;(first|rw [← Ny176.out] at ho5|(simp only [Int.reduceToNat] at ho5;rw [← Ny176.out] at ho5));have n0_:=Aside0.mk (Kd.R_elder' (rU HO175.out) (Kd.R_base ho5) hb);have n1_:=Aside0.mk (Kd.R_lower (Kd.R_new' (Kd.R_newM (M:=fun k_ => (w.heap.size ≤ k_)) ho5 (below_size (belU HB.out)) (fun k_ h_ => h_)) (Kd.R_lt (rU HO175.out))) (below_size (belU HB.out)));have n2_:=Aside0.mk (below_step (belU HB.out) hb);clear HO175 HB;have HO175:=n0_;have HO178:=n1_;have HB:=n2_;clear n0_ n1_ n2_ hb ho5)|((with_reducible refine gate_dst (N:=13) rfl ?_);(try (refine gate_guard (by rfl) ?_;dsimp only));refine Kd.R_lit (Kd.int .i64) _ 3 ?hg (N:=13) ?hd (xs:=([0,0,1,0] : List Int)) (inner:=[.int .i64 0,.int .i64 0,.int .i64 1,.int .i64 0]) (ok:=fun _ => True) (okp:=fun _ => True) ?hr ?hp (fun _ hk => hk) trivial (Below.refl _ _) (Nat.le_refl _) (by simp) ?_;(case hd => rfl);(case hg => rfl);(case hr => first|(go_simp;done)|(go_simp;rfl));(case hp => exact (Reps.one (show Kd.M (Kd.int .i64) _ _ _ 0 [.int .i64 0] from rfl) (Reps.one (show Kd.M (Kd.int .i64) _ _ _ 0 [.int .i64 0] from rfl) (Reps.one (show Kd.M (Kd.int .i64) _ _ _ 1 [.int .i64 1] from rfl) (Reps.one (show Kd.M (Kd.int .i64) _ _ _ 0 [.int .i64 0] from rfl) (Reps.none _ _))))));intro v180 w6 ho7 hb hg_ hnew_;clear hg_ hnew_;(first|rw [← Ny179.out] at ho7|(simp only [Int.reduceToNat] at ho7;rw [← Ny179.out] at ho7));have n0_:=Aside0.mk (Kd.R_elder' (rU HO175.out) (Kd.R_base ho7) hb);have n1_:=Aside0.mk (Kd.R_elder' (rU HO178.out) (Kd.R_base ho7) hb);have n2_:=Aside0.mk (Kd.R_lower (Kd.R_new' (Kd.R_new' (Kd.R_newM (M:=fun k_ => (w.heap.size ≤ k_)) ho7 (below_size (belU HB.out)) (fun k_ h_ => h_)) (Kd.R_lt (rU HO175.out))) (Kd.R_lt (rU HO178.out))) (below_size (belU HB.out)));have n3_:=Aside0.mk (below_step (belU HB.out) hb);clear HO175 HO178 HB;have HO175:=n0_;have HO178:=n1_;have HO181:=n2_;have HB:=n3_;clear n0_ n1_ n2_ n3_ hb ho7)|((with_reducible refine gate_dst (N:=14) rfl ?_);(try (refine gate_guard (by rfl) ?_;dsimp only));refine Kd.R_lit (Kd.int .i64) _ 3 ?hg (N:=14) ?hd (xs:=([0,0,0,1] : List Int)) (inner:=[.int .i64 0,.int .i64 0,.int .i64 0,.int .i64 1]) (ok:=fun _ => True) (okp:=fun _ => True) ?hr ?hp (fun _ hk => hk) trivial (Below.refl _ _) (Nat.le_refl _) (by simp) ?_;(case hd => rfl);(case hg => rfl);(case hr => first|(go_simp;done)|(go_simp;rfl));(case hp => exact (Reps.one (show Kd.M (Kd.int .i64) _ _ _ 0 [.int .i64 0] from rfl) (Reps.one (show Kd.M (Kd.int .i64) _ _ _ 0 [.int .i64 0] from rfl) (Reps.one (show Kd.M (Kd.int .i64) _ _ _ 0 [.int .i64 0] from rfl) (Reps.one (show Kd.M (Kd.int .i64) _ _ _ 1 [.int .i64 1] from rfl) (Reps.none _ _))))));intro v183 w8 ho9 hb hg_ hnew_;clear hg_ hnew_;(first|rw [← Ny182.out] at ho9|(simp only [Int.reduceToNat] at ho9;rw [← Ny182.out] at ho9));have n0_:=Aside0.mk (Kd.R_elder' (rU HO175.out) (Kd.R_base ho9) hb);have n1_:=Aside0.mk (Kd.R_elder' (rU HO178.out) (Kd.R_base ho9) hb);have n2_:=Aside0.mk (Kd.R_elder' (rU HO181.out) (Kd.R_base ho9) hb);have n3_:=Aside0.mk (Kd.R_lower (Kd.R_new' (Kd.R_new' (Kd.R_new' (Kd.R_newM (M:=fun k_ => (w.heap.size ≤ k_)) ho9 (below_size (belU HB.out)) (fun k_ h_ => h_)) (Kd.R_lt (rU HO175.out))) (Kd.R_lt (rU HO178.out))) (Kd.R_lt (rU HO181.out))) (below_size (belU HB.out)));have n4_:=Aside0.mk (below_step (belU HB.out) hb);clear HO175 HO178 HO181 HB;have HO175:=n0_;have HO178:=n1_;have HO181:=n2_;have HO184:=n3_;have HB:=n4_;clear n0_ n1_ n2_ n3_ n4_ hb ho9;obtain ⟨Ao10,co10,eo10⟩:=Kd.R_slice HO175.out;subst eo10;obtain ⟨Ao11,co11,eo11⟩:=Kd.R_slice HO178.out;subst eo11;obtain ⟨Ao12,co12,eo12⟩:=Kd.R_slice HO181.out;subst eo12;obtain ⟨Ao13,co13,eo13⟩:=Kd.R_slice HO184.out;subst eo13)|((with_reducible refine gate_dst (N:=15) rfl ?_);(try (refine gate_guard (by rfl) ?_;dsimp only));refine Kd.N_lit (Kd.slice 3 (Kd.int .i64)) _ 35 ?hg (N':=15) ?hd (xs:=([y173,y176,y179,y182] : List (List Int))) (inner:=[.slice Ao10 y173.length co10,.slice Ao11 y176.length co11,.slice Ao12 y179.length co12,.slice Ao13 y182.length co13]) (ok:=(fun k_ => (w.heap.size ≤ k_))) (okp:=(fun k_ => (w.heap.size ≤ k_))) ?hr ?hp (fun _ hk => hk) ((show ∀ k_,w8.heap.size ≤ k_ → (fun k_ => (w.heap.size ≤ k_)) k_ from fun k_ hk => (Nat.le_trans (below_size (belU HB.out)) hk)) _ (Nat.le_refl _)) (Below.refl _ _) (Nat.le_refl _) (by simp) ?_;(case hd => rfl);(case hg => rfl);(case hr => first|(go_simp;done)|(go_simp;rfl));(case hp => exact (Reps.one (show Kd.FK (Kd.slice 3 (Kd.int .i64)) _ _ y173 [.slice Ao10 y173.length co10] from (Kd.FK_slice_mk (Kd.R_reads' (Kd.R_mono (ok':=(fun k_ => (w.heap.size ≤ k_))) (HO175.out) (fun k_ hk => hk.1.1.1.1))).2.1 (Kd.R_F (Kd.R_mono (ok':=(fun k_ => (w.heap.size ≤ k_))) (HO175.out) (fun k_ hk => hk.1.1.1.1))))) (Reps.one (show Kd.FK (Kd.slice 3 (Kd.int .i64)) _ _ y176 [.slice Ao11 y176.length co11] from (Kd.FK_slice_mk (Kd.R_reads' (Kd.R_mono (ok':=(fun k_ => (w.heap.size ≤ k_))) (HO178.out) (fun k_ hk => hk.1.1.1.1))).2.1 (Kd.R_F (Kd.R_mono (ok':=(fun k_ => (w.heap.size ≤ k_))) (HO178.out) (fun k_ hk => hk.1.1.1.1))))) (Reps.one (show Kd.FK (Kd.slice 3 (Kd.int .i64)) _ _ y179 [.slice Ao12 y179.length co12] from (Kd.FK_slice_mk (Kd.R_reads' (Kd.R_mono (ok':=(fun k_ => (w.heap.size ≤ k_))) (HO181.out) (fun k_ hk => hk.1.1.1.1))).2.1 (Kd.R_F (Kd.R_mono (ok':=(fun k_ => (w.heap.size ≤ k_))) (HO181.out) (fun k_ hk => hk.1.1.1.1))))) (Reps.one (show Kd.FK (Kd.slice 3 (Kd.int .i64)) _ _ y182 [.slice Ao13 y182.length co13] from (Kd.FK_slice_mk (Kd.R_reads' (Kd.R_mono (ok':=(fun k_ => (w.heap.size ≤ k_))) (HO184.out) (fun k_ hk => hk.1.1.1.1))).2.1 (Kd.R_F (Kd.R_mono (ok':=(fun k_ => (w.heap.size ≤ k_))) (HO184.out) (fun k_ hk => hk.1.1.1.1))))) (Reps.none _ _))))));intro v186 w14 ho15 hb hg_ hnew_;clear hg_ hnew_;(first|rw [← Ny185.out] at ho15|(simp only [Int.reduceToNat] at ho15;rw [← Ny185.out] at ho15));have n0_:=Aside0.mk (Kd.N_lower ho15 (below_size (belU HB.out)));have n1_:=Aside0.mk (below_step (belU HB.out) hb);clear HB HO175 HO178 HO181 HO184;have HO187:=n0_;have HB:=n1_;clear n0_ n1_ hb ho15));try go_wp2_with (first|((with_reducible refine gate_dst (N:=11) rfl ?_);(try (refine gate_guard (by rfl) ?_;dsimp only));refine Kd.R_lit (Kd.int .i64) _ 3 ?hg (N:=11) ?hd (xs:=([1,0,0,0] : List Int)) (inner:=[.int .i64 1,.int .i64 0,.int .i64 0,.int .i64 0]) (ok:=fun _ => True) (okp:=fun _ => True) ?hr ?hp (fun _ hk => hk) trivial (Below.refl _ _) (Nat.le_refl _) (by simp) ?_;(case hd => rfl);(case hg => rfl);(case hr => first|(go_simp;done)|(go_simp;rfl));(case hp => exact (Reps.one (show Kd.M (Kd.int .i64) _ _ _ 1 [.int .i64 1] from rfl) (Reps.one (show Kd.M (Kd.int .i64) _ _ _ 0 [.int .i64 0] from rfl) (Reps.one (show Kd.M (Kd.int .i64) _ _ _ 0 [.int .i64 0] from rfl) (Reps.one (show Kd.M (Kd.int .i64) _ _ _ 0 [.int .i64 0] from rfl) (Reps.none _ _))))));intro v174 w2 ho3 hb hg_ hnew_;clear hg_ hnew_;(first|rw [← Ny173.out] at ho3|(simp only [Int.reduceToNat] at ho3;rw [← Ny173.out] at ho3));have n0_:=Aside0.mk (Kd.R_lower (Kd.R_newM (M:=fun k_ => (w.heap.size ≤ k_)) ho3 (below_size (belU HB.out)) (fun k_ h_ => h_)) (below_size (belU HB.out)));have n1_:=Aside0.mk (below_step (belU HB.out) hb);clear HB;have HO175:=n0_;have HB:=n1_;clear n0_ n1_ hb ho3)|((with_reducible refine gate_dst (N:=12) rfl ?_);(try (refine gate_guard (by rfl) ?_;dsimp only));refine Kd.R_lit (Kd.int .i64) _ 3 ?hg (N:=12) ?hd (xs:=([0,1,0,0] : List Int)) (inner:=[.int .i64 0,.int .i64 1,.int .i64 0,.int .i64 0]) (ok:=fun _ => True) (okp:=fun _ => True) ?hr ?hp (fun _ hk => hk) trivial (Below.refl _ _) (Nat.le_refl _) (by simp) ?_;(case hd => rfl);(case hg => rfl);(case hr => first|(go_simp;done)|(go_simp;rfl));(case hp => exact (Reps.one (show Kd.M (Kd.int .i64) _ _ _ 0 [.int .i64 0] from rfl) (Reps.one (show Kd.M (Kd.int .i64) _ _ _ 1 [.int .i64 1] from rfl) (Reps.one (show Kd.M (Kd.int .i64) _ _ _ 0 [.int .i64 0] from rfl) (Reps.one (show Kd.M (Kd.int .i64) _ _ _ 0 [.int .i64 0] from rfl) (Reps.none _ _))))));intro v177 w4 ho5 hb hg_ hnew_;clear hg_ hnew_;(first|rw [← Ny176.out] at ho5|(simp only [Int.reduceToNat] at ho5;rw [← Ny176.out] at ho5));have n0_:=Aside0.mk (Kd.R_elder' (rU HO175.out) (Kd.R_base ho5) hb);have n1_:=Aside0.mk (Kd.R_lower (Kd.R_new' (Kd.R_newM (M:=fun k_ => (w.heap.size ≤ k_)) ho5 (below_size (belU HB.out)) (fun k_ h_ => h_)) (Kd.R_lt (rU HO175.out))) (below_size (belU HB.out)));have n2_:=Aside0.mk (below_step (belU HB.out) hb);clear HO175 HB;have HO175:=n0_;have HO178:=n1_;have HB:=n2_;clear n0_ n1_ n2_ hb ho5)|((with_reducible refine gate_dst (N:=13) rfl ?_);(try (refine gate_guard (by rfl) ?_;dsimp only));refine Kd.R_lit (Kd.int .i64) _ 3 ?hg (N:=13) ?hd (xs:=([0,0,1,0] : List Int)) (inner:=[.int .i64 0,.int .i64 0,.int .i64 1,.int .i64 0]) (ok:=fun _ => True) (okp:=fun _ => True) ?hr ?hp (fun _ hk => hk) trivial (Below.refl _ _) (Nat.le_refl _) (by simp) ?_;(case hd => rfl);(case hg => rfl);(case hr => first|(go_simp;done)|(go_simp;rfl));(case hp => exact (Reps.one (show Kd.M (Kd.int .i64) _ _ _ 0 [.int .i64 0] from rfl) (Reps.one (show Kd.M (Kd.int .i64) _ _ _ 0 [.int .i64 0] from rfl) (Reps.one (show Kd.M (Kd.int .i64) _ _ _ 1 [.int .i64 1] from rfl) (Reps.one (show Kd.M (Kd.int .i64) _ _ _ 0 [.int .i64 0] from rfl) (Reps.none _ _))))));intro v180 w6 ho7 hb hg_ hnew_;clear hg_ hnew_;(first|rw [← Ny179.out] at ho7|(simp only [Int.reduceToNat] at ho7;rw [← Ny179.out] at ho7));have n0_:=Aside0.mk (Kd.R_elder' (rU HO175.out) (Kd.R_base ho7) hb);have n1_:=Aside0.mk (Kd.R_elder' (rU HO178.out) (Kd.R_base ho7) hb);have n2_:=Aside0.mk (Kd.R_lower (Kd.R_new' (Kd.R_new' (Kd.R_newM (M:=fun k_ => (w.heap.size ≤ k_)) ho7 (below_size (belU HB.out)) (fun k_ h_ => h_)) (Kd.R_lt (rU HO175.out))) (Kd.R_lt (rU HO178.out))) (below_size (belU HB.out)));have n3_:=Aside0.mk (below_step (belU HB.out) hb);clear HO175 HO178 HB;have HO175:=n0_;have HO178:=n1_;have HO181:=n2_;have HB:=n3_;clear n0_ n1_ n2_ n3_ hb ho7)|((with_reducible refine gate_dst (N:=14) rfl ?_);(try (refine gate_guard (by rfl) ?_;dsimp only));refine Kd.R_lit (Kd.int .i64) _ 3 ?hg (N:=14) ?hd (xs:=([0,0,0,1] : List Int)) (inner:=[.int .i64 0,.int .i64 0,.int .i64 0,.int .i64 1]) (ok:=fun _ => True) (okp:=fun _ => True) ?hr ?hp (fun _ hk => hk) trivial (Below.refl _ _) (Nat.le_refl _) (by simp) ?_;(case hd => rfl);(case hg => rfl);(case hr => first|(go_simp;done)|(go_simp;rfl));(case hp => exact (Reps.one (show Kd.M (Kd.int .i64) _ _ _ 0 [.int .i64 0] from rfl) (Reps.one (show Kd.M (Kd.int .i64) _ _ _ 0 [.int .i64 0] from rfl) (Reps.one (show Kd.M (Kd.int .i64) _ _ _ 0 [.int .i64 0] from rfl) (Reps.one (show Kd.M (Kd.int .i64) _ _ _ 1 [.int .i64 1] from rfl) (Reps.none _ _))))));intro v183 w8 ho9 hb hg_ hnew_;clear hg_ hnew_;(first|rw [← Ny182.out] at ho9|(simp only [Int.reduceToNat] at ho9;rw [← Ny182.out] at ho9));have n0_:=Aside0.mk (Kd.R_elder' (rU HO175.out) (Kd.R_base ho9) hb);have n1_:=Aside0.mk (Kd.R_elder' (rU HO178.out) (Kd.R_base ho9) hb);have n2_:=Aside0.mk (Kd.R_elder' (rU HO181.out) (Kd.R_base ho9) hb);have n3_:=Aside0.mk (Kd.R_lower (Kd.R_new' (Kd.R_new' (Kd.R_new' (Kd.R_newM (M:=fun k_ => (w.heap.size ≤ k_)) ho9 (below_size (belU HB.out)) (fun k_ h_ => h_)) (Kd.R_lt (rU HO175.out))) (Kd.R_lt (rU HO178.out))) (Kd.R_lt (rU HO181.out))) (below_size (belU HB.out)));have n4_:=Aside0.mk (below_step (belU HB.out) hb);clear HO175 HO178 HO181 HB;have HO175:=n0_;have HO178:=n1_;have HO181:=n2_;have HO184:=n3_;have HB:=n4_;clear n0_ n1_ n2_ n3_ n4_ hb ho9;obtain ⟨Ao10,co10,eo10⟩:=Kd.R_slice HO175.out;subst eo10;obtain ⟨Ao11,co11,eo11⟩:=Kd.R_slice HO178.out;subst eo11;obtain ⟨Ao12,co12,eo12⟩:=Kd.R_slice HO181.out;subst eo12;obtain ⟨Ao13,co13,eo13⟩:=Kd.R_slice HO184.out;subst eo13)|((with_reducible refine gate_dst (N:=15) rfl ?_);(try (refine gate_guard (by rfl) ?_;dsimp only));refine Kd.N_lit (Kd.slice 3 (Kd.int .i64)) _ 35 ?hg (N':=15) ?hd (xs:=([y173,y176,y179,y182] : List (List Int))) (inner:=[.slice Ao10 y173.length co10,.slice Ao11 y176.length co11,.slice Ao12 y179.length co12,.slice Ao13 y182.length co13]) (ok:=(fun k_ => (w.heap.size ≤ k_))) (okp:=(fun k_ => (w.heap.size ≤ k_))) ?hr ?hp (fun _ hk => hk) ((show ∀ k_,w8.heap.size ≤ k_ → (fun k_ => (w.heap.size ≤ k_)) k_ from fun k_ hk => (Nat.le_trans (below_size (belU HB.out)) hk)) _ (Nat.le_refl _)) (Below.refl _ _) (Nat.le_refl _) (by simp) ?_;(case hd => rfl);(case hg => rfl);(case hr => first|(go_simp;done)|(go_simp;rfl));(case hp => exact (Reps.one (show Kd.FK (Kd.slice 3 (Kd.int .i64)) _ _ y173 [.slice Ao10 y173.length co10] from (Kd.FK_slice_mk (Kd.R_reads' (Kd.R_mono (ok':=(fun k_ => (w.heap.size ≤ k_))) (HO175.out) (fun k_ hk => hk.1.1.1.1))).2.1 (Kd.R_F (Kd.R_mono (ok':=(fun k_ => (w.heap.size ≤ k_))) (HO175.out) (fun k_ hk => hk.1.1.1.1))))) (Reps.one (show Kd.FK (Kd.slice 3 (Kd.int .i64)) _ _ y176 [.slice Ao11 y176.length co11] from (Kd.FK_slice_mk (Kd.R_reads' (Kd.R_mono (ok':=(fun k_ => (w.heap.size ≤ k_))) (HO178.out) (fun k_ hk => hk.1.1.1.1))).2.1 (Kd.R_F (Kd.R_mono (ok':=(fun k_ => (w.heap.size ≤ k_))) (HO178.out) (fun k_ hk => hk.1.1.1.1))))) (Reps.one (show Kd.FK (Kd.slice 3 (Kd.int .i64)) _ _ y179 [.slice Ao12 y179.length co12] from (Kd.FK_slice_mk (Kd.R_reads' (Kd.R_mono (ok':=(fun k_ => (w.heap.size ≤ k_))) (HO181.out) (fun k_ hk => hk.1.1.1.1))).2.1 (Kd.R_F (Kd.R_mono (ok':=(fun k_ => (w.heap.size ≤ k_))) (HO181.out) (fun k_ hk => hk.1.1.1.1))))) (Reps.one (show Kd.FK (Kd.slice 3 (Kd.int .i64)) _ _ y182 [.slice Ao13 y182.length co13] from (Kd.FK_slice_mk (Kd.R_reads' (Kd.R_mono (ok':=(fun k_ => (w.heap.size ≤ k_))) (HO184.out) (fun k_ hk => hk.1.1.1.1))).2.1 (Kd.R_F (Kd.R_mono (ok':=(fun k_ => (w.heap.size ≤ k_))) (HO184.out) (fun k_ hk => hk.1.1.1.1))))) (Reps.none _ _))))));intro v186 w14 ho15 hb hg_ hnew_;clear hg_ hnew_;(first|rw [← Ny185.out] at ho15|(simp only [Int.reduceToNat] at ho15;rw [← Ny185.out] at ho15));have n0_:=Aside0.mk (Kd.N_lower ho15 (below_size (belU HB.out)));have n1_:=Aside0.mk (below_step (belU HB.out) hb);clear HB HO175 HO178 HO181 HO184;have HO187:=n0_;have HB:=n1_;clear n0_ n1_ hb ho15)))
 go_loopg [3,4] k (fun kq v3 v4 w' => ∃ (x3_1 : List (List Int)) (x4_1 : Int),v4 = .int .i64 x4_1 ∧ Aside0 (spec_CornersOf.l0 kq l0 x3_1 x4_1 = some r) ∧ Aside0 (kq ≤ k) ∧ Aside0 (Kd.N (Kd.slice 3 (Kd.int .i64)) 35 w' w.heap.size (fun k_ => (w.heap.size ≤ k_)) v3 x3_1) ∧ Aside0 (Below w.heap.size w w'))
 case atStart => exact ⟨(y185),(0),(by first|rfl|(simp;done)|(simp [*];done)),H',⟨Nat.le_refl _⟩,⟨by (with_reducible repeat (first|apply Kd.N_alloc|apply Kd.N_drewN|apply Kd.N_drew));exact HO187.out⟩,⟨belU HB.out⟩⟩
 case round =>
  clear H'
  try clear c2
  try clear p2
  obtain ⟨x3_1,x4_1,rfl,HA,HK1,HO_3,HB⟩:=hrel
  cases gk with
  | zero => exact absurd HA.out (by simp [spec_CornersOf.l0])
  | succ k1 =>
   have H:=HA.out;clear HA
   simp only [spec_CornersOf.l0] at H
   by_cases c16 : x4_1 < (l0.length : Int)
   ·
    rw [if_pos c16] at H
    have c16b0 : decide (x4_1 < (l0.length : Int)) = true:=decide_eq_true c16;clear c16
    by_cases c17 : 0 ≤ x4_1
    ·
     rw [if_pos c17] at H
     have c17b0 : decide (0 ≤ x4_1) = true:=decide_eq_true c17;clear c17
     replace H:=Option.bind_eq_some_iff.mp H
     obtain ⟨t189,A180,H⟩:=H
     replace H : (if t189 = true then (if (l0.length : Int) > 6 then (some (([] : List (List Int)))) else ((spec_l6Row.f k1 ((rd_T29 l0 x4_1).f0) ((rd_T29 l0 x4_1).f1) ((rd_T29 l0 x4_1).f2)).bind fun bt194 => (if x3_1.length < 5864062014805 then (spec_CornersOf.l0 k1 l0 (x3_1 ++ [bt194.1]) (wrap64 (x4_1 + 1))) else (none)))) else (some (([] : List (List Int))))) = some r:=H
     have A18:=Aside0.mk A180;clear A180
     by_cases c19 : t189 = true
     ·
      subst c19
      have H1 : (if (l0.length : Int) > 6 then (some (([] : List (List Int)))) else ((spec_l6Row.f k1 ((rd_T29 l0 x4_1).f0) ((rd_T29 l0 x4_1).f1) ((rd_T29 l0 x4_1).f2)).bind fun bt194 => (if x3_1.length < 5864062014805 then (spec_CornersOf.l0 k1 l0 (x3_1 ++ [bt194.1]) (wrap64 (x4_1 + 1))) else (none)))) = some r:=by rw [if_pos rfl] at H;exact H
      clear H;have H:=H1;clear H1
      by_cases c20 : (l0.length : Int) > 6
      ·
       rw [if_pos c20] at H
       have c20b0 : decide (6 < (l0.length : Int)) = true:=decide_eq_true c20
       have c20b1 : decide (6 < l0.length) = true:=decide_eq_true (by omega);clear c20
       obtain ⟨y190,hy190⟩ : ∃ y_ : List (List Int),y_ = (([] : List (List Int))):=⟨_,rfl⟩
       replace H : (some y190) = some r:=by first|(rw [hy190];with_reducible exact H)|(have H2_:=(Option.bind_some _ _).symm.trans H;rw [hy190];with_reducible exact H2_)|(have H2_:=(Option.bind_some _ _).symm.trans H;with_reducible exact H2_)|with_reducible exact H|(rw [hy190];exact H)|exact H
       have Ny190:=Aside0.mk hy190;clear hy190
       obtain rfl:=Option.some.inj H
       have p188 : 0 ≤ (x4_1 : Int):=of_decide_eq_true (by first|(with_reducible assumption)|assumption)
       have q188 : x4_1 < (l0.length : Int):=of_decide_eq_true (by first|(with_reducible assumption)|assumption)
       obtain ⟨ad188,e188,hx188_0,hx188_1,hx188_2⟩:=at_T29 HR0.out x4_1 p188 q188
       cases e188
       replace hx188_0:=(HB.out.cell (World.block_lt_of_cell? w _ hx188_0)).trans hx188_0
       replace hx188_1:=(HB.out.cell (World.block_lt_of_cell? w _ hx188_1)).trans hx188_1
       replace hx188_2:=(HB.out.cell (World.block_lt_of_cell? w _ hx188_2)).trans hx188_2
       replace p188:=eq_true p188
       replace q188:=eq_true q188
       go_wp2_with (first|(go_at_call 34;(with_reducible refine (spec_WeighOk.calls ((rd_T29 l0 x4_1).f0) ((rd_T29 l0 x4_1).f1) ((rd_T29 l0 x4_1).f2) true _ A18.out).mono ?_);rintro e w21 ⟨rfl,hb⟩;have n0_:=Aside0.mk (Kd.N_below (by (with_reducible repeat (first|apply Kd.N_alloc|apply Kd.N_drewN|apply Kd.N_drew));exact HO_3.out) hb);have n1_:=Aside0.mk (below_step (belU HB.out) hb);clear HO_3 HB;have HO_3:=n0_;have HB:=n1_;clear n0_ n1_;(try clear hb);(try clear hb2);(try clear hk);(try clear hi))|((with_reducible refine gate_dst (N:=33) rfl ?_);(try (refine gate_guard (by rfl) ?_;dsimp only));refine Kd.N_lit (Kd.slice 3 (Kd.int .i64)) _ 35 ?hg (N':=33) ?hd (xs:=([] : List (List Int))) (inner:=[]) (ok:=(fun k_ => (w.heap.size ≤ k_) ∧ some k_ ≠ (u3 : Value).ownBlock)) (okp:=(fun k_ => (w.heap.size ≤ k_) ∧ some k_ ≠ (u3 : Value).ownBlock)) ?hr ?hp (fun _ hk => hk) ((show ∀ k_,w21.heap.size ≤ k_ → (fun k_ => (w.heap.size ≤ k_) ∧ some k_ ≠ (u3 : Value).ownBlock) k_ from fun k_ hk => ⟨(Nat.le_trans (below_size (belU HB.out)) hk),Kd.fresh' (Kd.N_lt (by (with_reducible repeat (first|apply Kd.N_alloc|apply Kd.N_drewN|apply Kd.N_drew));exact HO_3.out)) k_ hk⟩) _ (Nat.le_refl _)) (Below.refl _ _) (Nat.le_refl _) (by simp) ?_;(case hd => rfl);(case hg => rfl);(case hr => first|(go_simp;done)|(go_simp;rfl));(case hp => exact (Reps.none _ _));intro v191 w22 ho23 hb hg_ hnew_;clear hg_ hnew_;(first|rw [← Ny190.out] at ho23|(simp only [Int.reduceToNat] at ho23;rw [← Ny190.out] at ho23));have n0_:=Aside0.mk (Kd.N_elder' (by (with_reducible repeat (first|apply Kd.N_alloc|apply Kd.N_drewN|apply Kd.N_drew));exact HO_3.out) (Kd.N_base ho23) hb);have n1_:=Aside0.mk (Kd.N_lower ho23 (below_size (belU HB.out)));have n2_:=Aside0.mk (below_step (belU HB.out) hb);clear HO_3 HB;have HO_3:=n0_;have HO192:=n1_;have HB:=n2_;clear n0_ n1_ n2_ hb ho23))
       repeat (go_quiet (first|(go_at_call 34;(with_reducible refine (spec_WeighOk.calls ((rd_T29 l0 x4_1).f0) ((rd_T29 l0 x4_1).f1) ((rd_T29 l0 x4_1).f2) true _ A18.out).mono ?_);rintro e w21 ⟨rfl,hb⟩;have n0_:=Aside0.mk (Kd.N_below (by (with_reducible repeat (first|apply Kd.N_alloc|apply Kd.N_drewN|apply Kd.N_drew));exact HO_3.out) hb);have n1_:=Aside0.mk (below_step (belU HB.out) hb);clear HO_3 HB;have HO_3:=n0_;have HB:=n1_;clear n0_ n1_;(try clear hb);(try clear hb2);(try clear hk);(try clear hi))|((with_reducible refine gate_dst (N:=33) rfl ?_);(try (refine gate_guard (by rfl) ?_;dsimp only));refine Kd.N_lit (Kd.slice 3 (Kd.int .i64)) _ 35 ?hg (N':=33) ?hd (xs:=([] : List (List Int))) (inner:=[]) (ok:=(fun k_ => (w.heap.size ≤ k_) ∧ some k_ ≠ (u3 : Value).ownBlock)) (okp:=(fun k_ => (w.heap.size ≤ k_) ∧ some k_ ≠ (u3 : Value).ownBlock)) ?hr ?hp (fun _ hk => hk) ((show ∀ k_,w21.heap.size ≤ k_ → (fun k_ => (w.heap.size ≤ k_) ∧ some k_ ≠ (u3 : Value).ownBlock) k_ from fun k_ hk => ⟨(Nat.le_trans (below_size (belU HB.out)) hk),Kd.fresh' (Kd.N_lt (by (with_reducible repeat (first|apply Kd.N_alloc|apply Kd.N_drewN|apply Kd.N_drew));exact HO_3.out)) k_ hk⟩) _ (Nat.le_refl _)) (Below.refl _ _) (Nat.le_refl _) (by simp) ?_;(case hd => rfl);(case hg => rfl);(case hr => first|(go_simp;done)|(go_simp;rfl));(case hp => exact (Reps.none _ _));intro v191 w22 ho23 hb hg_ hnew_;clear hg_ hnew_;(first|rw [← Ny190.out] at ho23|(simp only [Int.reduceToNat] at ho23;rw [← Ny190.out] at ho23));have n0_:=Aside0.mk (Kd.N_elder' (by (with_reducible repeat (first|apply Kd.N_alloc|apply Kd.N_drewN|apply Kd.N_drew));exact HO_3.out) (Kd.N_base ho23) hb);have n1_:=Aside0.mk (Kd.N_lower ho23 (below_size (belU HB.out)));have n2_:=Aside0.mk (below_step (belU HB.out) hb);clear HO_3 HB;have HO_3:=n0_;have HO192:=n1_;have HB:=n2_;clear n0_ n1_ n2_ hb ho23));try go_wp2_with (first|(go_at_call 34;(with_reducible refine (spec_WeighOk.calls ((rd_T29 l0 x4_1).f0) ((rd_T29 l0 x4_1).f1) ((rd_T29 l0 x4_1).f2) true _ A18.out).mono ?_);rintro e w21 ⟨rfl,hb⟩;have n0_:=Aside0.mk (Kd.N_below (by (with_reducible repeat (first|apply Kd.N_alloc|apply Kd.N_drewN|apply Kd.N_drew));exact HO_3.out) hb);have n1_:=Aside0.mk (below_step (belU HB.out) hb);clear HO_3 HB;have HO_3:=n0_;have HB:=n1_;clear n0_ n1_;(try clear hb);(try clear hb2);(try clear hk);(try clear hi))|((with_reducible refine gate_dst (N:=33) rfl ?_);(try (refine gate_guard (by rfl) ?_;dsimp only));refine Kd.N_lit (Kd.slice 3 (Kd.int .i64)) _ 35 ?hg (N':=33) ?hd (xs:=([] : List (List Int))) (inner:=[]) (ok:=(fun k_ => (w.heap.size ≤ k_) ∧ some k_ ≠ (u3 : Value).ownBlock)) (okp:=(fun k_ => (w.heap.size ≤ k_) ∧ some k_ ≠ (u3 : Value).ownBlock)) ?hr ?hp (fun _ hk => hk) ((show ∀ k_,w21.heap.size ≤ k_ → (fun k_ => (w.heap.size ≤ k_) ∧ some k_ ≠ (u3 : Value).ownBlock) k_ from fun k_ hk => ⟨(Nat.le_trans (below_size (belU HB.out)) hk),Kd.fresh' (Kd.N_lt (by (with_reducible repeat (first|apply Kd.N_alloc|apply Kd.N_drewN|apply Kd.N_drew));exact HO_3.out)) k_ hk⟩) _ (Nat.le_refl _)) (Below.refl _ _) (Nat.le_refl _) (by simp) ?_;(case hd => rfl);(case hg => rfl);(case hr => first|(go_simp;done)|(go_simp;rfl));(case hp => exact (Reps.none _ _));intro v191 w22 ho23 hb hg_ hnew_;clear hg_ hnew_;(first|rw [← Ny190.out] at ho23|(simp only [Int.reduceToNat] at ho23;rw [← Ny190.out] at ho23));have n0_:=Aside0.mk (Kd.N_elder' (by (with_reducible repeat (first|apply Kd.N_alloc|apply Kd.N_drewN|apply Kd.N_drew));exact HO_3.out) (Kd.N_base ho23) hb);have n1_:=Aside0.mk (Kd.N_lower ho23 (below_size (belU HB.out)));have n2_:=Aside0.mk (below_step (belU HB.out) hb);clear HO_3 HB;have HO_3:=n0_;have HO192:=n1_;have HB:=n2_;clear n0_ n1_ n2_ hb ho23)))
       go_ret
       exact ⟨_,by first|rfl|(simp [errW_none,errW_some] <;> rfl)|(simp [*,errW_none,errW_some] <;> rfl),by (with_reducible repeat (first|apply Kd.N_alloc|apply Kd.N_drewN|apply Kd.N_drew));exact Kd.N_mono HO192.out (fun _ hk => hk.1),belU HB.out⟩
      ·
       rw [if_neg c20] at H
       have c20b0 : decide (6 < (l0.length : Int)) = false:=decide_eq_false c20
       have c20b1 : decide (6 < l0.length) = false:=decide_eq_false (by omega);clear c20
       replace H:=Option.bind_eq_some_iff.mp H
       obtain ⟨⟨t194,t197⟩,A240,H⟩:=H
       replace H : (if x3_1.length < 5864062014805 then (spec_CornersOf.l0 k1 l0 (x3_1 ++ [t194]) (wrap64 (x4_1 + 1))) else (none)) = some r:=H
       have A24:=Aside0.mk A240;clear A240
       by_cases c25 : x3_1.length < 5864062014805
       ·
        rw [if_pos c25] at H
        have LMc25:=Aside0.mk c25;clear c25
        obtain ⟨y198,hy198⟩ : ∃ y_ : List (List Int),y_ = (x3_1 ++ [t194]):=⟨_,rfl⟩
        replace H : (spec_CornersOf.l0 k1 l0 y198 (wrap64 (x4_1 + 1))) = some r:=by first|(rw [hy198];with_reducible exact H)|(have H2_:=(Option.bind_some _ _).symm.trans H;rw [hy198];with_reducible exact H2_)|(have H2_:=(Option.bind_some _ _).symm.trans H;with_reducible exact H2_)|with_reducible exact H|(rw [hy198];exact H)|exact H
        have Ny198:=Aside0.mk hy198;clear hy198
        have H':=Aside0.mk H;clear H
        have p188 : 0 ≤ (x4_1 : Int):=of_decide_eq_true (by first|(with_reducible assumption)|assumption)
        have q188 : x4_1 < (l0.length : Int):=of_decide_eq_true (by first|(with_reducible assumption)|assumption)
        obtain ⟨ad188,e188,hx188_0,hx188_1,hx188_2⟩:=at_T29 HR0.out x4_1 p188 q188
        cases e188
        replace hx188_0:=(HB.out.cell (World.block_lt_of_cell? w _ hx188_0)).trans hx188_0
        replace hx188_1:=(HB.out.cell (World.block_lt_of_cell? w _ hx188_1)).trans hx188_1
        replace hx188_2:=(HB.out.cell (World.block_lt_of_cell? w _ hx188_2)).trans hx188_2
        replace p188:=eq_true p188
        replace q188:=eq_true q188
        go_wp2_with (first|(go_at_call 34;(with_reducible refine (spec_WeighOk.calls ((rd_T29 l0 x4_1).f0) ((rd_T29 l0 x4_1).f1) ((rd_T29 l0 x4_1).f2) true _ A18.out).mono ?_);rintro e w26 ⟨rfl,hb⟩;have n0_:=Aside0.mk (Kd.N_below (by (with_reducible repeat (first|apply Kd.N_alloc|apply Kd.N_drewN|apply Kd.N_drew));exact HO_3.out) hb);have n1_:=Aside0.mk (below_step (belU HB.out) hb);clear HO_3 HB;have HO_3:=n0_;have HB:=n1_;clear n0_ n1_;(try clear hb);(try clear hb2);(try clear hk);(try clear hi);have p193 : 0 ≤ (x4_1 : Int):=of_decide_eq_true (by first|(with_reducible assumption)|assumption);have q193 : x4_1 < (l0.length : Int):=of_decide_eq_true (by first|(with_reducible assumption)|assumption);obtain ⟨ad193,e193,hx193_0,hx193_1,hx193_2⟩:=at_T29 HR0.out x4_1 p193 q193;obtain rfl : ad188 = ad193:=(by injection e193);replace hx193_0:=(HB.out.cell (World.block_lt_of_cell? w _ hx193_0)).trans hx193_0;replace hx193_1:=(HB.out.cell (World.block_lt_of_cell? w _ hx193_1)).trans hx193_1;replace hx193_2:=(HB.out.cell (World.block_lt_of_cell? w _ hx193_2)).trans hx193_2;replace p193:=eq_true p193;replace q193:=eq_true q193)|(go_at_call 52;(with_reducible refine (spec_l6Row.calls k1 ((rd_T29 l0 x4_1).f0) ((rd_T29 l0 x4_1).f1) ((rd_T29 l0 x4_1).f2) t194 t197 _ A24.out).mono ?_);rintro e w27 ⟨v195,rfl,ho0,hb⟩;have n0_:=Aside0.mk (Kd.N_elder' (by (with_reducible repeat (first|apply Kd.N_alloc|apply Kd.N_drewN|apply Kd.N_drew));exact HO_3.out) (Kd.R_base ho0) hb);have n1_:=Aside0.mk (Kd.R_lower (Kd.R_newM (M:=fun k_ => (w.heap.size ≤ k_)) ho0 (below_size (belU HB.out)) (fun k_ h_ => h_)) (below_size (belU HB.out)));have n2_:=Aside0.mk (below_step (belU HB.out) hb);clear HO_3 HB;have HO_3:=n0_;have HO196:=n1_;have HB:=n2_;clear n0_ n1_ n2_;(try clear hb);(try clear hb2);(try clear hk);(try clear hi);(try clear ho0);obtain ⟨Ao29,co29,eo29⟩:=Kd.R_slice HO196.out;subst eo29)|((with_reducible refine gate_builtin (b:=.append) (xs:=#[.tmp 42,.tmp 44]) rfl ?_);(try (refine gate_guard (by rfl) ?_;dsimp only));at_builtin;refine Kd.N_append (Kd.slice 3 (Kd.int .i64)) (w0:=w) w.heap.size rfl (.tmp 42) (.tmp 44) 45 35 (.slice none 0 0) 24 rfl Try.underlying45 info35 rfl (by decide) (by omega) u3 x3_1 t194 [.slice Ao29 t194.length co29] (fun k_ => (w.heap.size ≤ k_)) (fun k_ => ((fun k_ => (w.heap.size ≤ k_))) k_ ∧ some k_ ≠ (u3 : Value).ownBlock) rfl rfl ?aP (fun _ hk => hk) ?aF ?aO ?aB ?aS ?aL ?_;(case aP => exact (Kd.FK_slice_mk (Kd.R_reads' (Kd.R_mono (ok':=(fun k_ => ((fun k_ => (w.heap.size ≤ k_))) k_ ∧ some k_ ≠ (u3 : Value).ownBlock)) (Kd.R_apart' (HO196.out) (Kd.N_typed HO_3.out) (by decide)) (fun k_ hk => ⟨hk.1.1,hk.2⟩))).2.1 (Kd.R_F (Kd.R_mono (ok':=(fun k_ => ((fun k_ => (w.heap.size ≤ k_))) k_ ∧ some k_ ≠ (u3 : Value).ownBlock)) (Kd.R_apart' (HO196.out) (Kd.N_typed HO_3.out) (by decide)) (fun k_ hk => ⟨hk.1.1,hk.2⟩)))));(case aB => exact (belU HB.out));(case aF => exact (fun k_ hk => (Nat.le_trans (below_size (belU HB.out)) hk)));(case aO => exact (by (with_reducible repeat (first|apply Kd.N_alloc|apply Kd.N_drewN|apply Kd.N_drew));exact Kd.N_mono HO_3.out (fun _ hk => hk.1)));(case aS => exact (below_size (belU HB.out)));(case aL => have:=LMc25.out;omega);intro v199 w28 ho hb hg hat;rw [← Ny198.out] at ho;have n0_:=Aside0.mk (hb);have n1_:=Aside0.mk (ho);clear HB HO_3 HO196;have HB:=n0_;have HO200:=n1_;clear n0_ n1_ ho hb hg hat))
        repeat (go_quiet (first|(go_at_call 34;(with_reducible refine (spec_WeighOk.calls ((rd_T29 l0 x4_1).f0) ((rd_T29 l0 x4_1).f1) ((rd_T29 l0 x4_1).f2) true _ A18.out).mono ?_);rintro e w26 ⟨rfl,hb⟩;have n0_:=Aside0.mk (Kd.N_below (by (with_reducible repeat (first|apply Kd.N_alloc|apply Kd.N_drewN|apply Kd.N_drew));exact HO_3.out) hb);have n1_:=Aside0.mk (below_step (belU HB.out) hb);clear HO_3 HB;have HO_3:=n0_;have HB:=n1_;clear n0_ n1_;(try clear hb);(try clear hb2);(try clear hk);(try clear hi);have p193 : 0 ≤ (x4_1 : Int):=of_decide_eq_true (by first|(with_reducible assumption)|assumption);have q193 : x4_1 < (l0.length : Int):=of_decide_eq_true (by first|(with_reducible assumption)|assumption);obtain ⟨ad193,e193,hx193_0,hx193_1,hx193_2⟩:=at_T29 HR0.out x4_1 p193 q193;obtain rfl : ad188 = ad193:=(by injection e193);replace hx193_0:=(HB.out.cell (World.block_lt_of_cell? w _ hx193_0)).trans hx193_0;replace hx193_1:=(HB.out.cell (World.block_lt_of_cell? w _ hx193_1)).trans hx193_1;replace hx193_2:=(HB.out.cell (World.block_lt_of_cell? w _ hx193_2)).trans hx193_2;replace p193:=eq_true p193;replace q193:=eq_true q193)|(go_at_call 52;(with_reducible refine (spec_l6Row.calls k1 ((rd_T29 l0 x4_1).f0) ((rd_T29 l0 x4_1).f1) ((rd_T29 l0 x4_1).f2) t194 t197 _ A24.out).mono ?_);rintro e w27 ⟨v195,rfl,ho0,hb⟩;have n0_:=Aside0.mk (Kd.N_elder' (by (with_reducible repeat (first|apply Kd.N_alloc|apply Kd.N_drewN|apply Kd.N_drew));exact HO_3.out) (Kd.R_base ho0) hb);have n1_:=Aside0.mk (Kd.R_lower (Kd.R_newM (M:=fun k_ => (w.heap.size ≤ k_)) ho0 (below_size (belU HB.out)) (fun k_ h_ => h_)) (below_size (belU HB.out)));have n2_:=Aside0.mk (below_step (belU HB.out) hb);clear HO_3 HB;have HO_3:=n0_;have HO196:=n1_;have HB:=n2_;clear n0_ n1_ n2_;(try clear hb);(try clear hb2);(try clear hk);(try clear hi);(try clear ho0);obtain ⟨Ao29,co29,eo29⟩:=Kd.R_slice HO196.out;subst eo29)|((with_reducible refine gate_builtin (b:=.append) (xs:=#[.tmp 42,.tmp 44]) rfl ?_);(try (refine gate_guard (by rfl) ?_;dsimp only));at_builtin;refine Kd.N_append (Kd.slice 3 (Kd.int .i64)) (w0:=w) w.heap.size rfl (.tmp 42) (.tmp 44) 45 35 (.slice none 0 0) 24 rfl Try.underlying45 info35 rfl (by decide) (by omega) u3 x3_1 t194 [.slice Ao29 t194.length co29] (fun k_ => (w.heap.size ≤ k_)) (fun k_ => ((fun k_ => (w.heap.size ≤ k_))) k_ ∧ some k_ ≠ (u3 : Value).ownBlock) rfl rfl ?aP (fun _ hk => hk) ?aF ?aO ?aB ?aS ?aL ?_;(case aP => exact (Kd.FK_slice_mk (Kd.R_reads' (Kd.R_mono (ok':=(fun k_ => ((fun k_ => (w.heap.size ≤ k_))) k_ ∧ some k_ ≠ (u3 : Value).ownBlock)) (Kd.R_apart' (HO196.out) (Kd.N_typed HO_3.out) (by decide)) (fun k_ hk => ⟨hk.1.1,hk.2⟩))).2.1 (Kd.R_F (Kd.R_mono (ok':=(fun k_ => ((fun k_ => (w.heap.size ≤ k_))) k_ ∧ some k_ ≠ (u3 : Value).ownBlock)) (Kd.R_apart' (HO196.out) (Kd.N_typed HO_3.out) (by decide)) (fun k_ hk => ⟨hk.1.1,hk.2⟩)))));(case aB => exact (belU HB.out));(case aF => exact (fun k_ hk => (Nat.le_trans (below_size (belU HB.out)) hk)));(case aO => exact (by (with_reducible repeat (first|apply Kd.N_alloc|apply Kd.N_drewN|apply Kd.N_drew));exact Kd.N_mono HO_3.out (fun _ hk => hk.1)));(case aS => exact (below_size (belU HB.out)));(case aL => have:=LMc25.out;omega);intro v199 w28 ho hb hg hat;rw [← Ny198.out] at ho;have n0_:=Aside0.mk (hb);have n1_:=Aside0.mk (ho);clear HB HO_3 HO196;have HB:=n0_;have HO200:=n1_;clear n0_ n1_ ho hb hg hat));try go_wp2_with (first|(go_at_call 34;(with_reducible refine (spec_WeighOk.calls ((rd_T29 l0 x4_1).f0) ((rd_T29 l0 x4_1).f1) ((rd_T29 l0 x4_1).f2) true _ A18.out).mono ?_);rintro e w26 ⟨rfl,hb⟩;have n0_:=Aside0.mk (Kd.N_below (by (with_reducible repeat (first|apply Kd.N_alloc|apply Kd.N_drewN|apply Kd.N_drew));exact HO_3.out) hb);have n1_:=Aside0.mk (below_step (belU HB.out) hb);clear HO_3 HB;have HO_3:=n0_;have HB:=n1_;clear n0_ n1_;(try clear hb);(try clear hb2);(try clear hk);(try clear hi);have p193 : 0 ≤ (x4_1 : Int):=of_decide_eq_true (by first|(with_reducible assumption)|assumption);have q193 : x4_1 < (l0.length : Int):=of_decide_eq_true (by first|(with_reducible assumption)|assumption);obtain ⟨ad193,e193,hx193_0,hx193_1,hx193_2⟩:=at_T29 HR0.out x4_1 p193 q193;obtain rfl : ad188 = ad193:=(by injection e193);replace hx193_0:=(HB.out.cell (World.block_lt_of_cell? w _ hx193_0)).trans hx193_0;replace hx193_1:=(HB.out.cell (World.block_lt_of_cell? w _ hx193_1)).trans hx193_1;replace hx193_2:=(HB.out.cell (World.block_lt_of_cell? w _ hx193_2)).trans hx193_2;replace p193:=eq_true p193;replace q193:=eq_true q193)|(go_at_call 52;(with_reducible refine (spec_l6Row.calls k1 ((rd_T29 l0 x4_1).f0) ((rd_T29 l0 x4_1).f1) ((rd_T29 l0 x4_1).f2) t194 t197 _ A24.out).mono ?_);rintro e w27 ⟨v195,rfl,ho0,hb⟩;have n0_:=Aside0.mk (Kd.N_elder' (by (with_reducible repeat (first|apply Kd.N_alloc|apply Kd.N_drewN|apply Kd.N_drew));exact HO_3.out) (Kd.R_base ho0) hb);have n1_:=Aside0.mk (Kd.R_lower (Kd.R_newM (M:=fun k_ => (w.heap.size ≤ k_)) ho0 (below_size (belU HB.out)) (fun k_ h_ => h_)) (below_size (belU HB.out)));have n2_:=Aside0.mk (below_step (belU HB.out) hb);clear HO_3 HB;have HO_3:=n0_;have HO196:=n1_;have HB:=n2_;clear n0_ n1_ n2_;(try clear hb);(try clear hb2);(try clear hk);(try clear hi);(try clear ho0);obtain ⟨Ao29,co29,eo29⟩:=Kd.R_slice HO196.out;subst eo29)|((with_reducible refine gate_builtin (b:=.append) (xs:=#[.tmp 42,.tmp 44]) rfl ?_);(try (refine gate_guard (by rfl) ?_;dsimp only));at_builtin;refine Kd.N_append (Kd.slice 3 (Kd.int .i64)) (w0:=w) w.heap.size rfl (.tmp 42) (.tmp 44) 45 35 (.slice none 0 0) 24 rfl Try.underlying45 info35 rfl (by decide) (by omega) u3 x3_1 t194 [.slice Ao29 t194.length co29] (fun k_ => (w.heap.size ≤ k_)) (fun k_ => ((fun k_ => (w.heap.size ≤ k_))) k_ ∧ some k_ ≠ (u3 : Value).ownBlock) rfl rfl ?aP (fun _ hk => hk) ?aF ?aO ?aB ?aS ?aL ?_;(case aP => exact (Kd.FK_slice_mk (Kd.R_reads' (Kd.R_mono (ok':=(fun k_ => ((fun k_ => (w.heap.size ≤ k_))) k_ ∧ some k_ ≠ (u3 : Value).ownBlock)) (Kd.R_apart' (HO196.out) (Kd.N_typed HO_3.out) (by decide)) (fun k_ hk => ⟨hk.1.1,hk.2⟩))).2.1 (Kd.R_F (Kd.R_mono (ok':=(fun k_ => ((fun k_ => (w.heap.size ≤ k_))) k_ ∧ some k_ ≠ (u3 : Value).ownBlock)) (Kd.R_apart' (HO196.out) (Kd.N_typed HO_3.out) (by decide)) (fun k_ hk => ⟨hk.1.1,hk.2⟩)))));(case aB => exact (belU HB.out));(case aF => exact (fun k_ hk => (Nat.le_trans (below_size (belU HB.out)) hk)));(case aO => exact (by (with_reducible repeat (first|apply Kd.N_alloc|apply Kd.N_drewN|apply Kd.N_drew));exact Kd.N_mono HO_3.out (fun _ hk => hk.1)));(case aS => exact (below_size (belU HB.out)));(case aL => have:=LMc25.out;omega);intro v199 w28 ho hb hg hat;rw [← Ny198.out] at ho;have n0_:=Aside0.mk (hb);have n1_:=Aside0.mk (ho);clear HB HO_3 HO196;have HB:=n0_;have HO200:=n1_;clear n0_ n1_ ho hb hg hat)))
        go_roundg k1
        case measure => have:=HK1.out;omega
        case rel => exact ⟨(y198),(wrap64 (x4_1 + 1)),(by first|rfl|(simp;done)|(simp [*];done)),H',⟨by have:=HK1.out;omega⟩,⟨by (with_reducible repeat (first|apply Kd.N_alloc|apply Kd.N_drewN|apply Kd.N_drew));exact HO200.out⟩,⟨belU HB.out⟩⟩
       ·
        rw [if_neg c25] at H
        exact absurd H (by simp)
     ·
      replace c19:=Bool.eq_false_iff.mpr c19;subst c19
      have H1 : (some (([] : List (List Int)))) = some r:=by rw [if_neg (show ¬ (false = true) by decide)] at H;exact H
      clear H;have H:=H1;clear H1
      obtain ⟨y201,hy201⟩ : ∃ y_ : List (List Int),y_ = (([] : List (List Int))):=⟨_,rfl⟩
      replace H : (some y201) = some r:=by first|(rw [hy201];with_reducible exact H)|(have H2_:=(Option.bind_some _ _).symm.trans H;rw [hy201];with_reducible exact H2_)|(have H2_:=(Option.bind_some _ _).symm.trans H;with_reducible exact H2_)|with_reducible exact H|(rw [hy201];exact H)|exact H
      have Ny201:=Aside0.mk hy201;clear hy201
      obtain rfl:=Option.some.inj H
      have p188 : 0 ≤ (x4_1 : Int):=of_decide_eq_true (by first|(with_reducible assumption)|assumption)
      have q188 : x4_1 < (l0.length : Int):=of_decide_eq_true (by first|(with_reducible assumption)|assumption)
      obtain ⟨ad188,e188,hx188_0,hx188_1,hx188_2⟩:=at_T29 HR0.out x4_1 p188 q188
      cases e188
      replace hx188_0:=(HB.out.cell (World.block_lt_of_cell? w _ hx188_0)).trans hx188_0
      replace hx188_1:=(HB.out.cell (World.block_lt_of_cell? w _ hx188_1)).trans hx188_1
      replace hx188_2:=(HB.out.cell (World.block_lt_of_cell? w _ hx188_2)).trans hx188_2
      replace p188:=eq_true p188
      replace q188:=eq_true q188
      go_wp2_with (first|(go_at_call 34;(with_reducible refine (spec_WeighOk.calls ((rd_T29 l0 x4_1).f0) ((rd_T29 l0 x4_1).f1) ((rd_T29 l0 x4_1).f2) false _ A18.out).mono ?_);rintro e w30 ⟨rfl,hb⟩;have n0_:=Aside0.mk (Kd.N_below (by (with_reducible repeat (first|apply Kd.N_alloc|apply Kd.N_drewN|apply Kd.N_drew));exact HO_3.out) hb);have n1_:=Aside0.mk (below_step (belU HB.out) hb);clear HO_3 HB;have HO_3:=n0_;have HB:=n1_;clear n0_ n1_;(try clear hb);(try clear hb2);(try clear hk);(try clear hi))|((with_reducible refine gate_dst (N:=33) rfl ?_);(try (refine gate_guard (by rfl) ?_;dsimp only));refine Kd.N_lit (Kd.slice 3 (Kd.int .i64)) _ 35 ?hg (N':=33) ?hd (xs:=([] : List (List Int))) (inner:=[]) (ok:=(fun k_ => (w.heap.size ≤ k_) ∧ some k_ ≠ (u3 : Value).ownBlock)) (okp:=(fun k_ => (w.heap.size ≤ k_) ∧ some k_ ≠ (u3 : Value).ownBlock)) ?hr ?hp (fun _ hk => hk) ((show ∀ k_,w30.heap.size ≤ k_ → (fun k_ => (w.heap.size ≤ k_) ∧ some k_ ≠ (u3 : Value).ownBlock) k_ from fun k_ hk => ⟨(Nat.le_trans (below_size (belU HB.out)) hk),Kd.fresh' (Kd.N_lt (by (with_reducible repeat (first|apply Kd.N_alloc|apply Kd.N_drewN|apply Kd.N_drew));exact HO_3.out)) k_ hk⟩) _ (Nat.le_refl _)) (Below.refl _ _) (Nat.le_refl _) (by simp) ?_;(case hd => rfl);(case hg => rfl);(case hr => first|(go_simp;done)|(go_simp;rfl));(case hp => exact (Reps.none _ _));intro v202 w31 ho32 hb hg_ hnew_;clear hg_ hnew_;(first|rw [← Ny201.out] at ho32|(simp only [Int.reduceToNat] at ho32;rw [← Ny201.out] at ho32));have n0_:=Aside0.mk (Kd.N_elder' (by (with_reducible repeat (first|apply Kd.N_alloc|apply Kd.N_drewN|apply Kd.N_drew));exact HO_3.out) (Kd.N_base ho32) hb);have n1_:=Aside0.mk (Kd.N_lower ho32 (below_size (belU HB.out)));have n2_:=Aside0.mk (below_step (belU HB.out) hb);clear HO_3 HB;have HO_3:=n0_;have HO203:=n1_;have HB:=n2_;clear n0_ n1_ n2_ hb ho32))
      repeat (go_quiet (first|(go_at_call 34;(with_reducible refine (spec_WeighOk.calls ((rd_T29 l0 x4_1).f0) ((rd_T29 l0 x4_1).f1) ((rd_T29 l0 x4_1).f2) false _ A18.out).mono ?_);rintro e w30 ⟨rfl,hb⟩;have n0_:=Aside0.mk (Kd.N_below (by (with_reducible repeat (first|apply Kd.N_alloc|apply Kd.N_drewN|apply Kd.N_drew));exact HO_3.out) hb);have n1_:=Aside0.mk (below_step (belU HB.out) hb);clear HO_3 HB;have HO_3:=n0_;have HB:=n1_;clear n0_ n1_;(try clear hb);(try clear hb2);(try clear hk);(try clear hi))|((with_reducible refine gate_dst (N:=33) rfl ?_);(try (refine gate_guard (by rfl) ?_;dsimp only));refine Kd.N_lit (Kd.slice 3 (Kd.int .i64)) _ 35 ?hg (N':=33) ?hd (xs:=([] : List (List Int))) (inner:=[]) (ok:=(fun k_ => (w.heap.size ≤ k_) ∧ some k_ ≠ (u3 : Value).ownBlock)) (okp:=(fun k_ => (w.heap.size ≤ k_) ∧ some k_ ≠ (u3 : Value).ownBlock)) ?hr ?hp (fun _ hk => hk) ((show ∀ k_,w30.heap.size ≤ k_ → (fun k_ => (w.heap.size ≤ k_) ∧ some k_ ≠ (u3 : Value).ownBlock) k_ from fun k_ hk => ⟨(Nat.le_trans (below_size (belU HB.out)) hk),Kd.fresh' (Kd.N_lt (by (with_reducible repeat (first|apply Kd.N_alloc|apply Kd.N_drewN|apply Kd.N_drew));exact HO_3.out)) k_ hk⟩) _ (Nat.le_refl _)) (Below.refl _ _) (Nat.le_refl _) (by simp) ?_;(case hd => rfl);(case hg => rfl);(case hr => first|(go_simp;done)|(go_simp;rfl));(case hp => exact (Reps.none _ _));intro v202 w31 ho32 hb hg_ hnew_;clear hg_ hnew_;(first|rw [← Ny201.out] at ho32|(simp only [Int.reduceToNat] at ho32;rw [← Ny201.out] at ho32));have n0_:=Aside0.mk (Kd.N_elder' (by (with_reducible repeat (first|apply Kd.N_alloc|apply Kd.N_drewN|apply Kd.N_drew));exact HO_3.out) (Kd.N_base ho32) hb);have n1_:=Aside0.mk (Kd.N_lower ho32 (below_size (belU HB.out)));have n2_:=Aside0.mk (below_step (belU HB.out) hb);clear HO_3 HB;have HO_3:=n0_;have HO203:=n1_;have HB:=n2_;clear n0_ n1_ n2_ hb ho32));try go_wp2_with (first|(go_at_call 34;(with_reducible refine (spec_WeighOk.calls ((rd_T29 l0 x4_1).f0) ((rd_T29 l0 x4_1).f1) ((rd_T29 l0 x4_1).f2) false _ A18.out).mono ?_);rintro e w30 ⟨rfl,hb⟩;have n0_:=Aside0.mk (Kd.N_below (by (with_reducible repeat (first|apply Kd.N_alloc|apply Kd.N_drewN|apply Kd.N_drew));exact HO_3.out) hb);have n1_:=Aside0.mk (below_step (belU HB.out) hb);clear HO_3 HB;have HO_3:=n0_;have HB:=n1_;clear n0_ n1_;(try clear hb);(try clear hb2);(try clear hk);(try clear hi))|((with_reducible refine gate_dst (N:=33) rfl ?_);(try (refine gate_guard (by rfl) ?_;dsimp only));refine Kd.N_lit (Kd.slice 3 (Kd.int .i64)) _ 35 ?hg (N':=33) ?hd (xs:=([] : List (List Int))) (inner:=[]) (ok:=(fun k_ => (w.heap.size ≤ k_) ∧ some k_ ≠ (u3 : Value).ownBlock)) (okp:=(fun k_ => (w.heap.size ≤ k_) ∧ some k_ ≠ (u3 : Value).ownBlock)) ?hr ?hp (fun _ hk => hk) ((show ∀ k_,w30.heap.size ≤ k_ → (fun k_ => (w.heap.size ≤ k_) ∧ some k_ ≠ (u3 : Value).ownBlock) k_ from fun k_ hk => ⟨(Nat.le_trans (below_size (belU HB.out)) hk),Kd.fresh' (Kd.N_lt (by (with_reducible repeat (first|apply Kd.N_alloc|apply Kd.N_drewN|apply Kd.N_drew));exact HO_3.out)) k_ hk⟩) _ (Nat.le_refl _)) (Below.refl _ _) (Nat.le_refl _) (by simp) ?_;(case hd => rfl);(case hg => rfl);(case hr => first|(go_simp;done)|(go_simp;rfl));(case hp => exact (Reps.none _ _));intro v202 w31 ho32 hb hg_ hnew_;clear hg_ hnew_;(first|rw [← Ny201.out] at ho32|(simp only [Int.reduceToNat] at ho32;rw [← Ny201.out] at ho32));have n0_:=Aside0.mk (Kd.N_elder' (by (with_reducible repeat (first|apply Kd.N_alloc|apply Kd.N_drewN|apply Kd.N_drew));exact HO_3.out) (Kd.N_base ho32) hb);have n1_:=Aside0.mk (Kd.N_lower ho32 (below_size (belU HB.out)));have n2_:=Aside0.mk (below_step (belU HB.out) hb);clear HO_3 HB;have HO_3:=n0_;have HO203:=n1_;have HB:=n2_;clear n0_ n1_ n2_ hb ho32)))
      go_ret
      exact ⟨_,by first|rfl|(simp [errW_none,errW_some] <;> rfl)|(simp [*,errW_none,errW_some] <;> rfl),by (with_reducible repeat (first|apply Kd.N_alloc|apply Kd.N_drewN|apply Kd.N_drew));exact Kd.N_mono HO203.out (fun _ hk => hk.1),belU HB.out⟩
    ·
     rw [if_neg c17] at H
     exact absurd H (by simp)
   ·
    rw [if_neg c16] at H
    have c16b0 : decide (x4_1 < (l0.length : Int)) = false:=decide_eq_false c16;clear c16
    replace H:=Option.bind_eq_some_iff.mp H
    obtain ⟨t204,A330,H⟩:=H
    replace H : (spec_CornersOf.l1 k1 t204 1) = some r:=H
    have A33:=Aside0.mk A330;clear A330
    have H':=Aside0.mk H;clear H
    obtain ⟨Ao34,co34,eo34⟩:=Kd.N_slice HO_3.out;subst eo34
    go_wp2_with (first|(go_at_call 53;(with_reducible refine (spec_l6Corners.calls k1 _ _ x3_1 t204 _ ?side1 ?side2 A33.out).mono ?_);(case side1 => exact cU (Kd.N_reads' HO_3.out).2.2);(case side2 => exact (Kd.N_reads' HO_3.out).2.1);rintro e w35 ⟨v205,rfl,ho0,hb⟩;have n0_:=Aside0.mk (Kd.N_elder' (by (with_reducible repeat (first|apply Kd.N_alloc|apply Kd.N_drewN|apply Kd.N_drew));exact HO_3.out) (by first|exact Kd.N_base ho0|exact Kd.S_base ho0) hb);have n1_:=Aside0.mk (Kd.N_lower (Kd.N_mono (ok':=fun k_ => (w.heap.size ≤ k_) ∧ some k_ ≠ (.slice Ao34 x3_1.length co34 : Value).ownBlock) (Kd.S_N (Kd.S_bound ho0)) (fun k_ hk_ => ⟨(Nat.le_trans (below_size (belU HB.out)) hk_.2.1),(Kd.fresh' (Kd.N_lt (by (with_reducible repeat (first|apply Kd.N_alloc|apply Kd.N_drewN|apply Kd.N_drew));exact HO_3.out)) k_ hk_.2.1)⟩)) (below_size (belU HB.out)));have n2_:=Aside0.mk (below_step (belU HB.out) hb);clear HO_3 HB;have HO_3:=n0_;have HO206:=n1_;have HB:=n2_;clear n0_ n1_ n2_;(try clear hb);(try clear hb2);(try clear hk);(try clear hi);(try clear ho0)))
    repeat (go_quiet (first|(go_at_call 53;(with_reducible refine (spec_l6Corners.calls k1 _ _ x3_1 t204 _ ?side1 ?side2 A33.out).mono ?_);(case side1 => exact cU (Kd.N_reads' HO_3.out).2.2);(case side2 => exact (Kd.N_reads' HO_3.out).2.1);rintro e w35 ⟨v205,rfl,ho0,hb⟩;have n0_:=Aside0.mk (Kd.N_elder' (by (with_reducible repeat (first|apply Kd.N_alloc|apply Kd.N_drewN|apply Kd.N_drew));exact HO_3.out) (by first|exact Kd.N_base ho0|exact Kd.S_base ho0) hb);have n1_:=Aside0.mk (Kd.N_lower (Kd.N_mono (ok':=fun k_ => (w.heap.size ≤ k_) ∧ some k_ ≠ (.slice Ao34 x3_1.length co34 : Value).ownBlock) (Kd.S_N (Kd.S_bound ho0)) (fun k_ hk_ => ⟨(Nat.le_trans (below_size (belU HB.out)) hk_.2.1),(Kd.fresh' (Kd.N_lt (by (with_reducible repeat (first|apply Kd.N_alloc|apply Kd.N_drewN|apply Kd.N_drew));exact HO_3.out)) k_ hk_.2.1)⟩)) (below_size (belU HB.out)));have n2_:=Aside0.mk (below_step (belU HB.out) hb);clear HO_3 HB;have HO_3:=n0_;have HO206:=n1_;have HB:=n2_;clear n0_ n1_ n2_;(try clear hb);(try clear hb2);(try clear hk);(try clear hi);(try clear ho0)));try go_wp2_with (first|(go_at_call 53;(with_reducible refine (spec_l6Corners.calls k1 _ _ x3_1 t204 _ ?side1 ?side2 A33.out).mono ?_);(case side1 => exact cU (Kd.N_reads' HO_3.out).2.2);(case side2 => exact (Kd.N_reads' HO_3.out).2.1);rintro e w35 ⟨v205,rfl,ho0,hb⟩;have n0_:=Aside0.mk (Kd.N_elder' (by (with_reducible repeat (first|apply Kd.N_alloc|apply Kd.N_drewN|apply Kd.N_drew));exact HO_3.out) (by first|exact Kd.N_base ho0|exact Kd.S_base ho0) hb);have n1_:=Aside0.mk (Kd.N_lower (Kd.N_mono (ok':=fun k_ => (w.heap.size ≤ k_) ∧ some k_ ≠ (.slice Ao34 x3_1.length co34 : Value).ownBlock) (Kd.S_N (Kd.S_bound ho0)) (fun k_ hk_ => ⟨(Nat.le_trans (below_size (belU HB.out)) hk_.2.1),(Kd.fresh' (Kd.N_lt (by (with_reducible repeat (first|apply Kd.N_alloc|apply Kd.N_drewN|apply Kd.N_drew));exact HO_3.out)) k_ hk_.2.1)⟩)) (below_size (belU HB.out)));have n2_:=Aside0.mk (below_step (belU HB.out) hb);clear HO_3 HB;have HO_3:=n0_;have HO206:=n1_;have HB:=n2_;clear n0_ n1_ n2_;(try clear hb);(try clear hb2);(try clear hk);(try clear hi);(try clear ho0))))
    go_loopg [8] k1 (fun kq v8 w' => ∃ (x7_2 : List (List Int)) (x8_2 : Int),v8 = .int .i64 x8_2 ∧ Aside0 (spec_CornersOf.l1 kq x7_2 x8_2 = some r) ∧ Aside0 (kq ≤ k1) ∧ Aside0 (Kd.N (Kd.slice 3 (Kd.int .i64)) 35 w' w.heap.size (fun k_ => (w.heap.size ≤ k_)) v205 x7_2) ∧ Aside0 (Below w.heap.size w w'))
    case atStart => exact ⟨(t204),(1),(by first|rfl|(simp;done)|(simp [*];done)),H',⟨Nat.le_refl _⟩,⟨by (with_reducible repeat (first|apply Kd.N_alloc|apply Kd.N_drewN|apply Kd.N_drew));exact Kd.N_mono HO206.out (fun _ hk => hk.1)⟩,⟨belU HB.out⟩⟩
    case round =>
     clear H'
     try clear c1
     try clear p1
     try clear q1
     try clear hx1
     try clear c2
     try clear p2
     try clear p6
     try clear c16
     try clear c16b0
     try clear c17
     try clear c17b0
     try clear p18
     try clear q18
     try clear hx18
     try clear c19
     try clear p19
     try clear q19
     try clear hx19
     try clear c20
     try clear c20b0
     try clear c20b1
     try clear c25
     try clear hx188_0
     try clear hx188_1
     try clear hx188_2
     try clear hx193_0
     try clear hx193_1
     try clear hx193_2
     try clear p188
     try clear p193
     try clear p2
     try clear q188
     try clear q193
     obtain ⟨x7_2,x8_2,rfl,HA,HK2,HO_7,HB⟩:=hrel
     cases gk with
     | zero => exact absurd HA.out (by simp [spec_CornersOf.l1])
     | succ k2 =>
      have H:=HA.out;clear HA
      simp only [spec_CornersOf.l1] at H
      by_cases c36 : x8_2 < (x7_2.length : Int)
      ·
       rw [if_pos c36] at H
       have c36b0 : decide (x8_2 < (x7_2.length : Int)) = true:=decide_eq_true c36;clear c36
       have H':=Aside0.mk H;clear H
       obtain ⟨Ao37,co37,eo37⟩:=Kd.N_slice HO_7.out;subst eo37
       go_wp2
       repeat (go_quiet (fail);try go_wp2)
       go_loopg [9] k2 (fun kq v9 w' => ∃ (x7_3 : List (List Int)) (x9_3 : Int),v9 = .int .i64 x9_3 ∧ Aside0 (spec_CornersOf.l2 kq x7_3 x8_2 x9_3 = some r) ∧ Aside0 (kq ≤ k2) ∧ Aside0 (Kd.N (Kd.slice 3 (Kd.int .i64)) 35 w' w.heap.size (fun k_ => (w.heap.size ≤ k_)) (.slice Ao37 x7_2.length co37) x7_3) ∧ Aside0 (Below w.heap.size w w'))
       case atStart => exact ⟨(x7_2),(x8_2),(by first|rfl|(simp;done)|(simp [*];done)),H',⟨Nat.le_refl _⟩,⟨by (with_reducible repeat (first|apply Kd.N_alloc|apply Kd.N_drewN|apply Kd.N_drew));exact HO_7.out⟩,⟨belU HB.out⟩⟩
       case round =>
        clear H'
        try clear c1
        try clear p1
        try clear q1
        try clear hx1
        try clear c2
        try clear p2
        try clear c3
        try clear p6
        try clear c16
        try clear c16b0
        try clear c17
        try clear c17b0
        try clear p18
        try clear q18
        try clear hx18
        try clear c19
        try clear p19
        try clear q19
        try clear hx19
        try clear c20
        try clear c20b0
        try clear c20b1
        try clear c25
        try clear c36
        try clear c36b0
        try clear hx188_0
        try clear hx188_1
        try clear hx188_2
        try clear hx193_0
        try clear hx193_1
        try clear hx193_2
        try clear p1
        try clear p18
        try clear p188
        try clear p19
        try clear p193
        try clear p2
        try clear p6
        try clear q1
        try clear q18
        try clear q188
        try clear q19
        try clear q193
        obtain ⟨x7_3,x9_3,rfl,HA,HK3,HO_7,HB⟩:=hrel
        have hl7_3:=(Kd.N_reads' HO_7.out).1
        rw [hl7_3] at HO_7
        (try simp only [hl7_3])
        cases gk with
        | zero => exact absurd HA.out (by simp [spec_CornersOf.l2])
        | succ k3 =>
         have H:=HA.out;clear HA
         simp only [spec_CornersOf.l2] at H
         by_cases c38 : x9_3 > 0
         ·
          rw [if_pos c38] at H
          have c38b0 : decide (0 < x9_3) = true:=decide_eq_true c38;clear c38
          by_cases c39 : 0 ≤ x9_3
          ·
           rw [if_pos c39] at H
           have c39b0 : decide (0 ≤ x9_3) = true:=decide_eq_true c39;clear c39
           by_cases c40 : x9_3 < (x7_3.length : Int)
           ·
            rw [if_pos c40] at H
            have c40b0 : decide (x9_3 < (x7_3.length : Int)) = true:=decide_eq_true c40;clear c40
            obtain ⟨ji41,hji41⟩ : ∃ j_ : Int,(wrap64 (x9_3 - 1)) = j_:=⟨_,rfl⟩
            replace H : (if 0 ≤ (ji41) then (if (ji41) < (x7_3.length : Int) then ((spec_l6Less.f k3 (rd_L2 x7_3 x9_3) (rd_L2 x7_3 (ji41))).bind fun t209 => (if t209 = true then (spec_CornersOf.l2 k3 ((x7_3.set (x9_3 : Int).toNat (rd_L2 x7_3 (ji41))).set ((ji41) : Int).toNat (rd_L2 x7_3 x9_3)) x8_2 ji41) else (spec_CornersOf.l1 k3 x7_3 (wrap64 (x8_2 + 1))))) else (none)) else (none)) = some r:=by first|(rw [hji41] at H;exact H)|(simp only [hji41] at H ⊢;exact H)
            have hji41w : (IntKind.i64.wrap (x9_3 - 1)) = ji41:=(i64_w _).trans hji41
            by_cases c42 : 0 ≤ (ji41)
            ·
             rw [if_pos c42] at H
             have c42b0 : decide (0 ≤ (ji41)) = true:=decide_eq_true c42;clear c42
             by_cases c43 : (ji41) < (x7_3.length : Int)
             ·
              rw [if_pos c43] at H
              have c43b0 : decide ((ji41) < (x7_3.length : Int)) = true:=decide_eq_true c43;clear c43
              replace H:=Option.bind_eq_some_iff.mp H
              obtain ⟨t209,A440,H⟩:=H
              replace H : (if t209 = true then (spec_CornersOf.l2 k3 ((x7_3.set (x9_3 : Int).toNat (rd_L2 x7_3 (ji41))).set ((ji41) : Int).toNat (rd_L2 x7_3 x9_3)) x8_2 ji41) else (spec_CornersOf.l1 k3 x7_3 (wrap64 (x8_2 + 1)))) = some r:=H
              have A44:=Aside0.mk A440;clear A440
              by_cases c45 : t209 = true
              ·
               subst c45
               have H1 : (spec_CornersOf.l2 k3 ((x7_3.set (x9_3 : Int).toNat (rd_L2 x7_3 (ji41))).set ((ji41) : Int).toNat (rd_L2 x7_3 x9_3)) x8_2 ji41) = some r:=by rw [if_pos rfl] at H;exact H
               clear H;have H:=H1;clear H1
               obtain ⟨y212,hy212⟩ : ∃ y_ : List (List Int),y_ = (x7_3.set (x9_3 : Int).toNat (rd_L2 x7_3 (ji41))):=⟨_,rfl⟩
               replace H : (spec_CornersOf.l2 k3 (y212.set ((ji41) : Int).toNat (rd_L2 x7_3 x9_3)) x8_2 ji41) = some r:=by first|(rw [hy212];with_reducible exact H)|(have H2_:=(Option.bind_some _ _).symm.trans H;rw [hy212];with_reducible exact H2_)|(have H2_:=(Option.bind_some _ _).symm.trans H;with_reducible exact H2_)|with_reducible exact H|(rw [hy212];exact H)|exact H
               have Ny212:=Aside0.mk hy212;clear hy212
               obtain ⟨y213,hy213⟩ : ∃ y_ : List (List Int),y_ = (y212.set ((ji41) : Int).toNat (rd_L2 x7_3 x9_3)):=⟨_,rfl⟩
               replace H : (spec_CornersOf.l2 k3 y213 x8_2 ji41) = some r:=by first|(rw [hy213];with_reducible exact H)|(have H2_:=(Option.bind_some _ _).symm.trans H;rw [hy213];with_reducible exact H2_)|(have H2_:=(Option.bind_some _ _).symm.trans H;with_reducible exact H2_)|with_reducible exact H|(rw [hy213];exact H)|exact H
               have Ny213:=Aside0.mk hy213;clear hy213
               have H':=Aside0.mk H;clear H
               have p207 : 0 ≤ (x9_3 : Int):=of_decide_eq_true (by first|(with_reducible assumption)|assumption)
               have q207 : x9_3 < (x7_3.length : Int):=of_decide_eq_true (by first|(with_reducible assumption)|assumption)
               obtain ⟨ad207,A207_0,c207_0,e207,hx207_0,hl207_0,hi207_0⟩:=at_L2 (Kd.N_reads' HO_7.out).2.2 x9_3 p207 q207
               cases e207
               obtain ⟨ce207,hce207,hMe207,hcc207⟩:=Kd.N_get HO_7.out [] x9_3 p207 (by first|exact q207|exact of_decide_eq_true (by first|(with_reducible assumption)|assumption)|(have e_:=(Kd.N_reads' HO_7.out).1;omega))
               obtain ⟨ua207_0,uc207_0,rfl,ul207_0,ge207_0⟩:=Kd.FK_slice_open hMe207
               have hv207_0:=hcc207 0 _ rfl
               rw [Nat.add_zero,show ((Kd.slice 3 (Kd.int .i64))).sz = 1 from rfl,Nat.mul_one] at hv207_0
               replace hv207_0:=Option.some.inj (hv207_0.symm.trans hx207_0)
               injection hv207_0 with hva_ hvn_ hvc_
               rw [hva_] at ge207_0
               rw [hvc_] at ul207_0;have HL207_0:=Aside0.mk (show Kd.V (Kd.int .i64) 3 _ w.heap.size _ _ (rd_L2 x7_3 x9_3) from Kd.V_mk ul207_0 ge207_0);clear hva_ hvn_ hvc_ ge207_0 ul207_0 hcc207 hce207
               have HR207_0:=Aside0.mk hi207_0
               have HC207_0:=Aside0.mk hl207_0;clear hi207_0 hl207_0
               replace p207:=eq_true p207
               replace q207:=eq_true q207
               have p208 : 0 ≤ ((ji41) : Int):=of_decide_eq_true (by first|(with_reducible assumption)|assumption)
               have q208 : (ji41) < (x7_3.length : Int):=of_decide_eq_true (by first|(with_reducible assumption)|assumption)
               obtain ⟨ad208,A208_0,c208_0,e208,hx208_0,hl208_0,hi208_0⟩:=at_L2 (Kd.N_reads' HO_7.out).2.2 (ji41) p208 q208
               obtain rfl : ad207 = ad208:=(by injection e208)
               obtain ⟨ce208,hce208,hMe208,hcc208⟩:=Kd.N_get HO_7.out [] (ji41) p208 (by first|exact q208|exact of_decide_eq_true (by first|(with_reducible assumption)|assumption)|(have e_:=(Kd.N_reads' HO_7.out).1;omega))
               obtain ⟨ua208_0,uc208_0,rfl,ul208_0,ge208_0⟩:=Kd.FK_slice_open hMe208
               have hv208_0:=hcc208 0 _ rfl
               rw [Nat.add_zero,show ((Kd.slice 3 (Kd.int .i64))).sz = 1 from rfl,Nat.mul_one] at hv208_0
               replace hv208_0:=Option.some.inj (hv208_0.symm.trans hx208_0)
               injection hv208_0 with hva_ hvn_ hvc_
               rw [hva_] at ge208_0
               rw [hvc_] at ul208_0;have HL208_0:=Aside0.mk (show Kd.V (Kd.int .i64) 3 _ w.heap.size _ _ (rd_L2 x7_3 (ji41)) from Kd.V_mk ul208_0 ge208_0);clear hva_ hvn_ hvc_ ge208_0 ul208_0 hcc208 hce208
               have HR208_0:=Aside0.mk hi208_0
               have HC208_0:=Aside0.mk hl208_0;clear hi208_0 hl208_0
               replace p208:=eq_true p208
               replace q208:=eq_true q208
               go_wp2
               go_quiet (first|(go_at_call 54;(with_reducible refine (spec_l6Less.calls k3 _ _ (rd_L2 x7_3 x9_3) _ _ (rd_L2 x7_3 (ji41)) true _ ?side1 ?side2 ?side3 ?side4 A44.out).mono ?_);(case side1 => repeat (first|exact (by repeat (first|(with_reducible exact HR207_0.out)|(with_reducible refine Kd.C_alloc ?_ _)|(with_reducible refine Kd.C_drewN ?_ _)|(with_reducible refine Kd.C_drew ?_)|exact HR207_0.out))|(with_reducible refine Kd.C_alloc ?_ _)|(with_reducible refine Kd.C_drewN ?_ _)|(with_reducible refine Kd.C_drew ?_)));(case side2 => exact HC207_0.out);(case side3 => repeat (first|exact (by repeat (first|(with_reducible exact HR208_0.out)|(with_reducible refine Kd.C_alloc ?_ _)|(with_reducible refine Kd.C_drewN ?_ _)|(with_reducible refine Kd.C_drew ?_)|exact HR208_0.out))|(with_reducible refine Kd.C_alloc ?_ _)|(with_reducible refine Kd.C_drewN ?_ _)|(with_reducible refine Kd.C_drew ?_)));(case side4 => exact HC208_0.out);rintro e w' ⟨rfl,⟨nd,rfl⟩⟩;(try first|exact ⟨rfl,_,World.drewN_drewN _ _ _⟩|exact ⟨rfl,_,Eq.trans (World.drewN_drewN _ _ _) (congrArg (World.drewN _) (Nat.add_assoc _ _ _))⟩)))
               (have p210 : 0 ≤ (x9_3 : Int):=of_decide_eq_true (by first|(with_reducible assumption)|assumption);have q210 : x9_3 < (x7_3.length : Int):=of_decide_eq_true (by first|(with_reducible assumption)|assumption);obtain ⟨ad210,A210_0,c210_0,e210,hx210_0,hl210_0,hi210_0⟩:=at_L2 (Kd.N_reads' HO_7.out).2.2 x9_3 p210 q210;obtain rfl : ad207 = ad210:=(by injection e210);obtain ⟨ce210,hce210,hMe210,hcc210⟩:=Kd.N_get HO_7.out [] x9_3 p210 (by first|exact q210|exact of_decide_eq_true (by first|(with_reducible assumption)|assumption)|(have e_:=(Kd.N_reads' HO_7.out).1;omega));obtain ⟨ua210_0,uc210_0,rfl,ul210_0,ge210_0⟩:=Kd.FK_slice_open hMe210;have hv210_0:=hcc210 0 _ rfl;rw [Nat.add_zero,show ((Kd.slice 3 (Kd.int .i64))).sz = 1 from rfl,Nat.mul_one] at hv210_0;replace hv210_0:=Option.some.inj (hv210_0.symm.trans hx210_0);injection hv210_0 with hva_ hvn_ hvc_;rw [hva_] at ge210_0;rw [hvc_] at ul210_0;have HL210_0:=Aside0.mk (show Kd.V (Kd.int .i64) 3 _ w.heap.size _ _ (rd_L2 x7_3 x9_3) from Kd.V_mk ul210_0 ge210_0);clear hva_ hvn_ hvc_ ge210_0 ul210_0 hcc210 hce210;have HR210_0:=Aside0.mk hi210_0;have HC210_0:=Aside0.mk hl210_0;clear hi210_0 hl210_0;replace p210:=eq_true p210;replace q210:=eq_true q210;have ea_:=Option.some.inj (hx207_0.symm.trans hx210_0);injection ea_ with ea_ en_ ec_;subst ea_;subst ec_;clear en_;have p211 : 0 ≤ ((ji41) : Int):=of_decide_eq_true (by first|(with_reducible assumption)|assumption);have q211 : (ji41) < (x7_3.length : Int):=of_decide_eq_true (by first|(with_reducible assumption)|assumption);obtain ⟨ad211,A211_0,c211_0,e211,hx211_0,hl211_0,hi211_0⟩:=at_L2 (Kd.N_reads' HO_7.out).2.2 (ji41) p211 q211;obtain rfl : ad207 = ad211:=(by injection e211);obtain ⟨ce211,hce211,hMe211,hcc211⟩:=Kd.N_get HO_7.out [] (ji41) p211 (by first|exact q211|exact of_decide_eq_true (by first|(with_reducible assumption)|assumption)|(have e_:=(Kd.N_reads' HO_7.out).1;omega));obtain ⟨ua211_0,uc211_0,rfl,ul211_0,ge211_0⟩:=Kd.FK_slice_open hMe211;have hv211_0:=hcc211 0 _ rfl;rw [Nat.add_zero,show ((Kd.slice 3 (Kd.int .i64))).sz = 1 from rfl,Nat.mul_one] at hv211_0;replace hv211_0:=Option.some.inj (hv211_0.symm.trans hx211_0);injection hv211_0 with hva_ hvn_ hvc_;rw [hva_] at ge211_0;rw [hvc_] at ul211_0;have HL211_0:=Aside0.mk (show Kd.V (Kd.int .i64) 3 _ w.heap.size _ _ (rd_L2 x7_3 (ji41)) from Kd.V_mk ul211_0 ge211_0);clear hva_ hvn_ hvc_ ge211_0 ul211_0 hcc211 hce211;have HR211_0:=Aside0.mk hi211_0;have HC211_0:=Aside0.mk hl211_0;clear hi211_0 hl211_0;replace p211:=eq_true p211;replace q211:=eq_true q211;have ea_:=Option.some.inj (hx208_0.symm.trans hx211_0);injection ea_ with ea_ en_ ec_;subst ea_;subst ec_;clear en_;have p46 : 0 ≤ (x9_3 : Int):=of_decide_eq_true (by first|(with_reducible assumption)|assumption);have q46 : (x9_3 : Int) < ((x7_3.length : Int) : Int):=of_decide_eq_true (by first|(with_reducible assumption)|assumption);obtain ⟨go46,co46,eo46,gb46,gl46,cl46,HG46⟩:=Kd.N_form HO_7.out (by omega);(first|cases eo46|(injection eo46 with ea_ en_ ec_;(first|subst ea_|(injection ea_ with ea_;subst ea_));subst ec_;clear en_));have GB46:=Aside0.mk gb46;have GG46:=Aside0.mk HG46;clear gb46 gl46 HG46;(first|simp only [add_plain] at hx207_0|skip);(first|simp only [add_plain] at hx208_0|skip);(first|simp only [add_plain] at hx210_0|skip);(first|simp only [add_plain] at hx211_0|skip);obtain ⟨ce46,hcl46,hM46,hcc46,hfr46⟩:=Kd.N_elem HO_7.out [] (x9_3 : Int) p46 q46;obtain ⟨ua46_0,uc46_0,rfl,ul46_0,ge46_0⟩:=Kd.FK_slice_open hM46;have hx46_0:=hcc46 0 _ rfl;have hf46_0:=hfr46 0;(try simp only [show ((Kd.slice 3 (Kd.int .i64))).sz = 1 from rfl,Nat.mul_one,Nat.add_zero] at hx46_0);(try simp only [show ((Kd.slice 3 (Kd.int .i64))).sz = 1 from rfl,Nat.mul_one,Nat.add_zero] at hf46_0);clear hcl46 hcc46 hfr46 hM46;replace p46:=eq_true p46;replace q46:=eq_true q46;have HX48:=Aside0.mk (show Kd.N (Kd.slice 3 (Kd.int .i64)) 35 wr w.heap.size (fun k_ => (w.heap.size ≤ k_)) (.slice (some ⟨go46,0,none⟩) x7_3.length co37) x7_3 from (by (with_reducible repeat (first|apply Kd.N_alloc|apply Kd.N_drewN|apply Kd.N_drew));exact HO_7.out));obtain ⟨ce48,hcl48,hM48,hcc48,hfr48⟩:=Kd.N_elem HX48.out [] (x9_3 : Int) (of_decide_eq_true (by first|(with_reducible assumption)|assumption)) (by have h_ : (x9_3 : Int) < ((x7_3.length : Int) : Int):=of_decide_eq_true (by first|(with_reducible assumption)|assumption);first|exact h_|(have e_:=(Kd.N_reads' HO_7.out).1;omega)|simpa using h_);obtain ⟨ua48_0,uc48_0,rfl,ul48_0,ge48_0⟩:=Kd.FK_slice_open hM48;have HP48:=Kd.N_seg HX48.out (x9_3 : Int) (of_decide_eq_true (by first|(with_reducible assumption)|assumption)) (by have h_ : (x9_3 : Int) < ((x7_3.length : Int) : Int):=of_decide_eq_true (by first|(with_reducible assumption)|assumption);first|exact h_|(have e_:=(Kd.N_reads' HO_7.out).1;omega)|simpa using h_) (seg:=[.slice A208_0 (rd_L2 x7_3 (ji41)).length c208_0]) (j:=0) hcl48 hcc48 (show 1 ≤ 1 from by decide) (x':=rd_L2 x7_3 (ji41)) (Kd.FK_slice_mk (Kd.V_reads' (Kd.V_mono (ok':=(fun k_ => ((fun k_ => (w.heap.size ≤ k_))) k_ ∧ k_ ≠ go46)) (HL211_0.out) (fun k_ hk => ⟨hk.1,fun e_ => (hk.2) (by rw [e_];rfl)⟩))).2.1 (Kd.V_F (Kd.V_mono (ok':=(fun k_ => ((fun k_ => (w.heap.size ≤ k_))) k_ ∧ k_ ≠ go46)) (HL211_0.out) (fun k_ hk => ⟨hk.1,fun e_ => (hk.2) (by rw [e_];rfl)⟩)))) (fun _ hk => hk);have hx48_0:=hcc48 0 _ rfl;(try simp only [show ((Kd.slice 3 (Kd.int .i64))).sz = 1 from rfl,Nat.mul_one,Nat.add_zero] at hx48_0);have hf48_0:=hfr48 0;(try simp only [show ((Kd.slice 3 (Kd.int .i64))).sz = 1 from rfl,Nat.mul_one,Nat.add_zero] at hf48_0);clear hcl48 hcc48 hfr48 hM48;(try simp only [show ((Kd.slice 3 (Kd.int .i64))).sz = 1 from rfl,Nat.mul_one,Nat.add_zero] at HP48);(try simp only [show ((Kd.slice 3 (Kd.int .i64))).sz = 1 from rfl,Nat.mul_one,Nat.add_zero] at HP48))
               go_wp2_with (first|((with_reducible refine gate_store (t:=35) (p:=82) rfl ?_);(try (generalize hq_ : World.drewN wr _ = wr;have n0_:=Aside0.mk (Kd.N_at hq_ HO_7.out);have n1_:=Aside0.mk (v_at_drewN hq_ HL207_0.out);have n2_:=Aside0.mk (v_at_drewN hq_ HL208_0.out);have n3_:=Aside0.mk (v_at_drewN hq_ HL210_0.out);have n4_:=Aside0.mk (v_at_drewN hq_ HL211_0.out);have n5_:=Aside0.mk (below_at hq_ HB.out);clear hq_ HO_7 HL207_0 HL208_0 HL210_0 HL211_0 HB;have HO_7:=n0_;have HL207_0:=n1_;have HL208_0:=n2_;have HL210_0:=n3_;have HL211_0:=n4_;have HB:=n5_;clear n0_ n1_ n2_ n3_ n4_ n5_;(try (have HX48:=Aside0.mk (show Kd.N (Kd.slice 3 (Kd.int .i64)) 35 wr w.heap.size (fun k_ => (w.heap.size ≤ k_)) (.slice (some ⟨go46,0,none⟩) x7_3.length co37) x7_3 from (by (with_reducible repeat (first|apply Kd.N_alloc|apply Kd.N_drewN|apply Kd.N_drew));exact HO_7.out))));(try (obtain ⟨ce48,hcl48,hM48,hcc48,hfr48⟩:=Kd.N_elem HX48.out [] (x9_3 : Int) (of_decide_eq_true (by first|(with_reducible assumption)|assumption)) (by have h_ : (x9_3 : Int) < ((x7_3.length : Int) : Int):=of_decide_eq_true (by first|(with_reducible assumption)|assumption);first|exact h_|(have e_:=(Kd.N_reads' HO_7.out).1;omega)|simpa using h_)));(try (obtain ⟨ua48_0,uc48_0,rfl,ul48_0,ge48_0⟩:=Kd.FK_slice_open hM48));(try (have HP48:=Kd.N_seg HX48.out (x9_3 : Int) (of_decide_eq_true (by first|(with_reducible assumption)|assumption)) (by have h_ : (x9_3 : Int) < ((x7_3.length : Int) : Int):=of_decide_eq_true (by first|(with_reducible assumption)|assumption);first|exact h_|(have e_:=(Kd.N_reads' HO_7.out).1;omega)|simpa using h_) (seg:=[.slice A208_0 (rd_L2 x7_3 (ji41)).length c208_0]) (j:=0) hcl48 hcc48 (show 1 ≤ 1 from by decide) (x':=rd_L2 x7_3 (ji41)) (Kd.FK_slice_mk (Kd.V_reads' (Kd.V_mono (ok':=(fun k_ => ((fun k_ => (w.heap.size ≤ k_))) k_ ∧ k_ ≠ go46)) (HL211_0.out) (fun k_ hk => ⟨hk.1,fun e_ => (hk.2) (by rw [e_];rfl)⟩))).2.1 (Kd.V_F (Kd.V_mono (ok':=(fun k_ => ((fun k_ => (w.heap.size ≤ k_))) k_ ∧ k_ ≠ go46)) (HL211_0.out) (fun k_ hk => ⟨hk.1,fun e_ => (hk.2) (by rw [e_];rfl)⟩)))) (fun _ hk => hk)));(try (have hx48_0:=hcc48 0 _ rfl));(try (try simp only [show ((Kd.slice 3 (Kd.int .i64))).sz = 1 from rfl,Nat.mul_one,Nat.add_zero] at hx48_0));(try (have hf48_0:=hfr48 0));(try (try simp only [show ((Kd.slice 3 (Kd.int .i64))).sz = 1 from rfl,Nat.mul_one,Nat.add_zero] at hf48_0));(try (clear hcl48 hcc48 hfr48 hM48));(try (try simp only [show ((Kd.slice 3 (Kd.int .i64))).sz = 1 from rfl,Nat.mul_one,Nat.add_zero] at HP48));(try (try simp only [show ((Kd.slice 3 (Kd.int .i64))).sz = 1 from rfl,Nat.mul_one,Nat.add_zero] at HP48))));refine store_event (t:=35) (p:=82) (v:=?vo_w49) (w1:=(wr.setCell ⟨go46,(x9_3 : Int).toNat,none⟩ (.slice A208_0 (rd_L2 x7_3 (ji41)).length c208_0))) ?hg ?ho ?hn ?hr ?_;(case ho => rfl);(case hg => rfl);(case hn => rfl);(case hr => first|(go_simp;done)|(go_simp;rfl));intro w49 hw;have hg : wr.grownBy w49 (some go46):=(by rw [hw];exact HP48.2);have hp_ : Kd.N (Kd.slice 3 (Kd.int .i64)) 35 w49 w.heap.size (fun k_ => (w.heap.size ≤ k_)) (.slice (some ⟨go46,0,none⟩) x7_3.length co37) y212:=(by rw [hw,Ny212.out];exact HP48.1);clear HP48;have n0_:=Aside0.mk (hp_);have n1_:=Aside0.mk (Kd.V_afterv (v:=(.slice (some ⟨go46,0,none⟩) x7_3.length co37)) (v1:=(.slice (some ⟨go46,0,none⟩) x7_3.length co37)) (ok:=(fun k_ => (w.heap.size ≤ k_))) (by (with_reducible repeat (first|apply Kd.V_alloc|apply Kd.V_drewN|apply Kd.V_drew));exact HL207_0.out) hg (.inl rfl));have n2_:=Aside0.mk (Kd.V_afterv (v:=(.slice (some ⟨go46,0,none⟩) x7_3.length co37)) (v1:=(.slice (some ⟨go46,0,none⟩) x7_3.length co37)) (ok:=(fun k_ => (w.heap.size ≤ k_))) (by (with_reducible repeat (first|apply Kd.V_alloc|apply Kd.V_drewN|apply Kd.V_drew));exact HL208_0.out) hg (.inl rfl));have n3_:=Aside0.mk (Kd.V_afterv (v:=(.slice (some ⟨go46,0,none⟩) x7_3.length co37)) (v1:=(.slice (some ⟨go46,0,none⟩) x7_3.length co37)) (ok:=(fun k_ => (w.heap.size ≤ k_))) (by (with_reducible repeat (first|apply Kd.V_alloc|apply Kd.V_drewN|apply Kd.V_drew));exact HL210_0.out) hg (.inl rfl));have n4_:=Aside0.mk (Kd.V_afterv (v:=(.slice (some ⟨go46,0,none⟩) x7_3.length co37)) (v1:=(.slice (some ⟨go46,0,none⟩) x7_3.length co37)) (ok:=(fun k_ => (w.heap.size ≤ k_))) (by (with_reducible repeat (first|apply Kd.V_alloc|apply Kd.V_drewN|apply Kd.V_drew));exact HL211_0.out) hg (.inl rfl));have n5_:=Aside0.mk ((by rw [hw];exact below_set (HB.out) GB46.out : Below w.heap.size w w49));clear HO_7 HL207_0 HL208_0 HL210_0 HL211_0 HB;have HO_7:=n0_;have HL207_0:=n1_;have HL208_0:=n2_;have HL210_0:=n3_;have HL211_0:=n4_;have HB:=n5_;clear n0_ n1_ n2_ n3_ n4_ n5_ hg hw hp_;have p47 : 0 ≤ ((ji41) : Int):=of_decide_eq_true (by first|(with_reducible assumption)|assumption);have q47 : ((ji41) : Int) < ((x7_3.length : Int) : Int):=of_decide_eq_true (by first|(with_reducible assumption)|assumption);obtain ⟨ce47,hcl47,hM47,hcc47,hfr47⟩:=Kd.N_elem HO_7.out [] ((ji41) : Int) p47 q47;obtain ⟨ua47_0,uc47_0,rfl,ul47_0,ge47_0⟩:=Kd.FK_slice_open hM47;have hx47_0:=hcc47 0 _ rfl;have hf47_0:=hfr47 0;(try simp only [show ((Kd.slice 3 (Kd.int .i64))).sz = 1 from rfl,Nat.mul_one,Nat.add_zero] at hx47_0);(try simp only [show ((Kd.slice 3 (Kd.int .i64))).sz = 1 from rfl,Nat.mul_one,Nat.add_zero] at hf47_0);clear hcl47 hcc47 hfr47 hM47;replace p47:=eq_true p47;replace q47:=eq_true q47;have HX50:=Aside0.mk (show Kd.N (Kd.slice 3 (Kd.int .i64)) 35 w49 w.heap.size (fun k_ => (w.heap.size ≤ k_)) (.slice (some ⟨go46,0,none⟩) x7_3.length co37) y212 from (by (with_reducible repeat (first|apply Kd.N_alloc|apply Kd.N_drewN|apply Kd.N_drew));exact HO_7.out));obtain ⟨ce50,hcl50,hM50,hcc50,hfr50⟩:=Kd.N_elem HX50.out [] ((ji41) : Int) (of_decide_eq_true (by first|(with_reducible assumption)|assumption)) (by have h_ : ((ji41) : Int) < ((x7_3.length : Int) : Int):=of_decide_eq_true (by first|(with_reducible assumption)|assumption);first|exact h_|(have e_:=(Kd.N_reads' HO_7.out).1;omega)|simpa using h_);obtain ⟨ua50_0,uc50_0,rfl,ul50_0,ge50_0⟩:=Kd.FK_slice_open hM50;have HP50:=Kd.N_seg HX50.out ((ji41) : Int) (of_decide_eq_true (by first|(with_reducible assumption)|assumption)) (by have h_ : ((ji41) : Int) < ((x7_3.length : Int) : Int):=of_decide_eq_true (by first|(with_reducible assumption)|assumption);first|exact h_|(have e_:=(Kd.N_reads' HO_7.out).1;omega)|simpa using h_) (seg:=[.slice A207_0 (rd_L2 x7_3 x9_3).length c207_0]) (j:=0) hcl50 hcc50 (show 1 ≤ 1 from by decide) (x':=rd_L2 x7_3 x9_3) (Kd.FK_slice_mk (Kd.V_reads' (Kd.V_mono (ok':=(fun k_ => ((fun k_ => (w.heap.size ≤ k_))) k_ ∧ k_ ≠ go46)) (HL210_0.out) (fun k_ hk => ⟨hk.1,fun e_ => (hk.2) (by rw [e_];rfl)⟩))).2.1 (Kd.V_F (Kd.V_mono (ok':=(fun k_ => ((fun k_ => (w.heap.size ≤ k_))) k_ ∧ k_ ≠ go46)) (HL210_0.out) (fun k_ hk => ⟨hk.1,fun e_ => (hk.2) (by rw [e_];rfl)⟩)))) (fun _ hk => hk);have hx50_0:=hcc50 0 _ rfl;(try simp only [show ((Kd.slice 3 (Kd.int .i64))).sz = 1 from rfl,Nat.mul_one,Nat.add_zero] at hx50_0);have hf50_0:=hfr50 0;(try simp only [show ((Kd.slice 3 (Kd.int .i64))).sz = 1 from rfl,Nat.mul_one,Nat.add_zero] at hf50_0);clear hcl50 hcc50 hfr50 hM50;(try simp only [show ((Kd.slice 3 (Kd.int .i64))).sz = 1 from rfl,Nat.mul_one,Nat.add_zero] at HP50);(try simp only [show ((Kd.slice 3 (Kd.int .i64))).sz = 1 from rfl,Nat.mul_one,Nat.add_zero] at HP50))|((with_reducible refine gate_store (t:=35) (p:=87) rfl ?_);(try (rw [drewN_self w49];generalize hq_ : World.drewN w49 _ = w49;have n0_:=Aside0.mk (Kd.N_at hq_ HO_7.out);have n1_:=Aside0.mk (v_at_drewN hq_ HL207_0.out);have n2_:=Aside0.mk (v_at_drewN hq_ HL208_0.out);have n3_:=Aside0.mk (v_at_drewN hq_ HL210_0.out);have n4_:=Aside0.mk (v_at_drewN hq_ HL211_0.out);have n5_:=Aside0.mk (below_at hq_ HB.out);clear hq_ HO_7 HL207_0 HL208_0 HL210_0 HL211_0 HB;have HO_7:=n0_;have HL207_0:=n1_;have HL208_0:=n2_;have HL210_0:=n3_;have HL211_0:=n4_;have HB:=n5_;clear n0_ n1_ n2_ n3_ n4_ n5_;(try (have HX50:=Aside0.mk (show Kd.N (Kd.slice 3 (Kd.int .i64)) 35 w49 w.heap.size (fun k_ => (w.heap.size ≤ k_)) (.slice (some ⟨go46,0,none⟩) x7_3.length co37) y212 from (by (with_reducible repeat (first|apply Kd.N_alloc|apply Kd.N_drewN|apply Kd.N_drew));exact HO_7.out))));(try (obtain ⟨ce50,hcl50,hM50,hcc50,hfr50⟩:=Kd.N_elem HX50.out [] ((ji41) : Int) (of_decide_eq_true (by first|(with_reducible assumption)|assumption)) (by have h_ : ((ji41) : Int) < ((x7_3.length : Int) : Int):=of_decide_eq_true (by first|(with_reducible assumption)|assumption);first|exact h_|(have e_:=(Kd.N_reads' HO_7.out).1;omega)|simpa using h_)));(try (obtain ⟨ua50_0,uc50_0,rfl,ul50_0,ge50_0⟩:=Kd.FK_slice_open hM50));(try (have HP50:=Kd.N_seg HX50.out ((ji41) : Int) (of_decide_eq_true (by first|(with_reducible assumption)|assumption)) (by have h_ : ((ji41) : Int) < ((x7_3.length : Int) : Int):=of_decide_eq_true (by first|(with_reducible assumption)|assumption);first|exact h_|(have e_:=(Kd.N_reads' HO_7.out).1;omega)|simpa using h_) (seg:=[.slice A207_0 (rd_L2 x7_3 x9_3).length c207_0]) (j:=0) hcl50 hcc50 (show 1 ≤ 1 from by decide) (x':=rd_L2 x7_3 x9_3) (Kd.FK_slice_mk (Kd.V_reads' (Kd.V_mono (ok':=(fun k_ => ((fun k_ => (w.heap.size ≤ k_))) k_ ∧ k_ ≠ go46)) (HL210_0.out) (fun k_ hk => ⟨hk.1,fun e_ => (hk.2) (by rw [e_];rfl)⟩))).2.1 (Kd.V_F (Kd.V_mono (ok':=(fun k_ => ((fun k_ => (w.heap.size ≤ k_))) k_ ∧ k_ ≠ go46)) (HL210_0.out) (fun k_ hk => ⟨hk.1,fun e_ => (hk.2) (by rw [e_];rfl)⟩)))) (fun _ hk => hk)));(try (have hx50_0:=hcc50 0 _ rfl));(try (try simp only [show ((Kd.slice 3 (Kd.int .i64))).sz = 1 from rfl,Nat.mul_one,Nat.add_zero] at hx50_0));(try (have hf50_0:=hfr50 0));(try (try simp only [show ((Kd.slice 3 (Kd.int .i64))).sz = 1 from rfl,Nat.mul_one,Nat.add_zero] at hf50_0));(try (clear hcl50 hcc50 hfr50 hM50));(try (try simp only [show ((Kd.slice 3 (Kd.int .i64))).sz = 1 from rfl,Nat.mul_one,Nat.add_zero] at HP50));(try (try simp only [show ((Kd.slice 3 (Kd.int .i64))).sz = 1 from rfl,Nat.mul_one,Nat.add_zero] at HP50))));refine store_event (t:=35) (p:=87) (v:=?vo_w51) (w1:=(w49.setCell ⟨go46,((ji41) : Int).toNat,none⟩ (.slice A207_0 (rd_L2 x7_3 x9_3).length c207_0))) ?hg ?ho ?hn ?hr ?_;(case ho => rfl);(case hg => rfl);(case hn => rfl);(case hr => first|(go_simp;done)|(go_simp;rfl));intro w51 hw;have hg : w49.grownBy w51 (some go46):=(by rw [hw];exact HP50.2);have hp_ : Kd.N (Kd.slice 3 (Kd.int .i64)) 35 w51 w.heap.size (fun k_ => (w.heap.size ≤ k_)) (.slice (some ⟨go46,0,none⟩) x7_3.length co37) y213:=(by rw [hw,Ny213.out];exact HP50.1);clear HP50;have n0_:=Aside0.mk (hp_);have n1_:=Aside0.mk (Kd.V_afterv (v:=(.slice (some ⟨go46,0,none⟩) x7_3.length co37)) (v1:=(.slice (some ⟨go46,0,none⟩) x7_3.length co37)) (ok:=(fun k_ => (w.heap.size ≤ k_))) (by (with_reducible repeat (first|apply Kd.V_alloc|apply Kd.V_drewN|apply Kd.V_drew));exact HL207_0.out) hg (.inl rfl));have n2_:=Aside0.mk (Kd.V_afterv (v:=(.slice (some ⟨go46,0,none⟩) x7_3.length co37)) (v1:=(.slice (some ⟨go46,0,none⟩) x7_3.length co37)) (ok:=(fun k_ => (w.heap.size ≤ k_))) (by (with_reducible repeat (first|apply Kd.V_alloc|apply Kd.V_drewN|apply Kd.V_drew));exact HL208_0.out) hg (.inl rfl));have n3_:=Aside0.mk (Kd.V_afterv (v:=(.slice (some ⟨go46,0,none⟩) x7_3.length co37)) (v1:=(.slice (some ⟨go46,0,none⟩) x7_3.length co37)) (ok:=(fun k_ => (w.heap.size ≤ k_))) (by (with_reducible repeat (first|apply Kd.V_alloc|apply Kd.V_drewN|apply Kd.V_drew));exact HL210_0.out) hg (.inl rfl));have n4_:=Aside0.mk (Kd.V_afterv (v:=(.slice (some ⟨go46,0,none⟩) x7_3.length co37)) (v1:=(.slice (some ⟨go46,0,none⟩) x7_3.length co37)) (ok:=(fun k_ => (w.heap.size ≤ k_))) (by (with_reducible repeat (first|apply Kd.V_alloc|apply Kd.V_drewN|apply Kd.V_drew));exact HL211_0.out) hg (.inl rfl));have n5_:=Aside0.mk ((by rw [hw];exact below_set (HB.out) GB46.out : Below w.heap.size w w51));clear HO_7 HL207_0 HL208_0 HL210_0 HL211_0 HB;have HO_7:=n0_;have HL207_0:=n1_;have HL208_0:=n2_;have HL210_0:=n3_;have HL211_0:=n4_;have HB:=n5_;clear n0_ n1_ n2_ n3_ n4_ n5_ hg hw hp_))
               (try simp only [← hl7_3])
               go_roundg k3
               case measure => have:=HK1.out;have:=HK2.out;have:=HK3.out;omega
               case rel => exact ⟨(y213),(ji41),(by first|rfl|(simp;done)|(simp only [← hji41] <;> (first|rfl|simp))|(simp [*];done)),H',⟨by have:=HK1.out;have:=HK2.out;have:=HK3.out;omega⟩,⟨by (try simp only [hl7_3]);(with_reducible repeat (first|apply Kd.N_alloc|apply Kd.N_drewN|apply Kd.N_drew));exact HO_7.out⟩,⟨belU HB.out⟩⟩
              ·
               replace c45:=Bool.eq_false_iff.mpr c45;subst c45
               have H1 : (spec_CornersOf.l1 k3 x7_3 (wrap64 (x8_2 + 1))) = some r:=by rw [if_neg (show ¬ (false = true) by decide)] at H;exact H
               clear H;have H:=H1;clear H1
               have H':=Aside0.mk H;clear H
               have p207 : 0 ≤ (x9_3 : Int):=of_decide_eq_true (by first|(with_reducible assumption)|assumption)
               have q207 : x9_3 < (x7_3.length : Int):=of_decide_eq_true (by first|(with_reducible assumption)|assumption)
               obtain ⟨ad207,A207_0,c207_0,e207,hx207_0,hl207_0,hi207_0⟩:=at_L2 (Kd.N_reads' HO_7.out).2.2 x9_3 p207 q207
               cases e207
               obtain ⟨ce207,hce207,hMe207,hcc207⟩:=Kd.N_get HO_7.out [] x9_3 p207 (by first|exact q207|exact of_decide_eq_true (by first|(with_reducible assumption)|assumption)|(have e_:=(Kd.N_reads' HO_7.out).1;omega))
               obtain ⟨ua207_0,uc207_0,rfl,ul207_0,ge207_0⟩:=Kd.FK_slice_open hMe207
               have hv207_0:=hcc207 0 _ rfl
               rw [Nat.add_zero,show ((Kd.slice 3 (Kd.int .i64))).sz = 1 from rfl,Nat.mul_one] at hv207_0
               replace hv207_0:=Option.some.inj (hv207_0.symm.trans hx207_0)
               injection hv207_0 with hva_ hvn_ hvc_
               rw [hva_] at ge207_0
               rw [hvc_] at ul207_0;have HL207_0:=Aside0.mk (show Kd.V (Kd.int .i64) 3 _ w.heap.size _ _ (rd_L2 x7_3 x9_3) from Kd.V_mk ul207_0 ge207_0);clear hva_ hvn_ hvc_ ge207_0 ul207_0 hcc207 hce207
               have HR207_0:=Aside0.mk hi207_0
               have HC207_0:=Aside0.mk hl207_0;clear hi207_0 hl207_0
               replace p207:=eq_true p207
               replace q207:=eq_true q207
               have p208 : 0 ≤ ((ji41) : Int):=of_decide_eq_true (by first|(with_reducible assumption)|assumption)
               have q208 : (ji41) < (x7_3.length : Int):=of_decide_eq_true (by first|(with_reducible assumption)|assumption)
               obtain ⟨ad208,A208_0,c208_0,e208,hx208_0,hl208_0,hi208_0⟩:=at_L2 (Kd.N_reads' HO_7.out).2.2 (ji41) p208 q208
               obtain rfl : ad207 = ad208:=(by injection e208)
               obtain ⟨ce208,hce208,hMe208,hcc208⟩:=Kd.N_get HO_7.out [] (ji41) p208 (by first|exact q208|exact of_decide_eq_true (by first|(with_reducible assumption)|assumption)|(have e_:=(Kd.N_reads' HO_7.out).1;omega))
               obtain ⟨ua208_0,uc208_0,rfl,ul208_0,ge208_0⟩:=Kd.FK_slice_open hMe208
               have hv208_0:=hcc208 0 _ rfl
               rw [Nat.add_zero,show ((Kd.slice 3 (Kd.int .i64))).sz = 1 from rfl,Nat.mul_one] at hv208_0
               replace hv208_0:=Option.some.inj (hv208_0.symm.trans hx208_0)
               injection hv208_0 with hva_ hvn_ hvc_
               rw [hva_] at ge208_0
               rw [hvc_] at ul208_0;have HL208_0:=Aside0.mk (show Kd.V (Kd.int .i64) 3 _ w.heap.size _ _ (rd_L2 x7_3 (ji41)) from Kd.V_mk ul208_0 ge208_0);clear hva_ hvn_ hvc_ ge208_0 ul208_0 hcc208 hce208
               have HR208_0:=Aside0.mk hi208_0
               have HC208_0:=Aside0.mk hl208_0;clear hi208_0 hl208_0
               replace p208:=eq_true p208
               replace q208:=eq_true q208
               go_wp2_with (first|(go_at_call 54;(with_reducible refine (spec_l6Less.calls k3 _ _ (rd_L2 x7_3 x9_3) _ _ (rd_L2 x7_3 (ji41)) false _ ?side1 ?side2 ?side3 ?side4 A44.out).mono ?_);(case side1 => repeat (first|exact (by repeat (first|(with_reducible exact HR207_0.out)|(with_reducible refine Kd.C_alloc ?_ _)|(with_reducible refine Kd.C_drewN ?_ _)|(with_reducible refine Kd.C_drew ?_)|exact HR207_0.out))|(with_reducible refine Kd.C_alloc ?_ _)|(with_reducible refine Kd.C_drewN ?_ _)|(with_reducible refine Kd.C_drew ?_)));(case side2 => exact HC207_0.out);(case side3 => repeat (first|exact (by repeat (first|(with_reducible exact HR208_0.out)|(with_reducible refine Kd.C_alloc ?_ _)|(with_reducible refine Kd.C_drewN ?_ _)|(with_reducible refine Kd.C_drew ?_)|exact HR208_0.out))|(with_reducible refine Kd.C_alloc ?_ _)|(with_reducible refine Kd.C_drewN ?_ _)|(with_reducible refine Kd.C_drew ?_)));(case side4 => exact HC208_0.out);rintro e w' ⟨rfl,⟨nd,rfl⟩⟩;(try first|exact ⟨rfl,_,World.drewN_drewN _ _ _⟩|exact ⟨rfl,_,Eq.trans (World.drewN_drewN _ _ _) (congrArg (World.drewN _) (Nat.add_assoc _ _ _))⟩)))
               repeat (go_quiet (first|(go_at_call 54;(with_reducible refine (spec_l6Less.calls k3 _ _ (rd_L2 x7_3 x9_3) _ _ (rd_L2 x7_3 (ji41)) false _ ?side1 ?side2 ?side3 ?side4 A44.out).mono ?_);(case side1 => repeat (first|exact (by repeat (first|(with_reducible exact HR207_0.out)|(with_reducible refine Kd.C_alloc ?_ _)|(with_reducible refine Kd.C_drewN ?_ _)|(with_reducible refine Kd.C_drew ?_)|exact HR207_0.out))|(with_reducible refine Kd.C_alloc ?_ _)|(with_reducible refine Kd.C_drewN ?_ _)|(with_reducible refine Kd.C_drew ?_)));(case side2 => exact HC207_0.out);(case side3 => repeat (first|exact (by repeat (first|(with_reducible exact HR208_0.out)|(with_reducible refine Kd.C_alloc ?_ _)|(with_reducible refine Kd.C_drewN ?_ _)|(with_reducible refine Kd.C_drew ?_)|exact HR208_0.out))|(with_reducible refine Kd.C_alloc ?_ _)|(with_reducible refine Kd.C_drewN ?_ _)|(with_reducible refine Kd.C_drew ?_)));(case side4 => exact HC208_0.out);rintro e w' ⟨rfl,⟨nd,rfl⟩⟩;(try first|exact ⟨rfl,_,World.drewN_drewN _ _ _⟩|exact ⟨rfl,_,Eq.trans (World.drewN_drewN _ _ _) (congrArg (World.drewN _) (Nat.add_assoc _ _ _))⟩)));try go_wp2_with (first|(go_at_call 54;(with_reducible refine (spec_l6Less.calls k3 _ _ (rd_L2 x7_3 x9_3) _ _ (rd_L2 x7_3 (ji41)) false _ ?side1 ?side2 ?side3 ?side4 A44.out).mono ?_);(case side1 => repeat (first|exact (by repeat (first|(with_reducible exact HR207_0.out)|(with_reducible refine Kd.C_alloc ?_ _)|(with_reducible refine Kd.C_drewN ?_ _)|(with_reducible refine Kd.C_drew ?_)|exact HR207_0.out))|(with_reducible refine Kd.C_alloc ?_ _)|(with_reducible refine Kd.C_drewN ?_ _)|(with_reducible refine Kd.C_drew ?_)));(case side2 => exact HC207_0.out);(case side3 => repeat (first|exact (by repeat (first|(with_reducible exact HR208_0.out)|(with_reducible refine Kd.C_alloc ?_ _)|(with_reducible refine Kd.C_drewN ?_ _)|(with_reducible refine Kd.C_drew ?_)|exact HR208_0.out))|(with_reducible refine Kd.C_alloc ?_ _)|(with_reducible refine Kd.C_drewN ?_ _)|(with_reducible refine Kd.C_drew ?_)));(case side4 => exact HC208_0.out);rintro e w' ⟨rfl,⟨nd,rfl⟩⟩;(try first|exact ⟨rfl,_,World.drewN_drewN _ _ _⟩|exact ⟨rfl,_,Eq.trans (World.drewN_drewN _ _ _) (congrArg (World.drewN _) (Nat.add_assoc _ _ _))⟩))))
               (try simp only [← hl7_3])
               go_roundg k3
               case measure => have:=HK1.out;have:=HK2.out;have:=HK3.out;omega
               case rel => exact ⟨(x7_3),(wrap64 (x8_2 + 1)),(by first|rfl|(simp;done)|(simp [*];done)),H',⟨by have:=HK1.out;have:=HK2.out;have:=HK3.out;omega⟩,⟨by (try simp only [hl7_3]);(with_reducible repeat (first|apply Kd.N_alloc|apply Kd.N_drewN|apply Kd.N_drew));exact HO_7.out⟩,⟨belU HB.out⟩⟩
             ·
              rw [if_neg c43] at H
              exact absurd H (by simp)
            ·
             rw [if_neg c42] at H
             exact absurd H (by simp)
           ·
            rw [if_neg c40] at H
            exact absurd H (by simp)
          ·
           rw [if_neg c39] at H
           exact absurd H (by simp)
         ·
          rw [if_neg c38] at H
          have c38b0 : decide (0 < x9_3) = false:=decide_eq_false c38;clear c38
          have H':=Aside0.mk H;clear H
          go_wp2
          repeat (go_quiet (fail);try go_wp2)
          (try simp only [← hl7_3])
          go_roundg k3
          case measure => have:=HK1.out;have:=HK2.out;have:=HK3.out;omega
          case rel => exact ⟨(x7_3),(wrap64 (x8_2 + 1)),(by first|rfl|(simp;done)|(simp [*];done)),H',⟨by have:=HK1.out;have:=HK2.out;have:=HK3.out;omega⟩,⟨by (try simp only [hl7_3]);(with_reducible repeat (first|apply Kd.N_alloc|apply Kd.N_drewN|apply Kd.N_drew));exact HO_7.out⟩,⟨belU HB.out⟩⟩
      ·
       rw [if_neg c36] at H
       have c36b0 : decide (x8_2 < (x7_2.length : Int)) = false:=decide_eq_false c36;clear c36
       obtain rfl:=Option.some.inj H
       obtain ⟨Ao52,co52,eo52⟩:=Kd.N_slice HO_7.out;subst eo52
       go_wp2
       repeat (go_quiet (fail);try go_wp2)
       go_ret
       exact ⟨_,by first|rfl|(simp [errW_none,errW_some] <;> rfl)|(simp [*,errW_none,errW_some] <;> rfl),by (with_reducible repeat (first|apply Kd.N_alloc|apply Kd.N_drewN|apply Kd.N_drew));exact HO_7.out,belU HB.out⟩

end Go.Proofs.Ytmbninbecclbiaa.PA
