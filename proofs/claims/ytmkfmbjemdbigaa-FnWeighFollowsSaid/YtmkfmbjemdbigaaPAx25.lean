/- The machine side of functions of this seat, written by the session's program myprint.py: for each Go function a Lean function and the proof that the call answers just it. -/
import Derived.Test.YtmkfmbjemdbigaaPAx0
import Derived.Test.YtmkfmbjemdbigaaUp
import Derived.Test.YtmkfmbjemdbigaaPAx6
import Derived.Test.YtmkfmbjemdbigaaPAx24
namespace Go.Proofs.Ytmkfmbjemdbigaa.PA
open Go.RowKit Go.Proofs.YtmkfmbjemdbigaaW.PrintWords Go.Proofs.YtmkfmbjemdbigaaW.PrintLast Go.Proofs.YtmkfmbjemdbigaaW.PrintMore
attribute [local go_sem] max2_int min2_int max_two min_two max_three min_three max_four min_four   -- for this text's walks alone
set_option linter.unusedVariables false
set_option linter.unusedSimpArgs false

/-! ### spec_ContraryOf: function 21 -/
def spec_ContraryOf.j0 : Nat → Int → Bool → Int → Int → Int → Option (Int × Int × Int)
 | 0,_,_,_,_,_ => none
 | k + 1,x8,x9,x362000,x362001,x362002 => if x9 = true then ((spec_l5Other.f x362002).bind fun t364 => (some (wrap64 (1 - x362000),x362001,t364))) else (if x8 = 2 then (some (wrap64 (5 - x362000),x362002,x362001)) else (if x8 = 3 then (some (wrap64 (5 - x362000),x362002,x362001)) else (some (wrap64 (9 - x362000),x362001,x362002))))
def spec_ContraryOf.f (k : Nat) (a0_0 : Int) (a0_1 : Int) (a0_2 : Int) : Option (Int × Int × Int):=(spec_WeighOk.f a0_0 a0_1 a0_2).bind fun t363 => (if t363 = true then (if a0_0 = 0 then (spec_ContraryOf.j0 k a0_0 (a0_0 == 0) a0_0 a0_1 a0_2) else (spec_ContraryOf.j0 k a0_0 (a0_0 == 1) a0_0 a0_1 a0_2)) else (some (0,0,0)))
theorem spec_ContraryOf.mono_l : ∀ k,(∀ y0 y1 y2 y3 y4,LeO (spec_ContraryOf.j0 k y0 y1 y2 y3 y4) (spec_ContraryOf.j0 (k + 1) y0 y1 y2 y3 y4))
 | 0 => fun _ _ _ _ _ r h => by simp [spec_ContraryOf.j0] at h
 | k + 1 => by
  have ih0:=spec_ContraryOf.mono_l k
  ·
   intro y0 y1 y2 y3 y4;unfold spec_ContraryOf.j0;repeat' first
   | (with_reducible exact LeO.refl _)
theorem spec_ContraryOf.mono : ∀ a0 a1 a2 k,LeO (spec_ContraryOf.f k a0 a1 a2) (spec_ContraryOf.f (k + 1) a0 a1 a2):=by
 intro a0 a1 a2 k;have ih0:=spec_ContraryOf.mono_l k;unfold spec_ContraryOf.f;repeat' first
   | (with_reducible exact ih0 _ _ _ _ _)
   | (with_reducible exact LeO.refl _)
   | (with_reducible refine LeO.ite ?_ ?_)
   | (with_reducible refine LeO.bind ?_ (fun _ => ?_))
def spec_ContraryOf.T6 : Bool × List (List Nat × List Nat):=(true,[([],[]),([0],[0]),([1],[1]),([],[]),([3],[3]),([],[]),([5],[5]),([6],[6]),([2,4,7],[2,4,7]),([8,7,0,1,2,3,4,5,6,7,8],[8])])
def spec_ContraryOf.B6 : List Nat:=[0,1,3,0,8,0,32,96,255,511]
theorem spec_ContraryOf.tab6 : rtab .any (opsOf Try.f21 6) = spec_ContraryOf.T6:=by kernel_rfl
theorem spec_ContraryOf.bits6 : waitsOk spec_ContraryOf.T6.2 spec_ContraryOf.B6 = true:=by kernel_rfl
set_option maxHeartbeats 8000000 in
set_option maxRecDepth 100000 in
theorem spec_ContraryOf.calls (k : Nat) (a0_0 : Int) (a0_1 : Int) (a0_2 : Int) (r1 : Int) (r2 : Int) (r3 : Int) (w : World) (h : spec_ContraryOf.f k a0_0 a0_1 a0_2 = some (r1,r2,r3)) :
  Calls Try.prog 21 #[.agg #[.int .i64 a0_0,.int .i64 a0_1,.int .i64 a0_2]] w fun e w' => e = .returned (.agg #[.int .i64 r1,.int .i64 r2,.int .i64 r3]) ∧ Below w.heap.size w w':=by
 have hu25:=Try.underlying25;have HB:=Aside0.mk (Below.refl w.heap.size w);have H : ((spec_WeighOk.f a0_0 a0_1 a0_2).bind fun t363 => (if t363 = true then (if a0_0 = 0 then (spec_ContraryOf.j0 k a0_0 (a0_0 == 0) a0_0 a0_1 a0_2) else (spec_ContraryOf.j0 k a0_0 (a0_0 == 1) a0_0 a0_1 a0_2)) else (some (0,0,0)))) = some (r1,r2,r3):=h;clear h;replace H:=Option.bind_eq_some_iff.mp H;obtain ⟨t363,A20,H⟩:=H;have A2:=Aside0.mk A20;clear A20;by_cases c3 : t363 = true
 ·
  subst c3;have H1 : (if a0_0 = 0 then (spec_ContraryOf.j0 k a0_0 (a0_0 == 0) a0_0 a0_1 a0_2) else (spec_ContraryOf.j0 k a0_0 (a0_0 == 1) a0_0 a0_1 a0_2)) = some (r1,r2,r3):=by rw [if_pos rfl] at H;exact H
  clear H;have H:=H1;clear H1;have HC4:=Aside0.mk H;clear H;go_enter Try.func21,Try.ntmps21;go_upto_if 9 with (first|((with_reducible refine gate_dst (N:=1) rfl ?_);refine box_event ?hg (N:=1) ?hd (cs:=#[.int .i64 a0_0,.int .i64 a0_1,.int .i64 a0_2]) (t:=25) ?hr ?_;(case hd => rfl);(case hg => rfl);(case hr => go_simp;done);intro gb361 hg w5 hbox hb;have BK361:=Aside0.mk (hbox);have GW361:=Aside0.mk ((by rw [hg];exact (below_size (belU HB.out)) : w.heap.size ≤ gb361));have GE361:=Aside0.mk ((by rw [hg];exact (below_size (belU HB.out)) : w.heap.size ≤ gb361));replace HB:=Aside0.mk (below_step (belU HB.out) hb);clear hb hbox hg)|((with_reducible refine gate_dst (N:=2) rfl ?_);refine box_event ?hg (N:=2) ?hd (cs:=#[.int .i64 0,.int .i64 0,.int .i64 0]) (t:=25) ?hr ?_;(case hd => rfl);(case hg => rfl);(case hr => go_simp;done);intro gb362 hg w6 hbox hb;have BK362:=Aside0.mk (hbox);have GW362:=Aside0.mk ((by rw [hg];exact (below_size HB.out) : w.heap.size ≤ gb362));have GE362:=Aside0.mk ((by rw [hg];exact (below_size HB.out) : w.heap.size ≤ gb362));replace HB:=Aside0.mk (below_step HB.out hb);have NB361_362:=Aside0.mk ((by rw [hg];exact Nat.ne_of_lt (blk_lt (g:=gb361) (o:=.cells #[.int .i64 a0_0,.int .i64 a0_1,.int .i64 a0_2] 25 (0,0)) (blkU BK361.out)) : gb361 ≠ gb362));have NB362_361:=Aside0.mk ((by rw [hg];exact Nat.ne_of_gt (blk_lt (g:=gb361) (o:=.cells #[.int .i64 a0_0,.int .i64 a0_1,.int .i64 a0_2] 25 (0,0)) (blkU BK361.out)) : gb362 ≠ gb361));replace BK361:=Aside0.mk (blk_below (g:=gb361) (o:=.cells #[.int .i64 a0_0,.int .i64 a0_1,.int .i64 a0_2] 25 (0,0)) (blkU BK361.out) hb);clear hb hbox hg;have hnb7:=NB361_362.out;have hnc7:=NB362_361.out;have hcz8_0 : w6.cell? ⟨gb361,0,none⟩ = some (.int .i64 a0_0):=(blk_cell BK361.out 0).trans rfl;have hcz8_1 : w6.cell? ⟨gb361,1,none⟩ = some (.int .i64 a0_1):=(blk_cell BK361.out 1).trans rfl;have hcz8_2 : w6.cell? ⟨gb361,2,none⟩ = some (.int .i64 a0_2):=(blk_cell BK361.out 2).trans rfl;have hfz8_0:=blk_frozen BK361.out 0;have hfz8_1:=blk_frozen BK361.out 1;have hfz8_2:=blk_frozen BK361.out 2)|((with_reducible refine gate_callee (f:=9) rfl ?_);refine goesL_ (some 4) rfl rfl Try.func9 (by kernel_rfl) rfl #[.agg #[.int .i64 a0_0,.int .i64 a0_1,.int .i64 a0_2]] rfl (by (try simp only [List.map_toArray,List.map_cons,List.map_nil]);rfl) ?_;(with_reducible refine (spec_WeighOk.calls a0_0 a0_1 a0_2 true _ A2.out).mono ?_);rintro e w9 ⟨rfl,hb⟩;refine ⟨_,rfl,?_⟩;replace BK361:=Aside0.mk (blk_below (g:=gb361) (o:=.cells #[.int .i64 a0_0,.int .i64 a0_1,.int .i64 a0_2] 25 (0,0)) (blkU BK361.out) hb);replace BK362:=Aside0.mk (blk_below (g:=gb362) (o:=.cells #[.int .i64 0,.int .i64 0,.int .i64 0] 25 (0,0)) (blkU BK362.out) hb);replace HB:=Aside0.mk (below_step HB.out hb);(try clear hb);have hcz10_0 : w9.cell? ⟨gb361,0,none⟩ = some (.int .i64 a0_0):=(blk_cell BK361.out 0).trans rfl;have hcz10_1 : w9.cell? ⟨gb361,1,none⟩ = some (.int .i64 a0_1):=(blk_cell BK361.out 1).trans rfl;have hcz10_2 : w9.cell? ⟨gb361,2,none⟩ = some (.int .i64 a0_2):=(blk_cell BK361.out 2).trans rfl;have hfz10_0:=blk_frozen BK361.out 0;have hfz10_1:=blk_frozen BK361.out 1;have hfz10_2:=blk_frozen BK361.out 2))
  go_cut [9] (fun v9 wc => ∃ (kq : Nat) (x9_3 : Bool),v9 = .bool x9_3 ∧ Aside0 (spec_ContraryOf.j0 kq a0_0 x9_3 a0_0 a0_1 a0_2 = some (r1,r2,r3)) ∧ Aside0 (kq ≤ k) ∧ Aside0 (wc.heap[gb361]? = some (.cells #[.int .i64 a0_0,.int .i64 a0_1,.int .i64 a0_2] 25 (0,0))) ∧ Aside0 (wc.heap[gb362]? = some (.cells #[.int .i64 0,.int .i64 0,.int .i64 0] 25 (0,0))) ∧ Aside0 (Below w.heap.size w wc));case first =>
   have H:=HC4.out;clear HC4;by_cases c11 : a0_0 = 0
   ·
    rw [if_pos c11] at H;have c11b0 : (a0_0 == 0) = true:=beq_iff_eq.mpr c11;have c11b1 : (a0_0 != 0) = false:=bne_eq_false_iff_eq.mpr c11;clear c11;(rw [c11b0]);have H':=Aside0.mk H;clear H;go_wp2;go_meet;case rel => exact ⟨_,((a0_0 == 0)),(by (simp [*];done)),H',⟨by omega⟩,⟨blkU BK361.out⟩,⟨blkU BK362.out⟩,⟨HB.out⟩⟩
   ·
    rw [if_neg c11] at H;have c11b0 : (a0_0 == 0) = false:=beq_eq_false_iff_ne.mpr c11;have c11b1 : (a0_0 != 0) = true:=bne_iff_ne.mpr c11;(rw [c11b0]);have H':=Aside0.mk H;clear H;go_wp2;go_meet;case rel => exact ⟨_,((a0_0 == 1)),(by rfl),H',⟨by omega⟩,⟨blkU BK361.out⟩,⟨blkU BK362.out⟩,⟨HB.out⟩⟩
  case rest =>
   clear HC4 hcz10_0 hcz10_1 hcz10_2 hcz8_0 hcz8_1 hcz8_2 hfz10_0 hfz10_1 hfz10_2 hfz8_0 hfz8_1 hfz8_2;obtain ⟨kq,x9_3,rfl,HA,HJ3,BK361,BK362,HB⟩:=hcut;cases kq with
   | zero => exact absurd HA.out (by simp [spec_ContraryOf.j0])
   | succ kj3 =>
    have H:=HA.out;clear HA;simp only [spec_ContraryOf.j0] at H;by_cases c12 : x9_3 = true
    ·
     subst c12;have H1 : ((spec_l5Other.f a0_2).bind fun t364 => (some (wrap64 (1 - a0_0),a0_1,t364))) = some (r1,r2,r3):=by rw [if_pos rfl] at H;exact H
     clear H;have H:=H1;clear H1;replace H:=Option.bind_eq_some_iff.mp H;obtain ⟨t364,A130,H⟩:=H;have A13:=Aside0.mk A130;clear A130;simp only [Option.some.injEq,Prod.mk.injEq] at H;obtain ⟨rfl,rfl,rfl⟩:=H;try go_wp2
     replace BK361:=Aside0.mk (blk_drew BK361.out);replace BK362:=Aside0.mk (blk_drew BK362.out);replace HB:=Aside0.mk (below_drew1 HB.out);refine start_ (n:=10) (S:=fun w' => w'.cell? ⟨gb361,0,none⟩ = some (.int .i64 a0_0) ∧ w'.cell? ⟨gb361,1,none⟩ = some (.int .i64 a0_1) ∧ w'.cell? ⟨gb361,2,none⟩ = some (.int .i64 a0_2)) (ds:=[]) #[false,false,false,false,false,false,false,false,false,false] (by kernel_rfl) rfl rfl ⟨(blk_cell BK361.out 0).trans rfl,(blk_cell BK361.out 1).trans rfl,(blk_cell BK361.out 2).trans rfl⟩ (fun hHeld => ?_);refine with_tabW spec_ContraryOf.tab6 spec_ContraryOf.bits6 (fun HT_ HW_ => ?_);generalize wc.drew = w14 at BK361 BK362 HB hHeld ⊢;refine pure_ (i:=0) (N:=some 12) (v:=?_) (a':=?_) #[true,false,false,false,false,false,false,false,false,false] rfl rfl (any_of HT_.out (by kernel_rfl)) (fun _ _ _ h => h) (Or.inl ⟨by rfl,?_⟩) ?_ ?_;rotate_left
     ·
      intro w';go_simp
      with_reducible rfl
     rotate_left
     ·
      simp only [Act.put,List.setIfInBounds_toArray,List.set_cons_zero,List.set_cons_succ,i64_w,i32_w];rfl
     refine pure_ (i:=3) (N:=some 15) (v:=?_) (a':=?_) #[true,false,false,true,false,false,false,false,false,false] rfl rfl (any_of HT_.out (by kernel_rfl)) (fun _ _ _ h => h) (Or.inl ⟨by rfl,?_⟩) ?_ ?_;rotate_left
     ·
      intro w';go_simp
      with_reducible rfl
     rotate_left
     ·
      simp only [Act.put,List.setIfInBounds_toArray,List.set_cons_zero,List.set_cons_succ,i64_w,i32_w];rfl
     refine pure_ (i:=5) (N:=some 17) (v:=?_) (a':=?_) #[true,false,false,true,false,true,false,false,false,false] rfl rfl (any_of HT_.out (by kernel_rfl)) (fun _ _ _ h => h) (Or.inl ⟨by rfl,?_⟩) ?_ ?_;rotate_left
     ·
      intro w';go_simp
      with_reducible rfl
     rotate_left
     ·
      simp only [Act.put,List.setIfInBounds_toArray,List.set_cons_zero,List.set_cons_succ,i64_w,i32_w];rfl
     refine take_ (i:=1) (N:=some 13) (v:=?_) (a':=?_) #[true,true,false,true,false,true,false,false,false,false] rfl rfl (take_ofW HT_.out HW_.out (by kernel_rfl)) (fun _ _ _ h => h) (Or.inl ⟨by rfl,?_⟩) hHeld ?_ ?_;rotate_left
     ·
      rintro w' ⟨s0,s1,s2⟩;go_simp
      with_reducible rfl
     rotate_left
     ·
      simp only [Act.put,List.setIfInBounds_toArray,List.set_cons_zero,List.set_cons_succ,i64_w,i32_w];rfl
     refine pure_ (i:=2) (N:=some 14) (v:=?_) (a':=?_) #[true,true,true,true,false,true,false,false,false,false] rfl rfl (any_of HT_.out (by kernel_rfl)) (fun _ _ _ h => h) (Or.inl ⟨by rfl,?_⟩) ?_ ?_;rotate_left
     ·
      intro w';go_simp
      with_reducible rfl
     rotate_left
     ·
      simp only [Act.put,List.setIfInBounds_toArray,List.set_cons_zero,List.set_cons_succ,i64_w,i32_w];rfl
     refine take_ (i:=4) (N:=some 16) (v:=?_) (a':=?_) #[true,true,true,true,true,true,false,false,false,false] rfl rfl (take_ofW HT_.out HW_.out (by kernel_rfl)) (fun _ _ _ h => h) (Or.inl ⟨by rfl,?_⟩) hHeld ?_ ?_;rotate_left
     ·
      rintro w' ⟨s0,s1,s2⟩;go_simp
      with_reducible rfl
     rotate_left
     ·
      simp only [Act.put,List.setIfInBounds_toArray,List.set_cons_zero,List.set_cons_succ,i64_w,i32_w];rfl
     refine take_ (i:=6) (N:=some 18) (v:=?_) (a':=?_) #[true,true,true,true,true,true,true,false,false,false] rfl rfl (take_ofW HT_.out HW_.out (by kernel_rfl)) (fun _ _ _ h => h) (Or.inl ⟨by rfl,?_⟩) hHeld ?_ ?_;rotate_left
     ·
      rintro w' ⟨s0,s1,s2⟩;go_simp
      with_reducible rfl
     rotate_left
     ·
      simp only [Act.put,List.setIfInBounds_toArray,List.set_cons_zero,List.set_cons_succ,i64_w,i32_w];rfl
     refine one_ (i:=7) (N:=some 19) #[true,true,true,true,true,true,true,true,false,false] rfl rfl (one_of HT_.out (by kernel_rfl)) (by decide) (fun K hK => ?_);refine goes_ Try.func37 (by kernel_rfl) rfl #[.int .i64 a0_2] (by rfl) rfl rfl (by (try simp only [List.map_toArray,List.map_cons,List.map_nil]);rfl) ?_
     with_reducible refine (spec_l5Other.calls a0_2 t364 _ A13.out).mono ?_
     rintro e w' ⟨rfl,⟨nd,rfl⟩⟩;refine ⟨_,rfl,?_⟩;refine hK.out _ _ ⟨(blk_cell BK361.out 0).trans rfl,(blk_cell BK361.out 1).trans rfl,(blk_cell BK361.out 2).trans rfl⟩ (fun hHeld => ?_);clear hK K;refine norm_ (a':=?_) ?_ ?_;rotate_left
     ·
      show Act.put _ (some 19) _ = _;simp only [Act.put,List.setIfInBounds_toArray,List.set_cons_zero,List.set_cons_succ,i64_w,i32_w];rfl
     refine pure_ (i:=8) (N:=some 20) (v:=?_) (a':=?_) #[true,true,true,true,true,true,true,true,true,false] rfl rfl (any_of HT_.out (by kernel_rfl)) (fun _ _ _ h => h) (Or.inl ⟨by rfl,?_⟩) ?_ ?_;rotate_left
     ·
      intro w';go_simp
      with_reducible rfl
     rotate_left
     ·
      simp only [Act.put,List.setIfInBounds_toArray,List.set_cons_zero,List.set_cons_succ,i64_w,i32_w];rfl
     refine one_ (i:=9) (N:=none) #[true,true,true,true,true,true,true,true,true,true] rfl rfl (one_of HT_.out (by kernel_rfl)) (by decide) (fun K hK => ?_);have hs15 : w14.cell? ⟨gb362,0,none⟩ = some (.int .i64 0):=(blk_cell BK362.out 0).trans rfl;have hfs15:=blk_frozen BK362.out 0;have hns15_0:=NB361_362.out;have hms15_0:=NB362_361.out;have hs16 : w14.cell? ⟨gb362,1,none⟩ = some (.int .i64 0):=(blk_cell BK362.out 1).trans rfl;have hfs16:=blk_frozen BK362.out 1;have hns16_0:=NB361_362.out;have hms16_0:=NB362_361.out;have hs17 : w14.cell? ⟨gb362,2,none⟩ = some (.int .i64 0):=(blk_cell BK362.out 2).trans rfl;have hfs17:=blk_frozen BK362.out 2;have hns17_0:=NB361_362.out;have hms17_0:=NB362_361.out;refine skip_ (w1:=?_) (by rfl) rfl ?_ ?_;rotate_left
     ·
      go_simp;rfl
     refine hK.out _ _ ⟨((cell_far (p:=⟨gb362,_,none⟩) NB361_362.out _).trans (((cell_far (p:=⟨gb362,_,none⟩) NB361_362.out _).trans (((cell_far (p:=⟨gb362,_,none⟩) NB361_362.out _).trans (hHeld.1)))))),((cell_far (p:=⟨gb362,_,none⟩) NB361_362.out _).trans (((cell_far (p:=⟨gb362,_,none⟩) NB361_362.out _).trans (((cell_far (p:=⟨gb362,_,none⟩) NB361_362.out _).trans (hHeld.2.1)))))),((cell_far (p:=⟨gb362,_,none⟩) NB361_362.out _).trans (((cell_far (p:=⟨gb362,_,none⟩) NB361_362.out _).trans (((cell_far (p:=⟨gb362,_,none⟩) NB361_362.out _).trans (hHeld.2.2))))))⟩ (fun hHeld => ?_);clear hK K;refine done_ (done_of HT_.out (by kernel_rfl)) ?_;try go_wp2
     refine bodyPost_ret (results_cell_row rfl _ _ gb362 25 #[.int .i64 (wrap64 (1 - a0_0)),.int .i64 a0_1,.int .i64 t364] (0,0) _ rfl (by refine blk_put (cs:=#[.int .i64 (wrap64 (1 - a0_0)),.int .i64 a0_1,.int .i64 0]) ?_ 2 _ rfl;refine blk_put (cs:=#[.int .i64 (wrap64 (1 - a0_0)),.int .i64 0,.int .i64 0]) ?_ 1 _ rfl;refine blk_put (cs:=#[.int .i64 0,.int .i64 0,.int .i64 0]) ?_ 0 _ rfl;(with_reducible repeat (refine blk_drewN ?_ _));exact BK362.out) Try.underlying25 rfl (by kernel_rfl)) rfl ?_;exact ⟨by rfl,by repeat (with_reducible first|exact HB.out|apply pw_below_drewN|refine below_set ?_ GE362.out)⟩
    ·
     replace c12:=Bool.eq_false_iff.mpr c12;subst c12;have H1 : (if a0_0 = 2 then (some (wrap64 (5 - a0_0),a0_2,a0_1)) else (if a0_0 = 3 then (some (wrap64 (5 - a0_0),a0_2,a0_1)) else (some (wrap64 (9 - a0_0),a0_1,a0_2)))) = some (r1,r2,r3):=by rw [if_neg (show ¬ (false = true) by decide)] at H;exact H
     clear H;have H:=H1;clear H1;by_cases c18 : a0_0 = 2
     ·
      rw [if_pos c18] at H;have c18b0 : (a0_0 == 2) = true:=beq_iff_eq.mpr c18;have c18b1 : (a0_0 != 2) = false:=bne_eq_false_iff_eq.mpr c18;clear c18;simp only [Option.some.injEq,Prod.mk.injEq] at H;obtain ⟨rfl,rfl,rfl⟩:=H;have hnb19:=NB361_362.out;have hnc19:=NB362_361.out;have hcz20_0 : wc.cell? ⟨gb361,0,none⟩ = some (.int .i64 a0_0):=(blk_cell BK361.out 0).trans rfl;have hcz20_1 : wc.cell? ⟨gb361,1,none⟩ = some (.int .i64 a0_1):=(blk_cell BK361.out 1).trans rfl;have hcz20_2 : wc.cell? ⟨gb361,2,none⟩ = some (.int .i64 a0_2):=(blk_cell BK361.out 2).trans rfl;have hfz20_0:=blk_frozen BK361.out 0;have hfz20_1:=blk_frozen BK361.out 1;have hfz20_2:=blk_frozen BK361.out 2;have hcz21_0 : wc.cell? ⟨gb362,0,none⟩ = some (.int .i64 0):=(blk_cell BK362.out 0).trans rfl;have hcz21_1 : wc.cell? ⟨gb362,1,none⟩ = some (.int .i64 0):=(blk_cell BK362.out 1).trans rfl;have hcz21_2 : wc.cell? ⟨gb362,2,none⟩ = some (.int .i64 0):=(blk_cell BK362.out 2).trans rfl;have hfz21_0:=blk_frozen BK362.out 0;have hfz21_1:=blk_frozen BK362.out 1;have hfz21_2:=blk_frozen BK362.out 2;go_wp2;refine bodyPost_ret (results_cell_row rfl _ _ gb362 25 #[.int .i64 (wrap64 (5 - a0_0)),.int .i64 a0_2,.int .i64 a0_1] (0,0) _ rfl (by refine blk_put (cs:=#[.int .i64 (wrap64 (5 - a0_0)),.int .i64 a0_2,.int .i64 0]) ?_ 2 _ rfl;refine blk_put (cs:=#[.int .i64 (wrap64 (5 - a0_0)),.int .i64 0,.int .i64 0]) ?_ 1 _ rfl;refine blk_put (cs:=#[.int .i64 0,.int .i64 0,.int .i64 0]) ?_ 0 _ rfl;exact BK362.out) Try.underlying25 rfl (by kernel_rfl)) rfl ?_;exact ⟨by rfl,by repeat (with_reducible first|exact HB.out|refine below_set ?_ GE362.out)⟩
     ·
      rw [if_neg c18] at H;have c18b0 : (a0_0 == 2) = false:=beq_eq_false_iff_ne.mpr c18;have c18b1 : (a0_0 != 2) = true:=bne_iff_ne.mpr c18;by_cases c22 : a0_0 = 3
      ·
       rw [if_pos c22] at H;have c22b0 : (a0_0 == 3) = true:=beq_iff_eq.mpr c22;have c22b1 : (a0_0 != 3) = false:=bne_eq_false_iff_eq.mpr c22;clear c22;simp only [Option.some.injEq,Prod.mk.injEq] at H;obtain ⟨rfl,rfl,rfl⟩:=H;have hnb23:=NB361_362.out;have hnc23:=NB362_361.out;have hcz24_0 : wc.cell? ⟨gb361,0,none⟩ = some (.int .i64 a0_0):=(blk_cell BK361.out 0).trans rfl;have hcz24_1 : wc.cell? ⟨gb361,1,none⟩ = some (.int .i64 a0_1):=(blk_cell BK361.out 1).trans rfl;have hcz24_2 : wc.cell? ⟨gb361,2,none⟩ = some (.int .i64 a0_2):=(blk_cell BK361.out 2).trans rfl;have hfz24_0:=blk_frozen BK361.out 0;have hfz24_1:=blk_frozen BK361.out 1;have hfz24_2:=blk_frozen BK361.out 2;have hcz25_0 : wc.cell? ⟨gb362,0,none⟩ = some (.int .i64 0):=(blk_cell BK362.out 0).trans rfl;have hcz25_1 : wc.cell? ⟨gb362,1,none⟩ = some (.int .i64 0):=(blk_cell BK362.out 1).trans rfl;have hcz25_2 : wc.cell? ⟨gb362,2,none⟩ = some (.int .i64 0):=(blk_cell BK362.out 2).trans rfl;have hfz25_0:=blk_frozen BK362.out 0;have hfz25_1:=blk_frozen BK362.out 1;have hfz25_2:=blk_frozen BK362.out 2;go_wp2;refine bodyPost_ret (results_cell_row rfl _ _ gb362 25 #[.int .i64 (wrap64 (5 - a0_0)),.int .i64 a0_2,.int .i64 a0_1] (0,0) _ rfl (by refine blk_put (cs:=#[.int .i64 (wrap64 (5 - a0_0)),.int .i64 a0_2,.int .i64 0]) ?_ 2 _ rfl;refine blk_put (cs:=#[.int .i64 (wrap64 (5 - a0_0)),.int .i64 0,.int .i64 0]) ?_ 1 _ rfl;refine blk_put (cs:=#[.int .i64 0,.int .i64 0,.int .i64 0]) ?_ 0 _ rfl;exact BK362.out) Try.underlying25 rfl (by kernel_rfl)) rfl ?_;exact ⟨by rfl,by repeat (with_reducible first|exact HB.out|refine below_set ?_ GE362.out)⟩
      ·
       rw [if_neg c22] at H;have c22b0 : (a0_0 == 3) = false:=beq_eq_false_iff_ne.mpr c22;have c22b1 : (a0_0 != 3) = true:=bne_iff_ne.mpr c22;simp only [Option.some.injEq,Prod.mk.injEq] at H;obtain ⟨rfl,rfl,rfl⟩:=H;have hnb26:=NB361_362.out;have hnc26:=NB362_361.out;have hcz27_0 : wc.cell? ⟨gb361,0,none⟩ = some (.int .i64 a0_0):=(blk_cell BK361.out 0).trans rfl;have hcz27_1 : wc.cell? ⟨gb361,1,none⟩ = some (.int .i64 a0_1):=(blk_cell BK361.out 1).trans rfl;have hcz27_2 : wc.cell? ⟨gb361,2,none⟩ = some (.int .i64 a0_2):=(blk_cell BK361.out 2).trans rfl;have hfz27_0:=blk_frozen BK361.out 0;have hfz27_1:=blk_frozen BK361.out 1;have hfz27_2:=blk_frozen BK361.out 2;have hcz28_0 : wc.cell? ⟨gb362,0,none⟩ = some (.int .i64 0):=(blk_cell BK362.out 0).trans rfl;have hcz28_1 : wc.cell? ⟨gb362,1,none⟩ = some (.int .i64 0):=(blk_cell BK362.out 1).trans rfl;have hcz28_2 : wc.cell? ⟨gb362,2,none⟩ = some (.int .i64 0):=(blk_cell BK362.out 2).trans rfl;have hfz28_0:=blk_frozen BK362.out 0;have hfz28_1:=blk_frozen BK362.out 1;have hfz28_2:=blk_frozen BK362.out 2;go_wp2;refine bodyPost_ret (results_cell_row rfl _ _ gb362 25 #[.int .i64 (wrap64 (9 - a0_0)),.int .i64 a0_1,.int .i64 a0_2] (0,0) _ rfl (by refine blk_put (cs:=#[.int .i64 (wrap64 (9 - a0_0)),.int .i64 a0_1,.int .i64 0]) ?_ 2 _ rfl;refine blk_put (cs:=#[.int .i64 (wrap64 (9 - a0_0)),.int .i64 0,.int .i64 0]) ?_ 1 _ rfl;refine blk_put (cs:=#[.int .i64 0,.int .i64 0,.int .i64 0]) ?_ 0 _ rfl;exact BK362.out) Try.underlying25 rfl (by kernel_rfl)) rfl ?_;exact ⟨by rfl,by repeat (with_reducible first|exact HB.out|refine below_set ?_ GE362.out)⟩
 ·
  replace c3:=Bool.eq_false_iff.mpr c3;subst c3;have H1 : (some (0,0,0)) = some (r1,r2,r3):=by rw [if_neg (show ¬ (false = true) by decide)] at H;exact H
  clear H;have H:=H1;clear H1;simp only [Option.some.injEq,Prod.mk.injEq] at H;obtain ⟨rfl,rfl,rfl⟩:=H;go_enter Try.func21,Try.ntmps21;go_wp2_with (first|((with_reducible refine gate_dst (N:=1) rfl ?_);refine box_event ?hg (N:=1) ?hd (cs:=#[.int .i64 a0_0,.int .i64 a0_1,.int .i64 a0_2]) (t:=25) ?hr ?_;(case hd => rfl);(case hg => rfl);(case hr => go_simp;done);intro gb361 hg w29 hbox hb;have BK361:=Aside0.mk (hbox);have GW361:=Aside0.mk ((by rw [hg];exact (below_size (belU HB.out)) : w.heap.size ≤ gb361));have GE361:=Aside0.mk ((by rw [hg];exact (below_size (belU HB.out)) : w.heap.size ≤ gb361));replace HB:=Aside0.mk (below_step (belU HB.out) hb);clear hb hbox hg)|((with_reducible refine gate_dst (N:=2) rfl ?_);refine box_event ?hg (N:=2) ?hd (cs:=#[.int .i64 0,.int .i64 0,.int .i64 0]) (t:=25) ?hr ?_;(case hd => rfl);(case hg => rfl);(case hr => go_simp;done);intro gb362 hg w30 hbox hb;have BK362:=Aside0.mk (hbox);have GW362:=Aside0.mk ((by rw [hg];exact (below_size HB.out) : w.heap.size ≤ gb362));have GE362:=Aside0.mk ((by rw [hg];exact (below_size HB.out) : w.heap.size ≤ gb362));replace HB:=Aside0.mk (below_step HB.out hb);have NB361_362:=Aside0.mk ((by rw [hg];exact Nat.ne_of_lt (blk_lt (g:=gb361) (o:=.cells #[.int .i64 a0_0,.int .i64 a0_1,.int .i64 a0_2] 25 (0,0)) (blkU BK361.out)) : gb361 ≠ gb362));have NB362_361:=Aside0.mk ((by rw [hg];exact Nat.ne_of_gt (blk_lt (g:=gb361) (o:=.cells #[.int .i64 a0_0,.int .i64 a0_1,.int .i64 a0_2] 25 (0,0)) (blkU BK361.out)) : gb362 ≠ gb361));replace BK361:=Aside0.mk (blk_below (g:=gb361) (o:=.cells #[.int .i64 a0_0,.int .i64 a0_1,.int .i64 a0_2] 25 (0,0)) (blkU BK361.out) hb);clear hb hbox hg;have hnb31:=NB361_362.out;have hnc31:=NB362_361.out;have hcz32_0 : w30.cell? ⟨gb361,0,none⟩ = some (.int .i64 a0_0):=(blk_cell BK361.out 0).trans rfl;have hcz32_1 : w30.cell? ⟨gb361,1,none⟩ = some (.int .i64 a0_1):=(blk_cell BK361.out 1).trans rfl;have hcz32_2 : w30.cell? ⟨gb361,2,none⟩ = some (.int .i64 a0_2):=(blk_cell BK361.out 2).trans rfl;have hfz32_0:=blk_frozen BK361.out 0;have hfz32_1:=blk_frozen BK361.out 1;have hfz32_2:=blk_frozen BK361.out 2)|((with_reducible refine gate_callee (f:=9) rfl ?_);refine goesL_ (some 4) rfl rfl Try.func9 (by kernel_rfl) rfl #[.agg #[.int .i64 a0_0,.int .i64 a0_1,.int .i64 a0_2]] rfl (by (try simp only [List.map_toArray,List.map_cons,List.map_nil]);rfl) ?_;(with_reducible refine (spec_WeighOk.calls a0_0 a0_1 a0_2 false _ A2.out).mono ?_);rintro e w33 ⟨rfl,hb⟩;refine ⟨_,rfl,?_⟩;replace BK361:=Aside0.mk (blk_below (g:=gb361) (o:=.cells #[.int .i64 a0_0,.int .i64 a0_1,.int .i64 a0_2] 25 (0,0)) (blkU BK361.out) hb);replace BK362:=Aside0.mk (blk_below (g:=gb362) (o:=.cells #[.int .i64 0,.int .i64 0,.int .i64 0] 25 (0,0)) (blkU BK362.out) hb);replace HB:=Aside0.mk (below_step HB.out hb);(try clear hb);have hcz34_0 : w33.cell? ⟨gb362,0,none⟩ = some (.int .i64 0):=(blk_cell BK362.out 0).trans rfl;have hcz34_1 : w33.cell? ⟨gb362,1,none⟩ = some (.int .i64 0):=(blk_cell BK362.out 1).trans rfl;have hcz34_2 : w33.cell? ⟨gb362,2,none⟩ = some (.int .i64 0):=(blk_cell BK362.out 2).trans rfl;have hfz34_0:=blk_frozen BK362.out 0;have hfz34_1:=blk_frozen BK362.out 1;have hfz34_2:=blk_frozen BK362.out 2))
  refine bodyPost_ret (results_cell_row rfl _ _ gb362 25 #[.int .i64 0,.int .i64 0,.int .i64 0] (0,0) _ rfl (by refine blk_put (cs:=#[.int .i64 0,.int .i64 0,.int .i64 0]) ?_ 2 _ rfl;refine blk_put (cs:=#[.int .i64 0,.int .i64 0,.int .i64 0]) ?_ 1 _ rfl;refine blk_put (cs:=#[.int .i64 0,.int .i64 0,.int .i64 0]) ?_ 0 _ rfl;exact BK362.out) Try.underlying25 rfl (by kernel_rfl)) rfl ?_;exact ⟨by rfl,by repeat (with_reducible first|exact HB.out|refine below_set ?_ GE362.out)⟩

end Go.Proofs.Ytmkfmbjemdbigaa.PA
