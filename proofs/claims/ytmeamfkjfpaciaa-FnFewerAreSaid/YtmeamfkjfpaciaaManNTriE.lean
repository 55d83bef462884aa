/- impl.namedTriangle at the name every: its closure, triangleBy, the call; no condition. -/
import Derived.Test.YtmeamfkjfpaciaaManTriB
import Derived.Test.YtmeamfkjfpaciaaPAx30
namespace Go.Proofs.Ytmeamfkjfpaciaa.Man
open Go.RowKit Go.Proofs.Ytmeamfkjfpaciaa.PA Go.Proofs.YtmeamfkjfpaciaaW.PrintWords Go.Proofs.YtmeamfkjfpaciaaW.PrintLast Go.Proofs.YtmeamfkjfpaciaaW.PrintMore
set_option linter.unusedVariables false
set_option linter.unusedSimpArgs false

theorem blk_by {W w1 : World} {g t : Nat} {cs : Array Value} (h : W.heap[g]? = some (.cells cs t (0, 0))) {b : Nat} (hb0 : b = W.heap.size) (hb : Below W.heap.size W w1) (v : Value) : (w1.setCell ⟨b, 0, none⟩ v).heap[g]? = some (.cells cs t (0, 0)) := by
  have hne : g ≠ b := by have := blk_lt h; omega
  exact (Below.heap_setCell _ ⟨b, 0, none⟩ _ g hne).trans (blk_below h hb)
theorem below_by {w W w1 : World} (h : Below w.heap.size w W) {b : Nat} (hb0 : b = W.heap.size) (hb : Below W.heap.size W w1) (v : Value) : Below w.heap.size w (w1.setCell ⟨b, 0, none⟩ v) :=
  below_set (below_step h hb) (by have := below_size h; omega)

/-- The closure's answer. -/
def pE (a s : Nat) : Bool := ((s : Int) == (a : Int))
set_option maxHeartbeats 2000000 in
set_option maxRecDepth 100000 in
theorem clE (W : World) (x y : Int) (a s : Nat) (hx : x = (a : Int)) (hy : y = (s : Int)) : Calls Try.prog 59 #[.int .i64 x, .int .i64 y] W fun e w' => e = .returned (.bool (pE a s)) ∧ Below W.heap.size W w' := by
  have HX := Aside0.mk (show (y == x) = pE a s by rw [hx, hy]; rfl)
  have HB := Aside0.mk (Below.refl W.heap.size W)
  clear hx hy
  go_enter Try.func59, Try.ntmps59
  go_wp2
  go_ret
  exact ⟨by rw [HX.out]; rfl, HB.out⟩
set_option maxHeartbeats 8000000 in
set_option maxRecDepth 100000 in
theorem ntriE (s : ByteArray) (xA xJ xB : Int) (w : World) (h0 : s.toList = ([101, 118, 101, 114, 121] : List UInt8)) 
    (cA : impl_countIn.f s ⟨#[97, 116, 108, 101, 97, 115, 116]⟩ 1 5 = some (xA, false)) (cJ : impl_countIn.f s ⟨#[106, 117, 115, 116]⟩ 0 5 = some (xJ, false)) (cB : impl_countIn.f s ⟨#[97, 108, 108, 98, 117, 116]⟩ 0 5 = some (xB, false)) :
    Calls Try.prog 41 #[.string s] w fun e w' => ∃ v, e = .returned (.tuple #[v, .bool true]) ∧ Kd.R (Kd.int .i64) 3 w' w.heap.size (fun _ => True) v (triRow pE) ∧ Below w.heap.size w w' := by
  have eg := enters_of Try.func59 (by kernel_rfl) rfl
  have hnil : ∀ (w : World) (lb : Array Value), Sem.run Try.prog (binOp .eql 33 (.func (.func 59) #[] lb) .nilFunc) w = .ok (.bool false) w := fun w lb => by kernel_rfl
  have CA := Aside0.mk (fun W => impl_countIn.calls s _ _ _ _ _ W cA)
  have CJ := Aside0.mk (fun W => impl_countIn.calls s _ _ _ _ _ W cJ)
  have CB := Aside0.mk (fun W => impl_countIn.calls s _ _ _ _ _ W cB)
  have HB0 := Aside0.mk (Below.refl w.heap.size w)
  have HT := Aside0.mk (fun W => triangleBy pE 59 #[] eg W (fun V x y a s hx hy _ _ hv => clE V x y a s hx hy))
  clear cA cJ cB eg
  have t0 : (s.toList == ([101, 118, 101, 114, 121] : List UInt8)) = true := beq_iff_eq.mpr h0
  clear h0
  go_enter Try.func41, Try.ntmps41
  go_wp2_with (first | (go_at_call 64; (with_reducible refine (CA.out _).mono ?_); rintro e w1 ⟨rfl, hd_⟩; have hb_ := Drawn0.below hd_; have HB1 := Aside0.mk (below_step HB0.out hb_); clear hd_ hb_) | ((with_reducible refine gate_dst (N := 5) rfl ?_); refine box_event ?hg (N := 5) ?hd (cs := #[.int .i64 0]) (t := 3) ?hr ?_; (case hd => rfl); (case hg => rfl); (case hr => first | (go_simp; done) | (go_simp; rfl)); intro g5 hg5 wg5 hbox hb; have HB2 := Aside0.mk (below_by HB1.out hg5 hb (.int .i64 xA)); have BKA2 := Aside0.mk (blk_put (cs := #[.int .i64 0]) hbox 0 (.int .i64 xA) rfl); have hc5 : wg5.cell? ⟨g5, 0, none⟩ = some (.int .i64 0) := (blk_cell hbox 0).trans rfl; have hf5 := blk_frozen hbox 0; clear hbox hb hg5) | (go_at_call 64; (with_reducible refine (CJ.out _).mono ?_); rintro e w3 ⟨rfl, hd_⟩; have hb_ := Drawn0.below hd_; have HB3 := Aside0.mk (below_step HB2.out hb_); have BKA3 := Aside0.mk (blk_below BKA2.out hb_); clear hd_ hb_) | ((with_reducible refine gate_dst (N := 7) rfl ?_); refine box_event ?hg (N := 7) ?hd (cs := #[.int .i64 0]) (t := 3) ?hr ?_; (case hd => rfl); (case hg => rfl); (case hr => first | (go_simp; done) | (go_simp; rfl)); intro g7 hg7 wg7 hbox hb; have HB4 := Aside0.mk (below_by HB3.out hg7 hb (.int .i64 xJ)); have BKA4 := Aside0.mk (blk_by BKA3.out hg7 hb (.int .i64 xJ)); have BKJ4 := Aside0.mk (blk_put (cs := #[.int .i64 0]) hbox 0 (.int .i64 xJ) rfl); have hc7 : wg7.cell? ⟨g7, 0, none⟩ = some (.int .i64 0) := (blk_cell hbox 0).trans rfl; have hf7 := blk_frozen hbox 0; clear hbox hb hg7) | (go_at_call 64; (with_reducible refine (CB.out _).mono ?_); rintro e w5 ⟨rfl, hd_⟩; have hb_ := Drawn0.below hd_; have HB5 := Aside0.mk (below_step HB4.out hb_); have BKA5 := Aside0.mk (blk_below BKA4.out hb_); have BKJ5 := Aside0.mk (blk_below BKJ4.out hb_); clear hd_ hb_) | ((with_reducible refine gate_dst (N := 9) rfl ?_); refine box_event ?hg (N := 9) ?hd (cs := #[.int .i64 0]) (t := 3) ?hr ?_; (case hd => rfl); (case hg => rfl); (case hr => first | (go_simp; done) | (go_simp; rfl)); intro g9 hg9 wg9 hbox hb; have HB6 := Aside0.mk (below_by HB5.out hg9 hb (.int .i64 xB)); have BKA6 := Aside0.mk (blk_by BKA5.out hg9 hb (.int .i64 xB)); have BKJ6 := Aside0.mk (blk_by BKJ5.out hg9 hb (.int .i64 xB)); have BKB6 := Aside0.mk (blk_put (cs := #[.int .i64 0]) hbox 0 (.int .i64 xB) rfl); have hc9 : wg9.cell? ⟨g9, 0, none⟩ = some (.int .i64 0) := (blk_cell hbox 0).trans rfl; have hf9 := blk_frozen hbox 0; clear hbox hb hg9) | (go_at_call 32; (with_reducible refine (HT.out _).mono ?_); rintro e wz ⟨v, rfl, hv_, hb_⟩; have HV := Aside0.mk (Kd.R_lower hv_ (below_size HB6.out)); have HBz := Aside0.mk (below_step HB6.out hb_); clear hv_ hb_))
  go_ret2
  exact ⟨_, rfl, HV.out, HBz.out⟩
def sEv : ByteArray := ⟨#[101, 118, 101, 114, 121]⟩
theorem ev_eq {s : ByteArray} (h : s.toList = ([101, 118, 101, 114, 121] : List UInt8)) : s = sEv := by
  rw [ByteArray.toList_eq] at h
  have h3 : s.data = sEv.data := Array.toList_inj.1 h
  cases s with
  | mk d => exact congrArg ByteArray.mk h3
theorem cntA : impl_countIn.f sEv ⟨#[97, 116, 108, 101, 97, 115, 116]⟩ 1 5 = some (0, false) := by kernel_rfl
theorem cntJ : impl_countIn.f sEv ⟨#[106, 117, 115, 116]⟩ 0 5 = some (0, false) := by kernel_rfl
theorem cntB : impl_countIn.f sEv ⟨#[97, 108, 108, 98, 117, 116]⟩ 0 5 = some (0, false) := by kernel_rfl
theorem ntri (s : ByteArray) (w : World) (h : s.toList = ([101, 118, 101, 114, 121] : List UInt8)) :
    Calls Try.prog 41 #[.string s] w fun e w' => ∃ v, e = .returned (.tuple #[v, .bool true]) ∧ Kd.R (Kd.int .i64) 3 w' w.heap.size (fun _ => True) v (triRow pE) ∧ Below w.heap.size w w' := by
  obtain rfl := ev_eq h
  exact ntriE sEv 0 0 0 w h cntA cntJ cntB
end Go.Proofs.Ytmeamfkjfpaciaa.Man
