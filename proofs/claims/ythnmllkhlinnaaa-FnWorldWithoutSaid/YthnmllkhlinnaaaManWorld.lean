/- impl.WorldWithout: its closure, and the call: it answers the least world in which some sentences are so and a further one is not; no condition. -/
import Derived.Test.YthnmllkhlinnaaaManSaid
import Derived.Test.YthnmllkhlinnaaaSemSoIn
import Derived.Test.YthnmllkhlinnaaaPAx25
import Derived.Test.YthnmllkhlinnaaaPAx26
namespace Go.Proofs.Ythnmllkhlinnaaa.Man
open Go.RowKit Go.Proofs.Ythnmllkhlinnaaa.PA Go.Proofs.YthnmllkhlinnaaaW.PrintWords Go.Proofs.YthnmllkhlinnaaaW.PrintLast Go.Proofs.YthnmllkhlinnaaaW.PrintMore
set_option linter.unusedVariables false
set_option linter.unusedSimpArgs false

/-- Is a sentence so in a world? -/
def soI (k w : Int) (x : S29) : Bool := Sem.soB k.toNat x.f0.toNat x.f1.toNat x.f2.toNat w
theorem okB_ok (k : Int) (x : S29) : okB k x = decide (Sem.OkSay k x.f0 x.f1 x.f2) := by
  unfold okB
  rw [Sem.impl_isSay_eq]; rfl
theorem soI_some {k w : Int} {x : S29} (h : okB k x = true) (h0 : 0 ≤ w) (h1 : w < 9223372036854775808) : ∃ n, impl_soIn.f n k w x.f0 x.f1 x.f2 = some (soI k w x) := by
  rw [okB_ok, decide_eq_true_eq] at h
  obtain ⟨k', f', o', t', rfl, e1, e2, e3, _, h2, h3, h4, h5⟩ := Sem.ok_nat h
  unfold soI
  rw [e1, e2, e3]
  simp only [Int.toNat_natCast]
  exact Ev.rounds (Sem.impl_so k' f' o' t' h2 h3 (by omega) (by omega) w h0 h1)

/-- The closure: whether a sentence is not so in the world of this round. -/
theorem worldWithout1 (Bk Bw : Nat) (k x0 : Int) (w : World) (hk : Bk < w.heap.size) (hck : w.cell? ⟨Bk, 0, none⟩ = some (.int .i64 k)) (hw : Bw < w.heap.size) (hcw : w.cell? ⟨Bw, 0, none⟩ = some (.int .i64 x0))
    (h0 : 0 ≤ x0) (h1 : x0 < 9223372036854775808) (l : List S29) (hl : ∀ x ∈ l, okB k x = true) :
    PredSay 34 #[.pointer (some ⟨Bk, 0, none⟩), .pointer (some ⟨Bw, 0, none⟩)] (fun x => !soI k x0 x) w l := by
  intro W x hx hb
  obtain ⟨n, hn⟩ := soI_some (hl x hx) h0 h1
  have hck' := (hb.cell (p := ⟨Bk, 0, none⟩) hk).trans hck
  have hcw' := (hb.cell (p := ⟨Bw, 0, none⟩) hw).trans hcw
  have HB := Aside0.mk (Below.refl W.heap.size W)
  have HN1 : Bk < W.heap.size := Nat.lt_of_lt_of_le hk hb.size
  have HN2 : Bw < W.heap.size := Nat.lt_of_lt_of_le hw hb.size
  have hne1 : ¬ W.heap.size = Bk := by omega
  have hne2 : ¬ W.heap.size = Bw := by omega
  clear hck hcw hb hk hw hl hx
  obtain ⟨q, hq⟩ : ∃ q, soI k x0 x = q := ⟨_, rfl⟩
  rw [hq] at hn
  have HQ := Aside0.mk hq
  have HK := Aside0.mk hn
  clear hq hn
  go_enter Try.func34, Try.ntmps34
  go_wp2_with (go_at_call 35; refine (impl_soIn.calls n k x0 x.f0 x.f1 x.f2 q _ HK.out).mono ?_; rintro e w' ⟨rfl, hb'⟩)
  go_ret
  exact ⟨by show _ = Ending.returned (.bool (!soI k x0 x)); rw [HQ.out]; rfl, below_step (below_alloc HB.out _) hb'⟩

/-- What the loop over worlds answers, from a world on. -/
def findW (k : Int) (l : List S29) (s : S29) : List Nat → Int × Bool
  | [] => (-1, false)
  | w :: ws => if (l.all (soI k w) && !soI k w s) = true then ((w : Int), true) else findW k l s ws
/-- What WorldWithout answers. -/
def worldB (k : Int) (l : List S29) (s : S29) : Int × Bool :=
  if (saidB k l && okB k s) = true then findW k l s (List.range (2 ^ 2 ^ k.toNat)) else (-1, false)

set_option maxHeartbeats 4000000 in
theorem WorldWithout (k : Int) (A : Option Addr) (c : Nat) (l : List S29) (s : S29) (w : World) (hr : Kd.C k29 w A l.length l) :
    Calls Try.prog 17 #[.int .i64 k, .slice A l.length c, .agg #[.int .i64 s.f0, .int .i64 s.f1, .int .i64 s.f2]] w fun e w' => e = .returned (.tuple #[.int .i64 (worldB k l s).1, .bool (worldB k l s).2]) ∧ Below w.heap.size w w' := by
  have hlen : l.length ≤ 9223372036854775807 := hr.2.1
  have HB := Aside0.mk (Below.refl w.heap.size w)
  have eg := enters_of Try.func34 (by kernel_rfl) rfl
  have HR := Aside0.mk hr
  clear hr
  have HA := Aside0.mk (fun W hW => areSaid k A c l W hW)
  obtain ⟨q, hq⟩ : ∃ q, saidB k l = q := ⟨_, rfl⟩
  obtain ⟨q2, hq2⟩ : ∃ q, okB k s = q := ⟨_, rfl⟩
  have HS := Aside0.mk (okB_eq k s)
  simp only [hq, hq2] at HA HS
  have HQ := Aside0.mk hq
  have HQ2 := Aside0.mk hq2
  clear hq hq2
  have hk0 := HB.out
  have HW1 := Aside0.mk (below_alloc (below_alloc HB.out (.cells #[.int .i64 k] 3)) (.cells #[.int .i64 s.f0, .int .i64 s.f1, .int .i64 s.f2] 29))
  have HBK := Aside0.mk (blk_alloc (heap_alloc_new w (.cells #[.int .i64 k] 3)) (.cells #[.int .i64 s.f0, .int .i64 s.f1, .int .i64 s.f2] 29))
  have HBS := Aside0.mk (heap_alloc_new (w.alloc (.cells #[.int .i64 k] 3)) (.cells #[.int .i64 s.f0, .int .i64 s.f1, .int .i64 s.f2] 29))
  clear hk0
  cases q with
  | false =>
    have HE : Aside0 (worldB k l s = (-1, false)) := ⟨by unfold worldB; rw [HQ.out]; rfl⟩
    go_enter Try.func17, Try.ntmps17
    go_wp2_with (go_at_call 26; refine (HA.out _ (Kd.C_below HR.out HW1.out)).mono ?_; rintro e w' ⟨rfl, hb'⟩)
    go_ret2
    exact ⟨by rw [HE.out]; rfl, below_step HW1.out hb'⟩
  | true =>
    cases q2 with
    | false =>
      have HE : Aside0 (worldB k l s = (-1, false)) := ⟨by unfold worldB; rw [HQ.out, HQ2.out]; rfl⟩
      go_enter Try.func17, Try.ntmps17
      go_wp2_with (first | (go_at_call 26; refine (HA.out _ (Kd.C_below HR.out HW1.out)).mono ?_; rintro e w1 ⟨rfl, hb'⟩; have HB1 := Aside0.mk (below_step HW1.out hb'); have BS1 := Aside0.mk (blk_below HBS.out hb'); have x0 : w1.cell? ⟨w.heap.size + 1, 0, none⟩ = some (.int .i64 s.f0) := (blk_cell (by simpa using BS1.out) 0).trans rfl; have x1 : w1.cell? ⟨w.heap.size + 1, 1, none⟩ = some (.int .i64 s.f1) := (blk_cell (by simpa using BS1.out) 1).trans rfl; have x2 : w1.cell? ⟨w.heap.size + 1, 2, none⟩ = some (.int .i64 s.f2) := (blk_cell (by simpa using BS1.out) 2).trans rfl; have BK1 := Aside0.mk (blk_below HBK.out hb'); have xk : w1.cell? ⟨w.heap.size, 0, none⟩ = some (.int .i64 _) := (blk_cell BK1.out 0).trans rfl; clear hb') | (go_at_call 27; refine (impl_isSay.calls _ _ _ _ _ _ HS.out).mono ?_; rintro e w2 ⟨rfl, hb2⟩))
      go_ret2
      exact ⟨by rw [HE.out]; rfl, below_step HB1.out hb2⟩
    | true =>
      have HE : Aside0 (worldB k l s = findW k l s (List.range (2 ^ 2 ^ k.toNat))) := ⟨by unfold worldB; rw [HQ.out, HQ2.out]; rfl⟩
      have hk3 : k = 1 ∨ k = 2 ∨ k = 3 := by
        have h := HQ.out
        unfold saidB at h
        simp only [Bool.and_eq_true, decide_eq_true_eq] at h
        omega
      have HL : Aside0 (∀ x ∈ l, okB k x = true) := ⟨by
        have h := HQ.out
        unfold saidB at h
        simp only [Bool.and_eq_true, decide_eq_true_eq] at h
        exact List.all_eq_true.1 h.2⟩
      have hk3' : 1 ≤ k ∧ k ≤ 3 := by omega
      have c0b : decide (0 ≤ k) = true := decide_eq_true (by omega)
      obtain ⟨M, hM⟩ : ∃ M : Int, shl .u64 1 k = M := ⟨_, rfl⟩
      obtain ⟨N, hN⟩ : ∃ N : Int, shl .i64 1 M = N := ⟨_, rfl⟩
      obtain ⟨n, hn⟩ : ∃ n : Nat, 2 ^ 2 ^ k.toNat = n := ⟨_, rfl⟩
      have HNn : Aside0 (N = (n : Int)) := ⟨by
        rw [← hN, ← hM, ← hn]
        have h := Sem.shl_worlds k.toNat (by omega)
        rw [Int.toNat_of_nonneg (by omega)] at h
        rw [h]; rfl⟩
      have hn256 : n ≤ 256 := by
        have h := (Sem.worlds_le (kinds := k.toNat) (by omega)).2
        unfold Sem.worlds at h
        rw [hn] at h
        omega
      have HNk := Aside0.mk hn
      rw [hn] at HE
      clear hn hk3
      have hNn' : Aside0 ((0 : Int) ≤ N ∧ N ≤ 256) := ⟨by have := HNn.out; omega⟩
      have hMn : 0 ≤ M := by rw [← hM]; unfold shl IntKind.wrap; simp only [IntKind.signed, Bool.false_and, Bool.false_eq_true, if_false]; exact Int.emod_nonneg _ (by decide)
      have hMd : decide ((0 : Int) ≤ M) = true := decide_eq_true hMn
      have hM_ : (IntKind.u64.wrap (1 * 2 ^ min k.toNat 64)) = M := hM
      have hMu : (IntKind.u64.wrap (2 ^ min k.toNat 64)) = M := by have h_ := hM_; rw [Int.one_mul] at h_; exact h_
      have hMz : (IntKind.u64.wrap (1 * 2 ^ k.toNat)) = M := shl_small hM (by show k ≤ 64; omega)
      have hMv : (IntKind.u64.wrap (2 ^ k.toNat)) = M := by have h_ := hMz; rw [Int.one_mul] at h_; exact h_
      have hN_ : (IntKind.i64.wrap (1 * 2 ^ min M.toNat 64)) = N := hN
      have hNu : (IntKind.i64.wrap (2 ^ min M.toNat 64)) = N := by have h_ := hN_; rw [Int.one_mul] at h_; exact h_
      have hNz : M ≤ 64 → (IntKind.i64.wrap (1 * 2 ^ M.toNat)) = N := shl_small hN
      have hNv : M ≤ 64 → (IntKind.i64.wrap (2 ^ M.toNat)) = N := fun hle_ => by have h_ := hNz hle_; rw [Int.one_mul] at h_; exact h_
      have hNy : (wrap64 (1 * 2 ^ min M.toNat 64)) = N := (i64_w _).symm.trans hN_
      clear hM hN
      go_enter Try.func17, Try.ntmps17
      go_wp2_with (first | (go_at_call 26; refine (HA.out _ (Kd.C_below HR.out HW1.out)).mono ?_; rintro e w1 ⟨rfl, hb'⟩; have HB1 := Aside0.mk (below_step HW1.out hb'); have BS1 := Aside0.mk (blk_below HBS.out hb'); have x0 : w1.cell? ⟨w.heap.size + 1, 0, none⟩ = some (.int .i64 s.f0) := (blk_cell (by simpa using BS1.out) 0).trans rfl; have x1 : w1.cell? ⟨w.heap.size + 1, 1, none⟩ = some (.int .i64 s.f1) := (blk_cell (by simpa using BS1.out) 1).trans rfl; have x2 : w1.cell? ⟨w.heap.size + 1, 2, none⟩ = some (.int .i64 s.f2) := (blk_cell (by simpa using BS1.out) 2).trans rfl; have BK1 := Aside0.mk (blk_below HBK.out hb'); have xk : w1.cell? ⟨w.heap.size, 0, none⟩ = some (.int .i64 k) := (blk_cell BK1.out 0).trans rfl; clear hb') | (go_at_call 27; refine (impl_isSay.calls _ _ _ _ _ _ HS.out).mono ?_; rintro e w2 ⟨rfl, hb2⟩; have HB2 := Aside0.mk (below_step HB1.out hb2); have BS2 := Aside0.mk (blk_below BS1.out hb2); have BK2 := Aside0.mk (blk_below BK1.out hb2); have xk2 : w2.cell? ⟨w.heap.size, 0, none⟩ = some (.int .i64 k) := (blk_cell BK2.out 0).trans rfl; clear hb2))
      replace hNn' := hNn'.out
      clear x0 x1 x2 xk xk2 hM_ hMu hMz hMv hN_ hNu hNz hNv hNy hMd hMn c0b
      have HF := Aside0.mk (fun W Bw x hk hck hw hcw h0 h1 hr => ContainsFunc (fun y => !soI k x y) 34 #[.pointer (some ⟨w.heap.size, 0, none⟩), .pointer (some ⟨Bw, 0, none⟩)] eg A c l W (worldWithout1 w.heap.size Bw k x W hk hck hw hcw h0 h1 l HL.out) hr)
      have HSO := Aside0.mk (fun x h0 h1 => soI_some (w := x) HQ2.out h0 h1)
      have HE0 : Aside0 (worldB k l s = findW k l s (List.range' 0 (n - 0))) := ⟨by rw [HE.out, List.range_eq_range']; rfl⟩
      go_loopg [23] n (fun gg s23 wr => ∃ kk : Nat, kk ≤ n ∧ n - kk ≤ gg ∧ s23 = .int .i64 kk ∧ Aside0 (Below w.heap.size w wr) ∧ Aside0 (wr.heap[w.heap.size]? = some (.cells #[.int .i64 k] 3 (0, 0))) ∧ Aside0 (wr.heap[w.heap.size + 1]? = some (.cells #[.int .i64 s.f0, .int .i64 s.f1, .int .i64 s.f2] 29 (0, 0))) ∧ Aside0 (worldB k l s = findW k l s (List.range' kk (n - kk))))
      case atStart => exact ⟨0, Nat.zero_le _, by omega, rfl, HB2, BK2, ⟨by simpa using BS2.out⟩, HE0⟩
      case round =>
        clear HE HE0
        obtain ⟨kk, hkk, hg, rfl, HBr, BKr, BSr, HE⟩ := hrel
        by_cases hlt : kk < n
        · have hltz : (kk : Int) < N := by have := HNn.out; omega
          have hd : List.range' kk (n - kk) = kk :: List.range' (kk + 1) (n - (kk + 1)) := Sem.range_from kk n hlt
          rw [hd] at HE
          clear hd
          obtain ⟨a, ha⟩ : ∃ a, l.any (fun y => !soI k (kk : Int) y) = a := ⟨_, rfl⟩
          obtain ⟨q, hq⟩ : ∃ q, soI k (kk : Int) s = q := ⟨_, rfl⟩
          obtain ⟨m, hm⟩ := HSO.out (kk : Int) (by omega) (by omega)
          have hall : l.all (soI k (kk : Int)) = !l.any (fun y => !soI k (kk : Int) y) := by rw [List.not_any_eq_all_not]; simp
          have HFr := Aside0.mk (HF.out (wr.alloc (.cells #[.int .i64 kk] 3)) wr.heap.size (kk : Int))
          rw [ha] at HFr
          rw [hq] at hm
          have HM := Aside0.mk hm
          have HE1 : Aside0 (worldB k l s = if (!a && !q) = true then ((kk : Int), true) else findW k l s (List.range' (kk + 1) (n - (kk + 1)))) := ⟨by rw [HE.out, findW, hall, ha, hq]⟩
          clear ha hq hm hall HE
          have HBa := Aside0.mk (below_alloc HBr.out (.cells #[.int .i64 kk] 3))
          have BKa := Aside0.mk (blk_alloc BKr.out (.cells #[.int .i64 kk] 3))
          have BSa := Aside0.mk (blk_alloc BSr.out (.cells #[.int .i64 kk] 3))
          have BWa := Aside0.mk (heap_alloc_new wr (.cells #[.int .i64 kk] 3))
          cases a with
          | true =>
            go_wp2_with (go_at_call 33; refine (HFr.out (blk_lt BKa.out) ((blk_cell BKa.out 0).trans rfl) (blk_lt BWa.out) ((blk_cell BWa.out 0).trans rfl) (by omega) (by omega) (Kd.C_below HR.out HBa.out)).mono ?_; rintro e w3 ⟨rfl, hb3⟩; have HB3 := Aside0.mk (below_step HBa.out hb3); have BS3 := Aside0.mk (blk_below BSa.out hb3); have BK3 := Aside0.mk (blk_below BKa.out hb3); have BW3 := Aside0.mk (blk_below BWa.out hb3); have x0 : w3.cell? ⟨w.heap.size + 1, 0, none⟩ = some (.int .i64 s.f0) := (blk_cell BS3.out 0).trans rfl; have x1 : w3.cell? ⟨w.heap.size + 1, 1, none⟩ = some (.int .i64 s.f1) := (blk_cell BS3.out 1).trans rfl; have x2 : w3.cell? ⟨w.heap.size + 1, 2, none⟩ = some (.int .i64 s.f2) := (blk_cell BS3.out 2).trans rfl; have xk : w3.cell? ⟨w.heap.size, 0, none⟩ = some (.int .i64 k) := (blk_cell BK3.out 0).trans rfl; have xw : w3.cell? ⟨wr.heap.size, 0, none⟩ = some (.int .i64 kk) := (blk_cell BW3.out 0).trans rfl; clear hb3)
            go_roundg (n - (kk + 1))
            case measure => omega
            case rel => exact ⟨kk + 1, by omega, by omega, by go_num, HB3, BK3, BS3, ⟨by rw [HE1.out]; simp⟩⟩
          | false =>
            cases q with
            | true =>
              go_wp2_with (first | (go_at_call 33; refine (HFr.out (blk_lt BKa.out) ((blk_cell BKa.out 0).trans rfl) (blk_lt BWa.out) ((blk_cell BWa.out 0).trans rfl) (by omega) (by omega) (Kd.C_below HR.out HBa.out)).mono ?_; rintro e w3 ⟨rfl, hb3⟩; have HB3 := Aside0.mk (below_step HBa.out hb3); have BS3 := Aside0.mk (blk_below BSa.out hb3); have BK3 := Aside0.mk (blk_below BKa.out hb3); have BW3 := Aside0.mk (blk_below BWa.out hb3); have x0 : w3.cell? ⟨w.heap.size + 1, 0, none⟩ = some (.int .i64 s.f0) := (blk_cell BS3.out 0).trans rfl; have x1 : w3.cell? ⟨w.heap.size + 1, 1, none⟩ = some (.int .i64 s.f1) := (blk_cell BS3.out 1).trans rfl; have x2 : w3.cell? ⟨w.heap.size + 1, 2, none⟩ = some (.int .i64 s.f2) := (blk_cell BS3.out 2).trans rfl; have xk : w3.cell? ⟨w.heap.size, 0, none⟩ = some (.int .i64 k) := (blk_cell BK3.out 0).trans rfl; have xw : w3.cell? ⟨wr.heap.size, 0, none⟩ = some (.int .i64 kk) := (blk_cell BW3.out 0).trans rfl; clear hb3) | (go_at_call 35; refine (impl_soIn.calls m k (kk : Int) s.f0 s.f1 s.f2 _ _ HM.out).mono ?_; rintro e w4 ⟨rfl, hb4⟩; have HB4 := Aside0.mk (below_step HB3.out hb4); have BS4 := Aside0.mk (blk_below BS3.out hb4); have BK4 := Aside0.mk (blk_below BK3.out hb4); have BW4 := Aside0.mk (blk_below BW3.out hb4); have xw4 : w4.cell? ⟨wr.heap.size, 0, none⟩ = some (.int .i64 kk) := (blk_cell BW4.out 0).trans rfl; clear hb4))
              go_roundg (n - (kk + 1))
              case measure => omega
              case rel => exact ⟨kk + 1, by omega, by omega, by go_num, HB4, BK4, BS4, ⟨by rw [HE1.out]; simp⟩⟩
            | false =>
              go_wp2_with (first | (go_at_call 33; refine (HFr.out (blk_lt BKa.out) ((blk_cell BKa.out 0).trans rfl) (blk_lt BWa.out) ((blk_cell BWa.out 0).trans rfl) (by omega) (by omega) (Kd.C_below HR.out HBa.out)).mono ?_; rintro e w3 ⟨rfl, hb3⟩; have HB3 := Aside0.mk (below_step HBa.out hb3); have BS3 := Aside0.mk (blk_below BSa.out hb3); have BK3 := Aside0.mk (blk_below BKa.out hb3); have BW3 := Aside0.mk (blk_below BWa.out hb3); have x0 : w3.cell? ⟨w.heap.size + 1, 0, none⟩ = some (.int .i64 s.f0) := (blk_cell BS3.out 0).trans rfl; have x1 : w3.cell? ⟨w.heap.size + 1, 1, none⟩ = some (.int .i64 s.f1) := (blk_cell BS3.out 1).trans rfl; have x2 : w3.cell? ⟨w.heap.size + 1, 2, none⟩ = some (.int .i64 s.f2) := (blk_cell BS3.out 2).trans rfl; have xk : w3.cell? ⟨w.heap.size, 0, none⟩ = some (.int .i64 k) := (blk_cell BK3.out 0).trans rfl; have xw : w3.cell? ⟨wr.heap.size, 0, none⟩ = some (.int .i64 kk) := (blk_cell BW3.out 0).trans rfl; clear hb3) | (go_at_call 35; refine (impl_soIn.calls m k (kk : Int) s.f0 s.f1 s.f2 _ _ HM.out).mono ?_; rintro e w4 ⟨rfl, hb4⟩; have HB4 := Aside0.mk (below_step HB3.out hb4); have BS4 := Aside0.mk (blk_below BS3.out hb4); have BK4 := Aside0.mk (blk_below BK3.out hb4); have BW4 := Aside0.mk (blk_below BW3.out hb4); have xw4 : w4.cell? ⟨wr.heap.size, 0, none⟩ = some (.int .i64 kk) := (blk_cell BW4.out 0).trans rfl; clear hb4))
              go_ret2
              exact ⟨by rw [HE1.out]; rfl, HB4.out⟩
        · have hltz : ¬ (kk : Int) < N := by have := HNn.out; omega
          have HE1 : Aside0 (worldB k l s = (-1, false)) := ⟨by rw [HE.out, show n - kk = 0 by omega]; rfl⟩
          go_wp2
          go_ret2
          exact ⟨by rw [HE1.out]; rfl, HBr.out⟩
end Go.Proofs.Ythnmllkhlinnaaa.Man
