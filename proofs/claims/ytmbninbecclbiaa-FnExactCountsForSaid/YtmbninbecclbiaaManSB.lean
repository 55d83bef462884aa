/- Rows of rows, and rows of sentences, from call to call; laws.markIntSS; no condition but that the rows are of four numbers. -/
import Derived.Test.YtmbninbecclbiaaManCorA
import Derived.Test.YtmbninbecclbiaaSemCorX
import Derived.Test.YtmbninbecclbiaaSemSayS
import Derived.Test.YtmbninbecclbiaaPAx39
import Derived.Test.YtmbninbecclbiaaPAx38
import Derived.Test.YtmbninbecclbiaaPAx13
import Derived.Test.YtmbninbecclbiaaPAx23
import Derived.Test.YtmbninbecclbiaaPAx1
import Derived.Test.YtmbninbecclbiaaPAx8
namespace Go.Proofs.Ytmbninbecclbiaa.ManR
open Go.RowKit Go.Proofs.Ytmbninbecclbiaa.PA Go.Proofs.YtmbninbecclbiaaW.PrintWords Go.Proofs.YtmbninbecclbiaaW.PrintLast Go.Proofs.YtmbninbecclbiaaW.PrintMore
set_option linter.unusedVariables false
set_option linter.unusedSimpArgs false
open Go.Proofs.Ytmbninbecclbiaa.Sem (markN mk4 conv)

/-- A row of rows, whose blocks are from lo on and below hi. -/
structure SB (w W : World) (lo hi : Nat) (v : Value) (xs : List (List Int)) : Prop where
  h : Kd.S (Kd.slice 3 (Kd.int .i64)) 35 W w.heap.size (fun k => lo ≤ k ∧ k < hi) v xs
structure XB (w W : World) (lo hi : Nat) (v : Value) (xs : List S29) : Prop where
  h : Kd.R k29 29 W w.heap.size (fun k => lo ≤ k ∧ k < hi) v xs
section
variable {w W W' : World} {lo hi : Nat} {v : Value} {xs : List (List Int)} {ys : List S29} {P : Nat → Prop}
theorem SB.make (h : Kd.S (Kd.slice 3 (Kd.int .i64)) 35 W' W.heap.size (fun _ => True) v xs) (hle : w.heap.size ≤ W.heap.size) : SB w W' W.heap.size W'.heap.size v xs :=
  ⟨Kd.S_lower (Kd.S_mono (Kd.S_bound h) (fun _ hk => ⟨hk.2.1, hk.2.2.1⟩)) hle⟩
theorem XB.make (h : Kd.R k29 29 W' W.heap.size (fun _ => True) v ys) (hle : w.heap.size ≤ W.heap.size) : XB w W' W.heap.size W'.heap.size v ys :=
  ⟨Kd.R_lower (Kd.R_mono (Kd.R_bound h) (fun _ hk => ⟨hk.2.1, hk.2.2.1⟩)) hle⟩
theorem SB.below (s : SB w W lo hi v xs) (hb : Below W.heap.size W W') : SB w W' lo hi v xs := ⟨Kd.S_below s.h hb⟩
theorem XB.below (s : XB w W lo hi v ys) (hb : Below W.heap.size W W') : XB w W' lo hi v ys := ⟨Kd.R_below s.h hb⟩
theorem SB.kept (s : SB w W lo hi v xs) (hk : Kept W W' P) (hp : ∀ k, lo ≤ k → k < hi → ¬ P k) : SB w W' lo hi v xs := ⟨Kd.S_step s.h (fun k ho hlt => hk.2 k hlt (hp k ho.1 ho.2))⟩
theorem SB.reads (s : SB w W lo hi v xs) : ∃ A c, v = .slice A xs.length c ∧ xs.length ≤ c ∧ Kd.C (Kd.slice 3 (Kd.int .i64)) W A xs.length xs := Kd.S_reads s.h
theorem XB.reads (s : XB w W lo hi v ys) : ∃ A c, v = .slice A ys.length c ∧ ys.length ≤ c ∧ Kd.C k29 W A ys.length ys := Kd.R_reads s.h
end
section
variable (v : Value) (o : List (List Int)) (w0 w : World) (lo hi : Nat)
end
/-- A row of rows that is only read, whose blocks are below hi. -/
structure NB (w W : World) (hi : Nat) (v : Value) (xs : List (List Int)) : Prop where
  h : Kd.N (Kd.slice 3 (Kd.int .i64)) 35 W w.heap.size (fun k => k < hi) v xs
section
variable {w W W' : World} {lo hi : Nat} {u v : Value} {xs o : List (List Int)} {ys L : List S29} {l : List S24} {P : Nat → Prop} {A : Option Addr} {c k : Nat}
theorem NB.below (s : NB w W hi v xs) (hb : Below W.heap.size W W') : NB w W' hi v xs := ⟨Kd.N_below s.h hb⟩
theorem NB.kept (s : NB w W hi v xs) (hk : Kept W W' P) (hp : ∀ k, k < hi → ¬ P k) : NB w W' hi v xs := ⟨Kd.N_kept s.h hk hp⟩
theorem NB.reads (s : NB w W hi v xs) : ∃ A c, v = .slice A xs.length c ∧ xs.length ≤ c ∧ Kd.C (Kd.slice 3 (Kd.int .i64)) W A xs.length xs := Kd.N_reads s.h
theorem below_drawn {W W' : World} (h : Drawn0 W W') : Below W.heap.size W W' := by
  obtain ⟨n, rfl⟩ := h
  exact pw_below_drewN (Below.refl _ _) n
theorem c_sz {r : Int} (hr : Kd.C k24 W A l.length l) (hc : l.length ≤ c) (h : laws_szSayS.f l 1048576 = some r) : Calls Try.prog 8 #[.slice A l.length c, .int .i64 1048576] W fun e w' => e = .returned (.int .i64 r) ∧ Below W.heap.size W w' :=
  (laws_szSayS.calls A c l 1048576 r W hr hc h).mono (fun e w' ⟨he, hd⟩ => ⟨he, below_drawn hd⟩)
theorem c_to (hle : w.heap.size ≤ W.heap.size) (hr : Kd.C k24 W A l.length l) (hc : l.length ≤ c) (h : laws_toSayS.f k l = some L) : Calls Try.prog 10 #[.slice A l.length c] W fun e w' => ∃ u, e = .returned u ∧ XB w w' W.heap.size w'.heap.size u L ∧ Below W.heap.size W w' :=
  (laws_toSayS.calls k A c l L W hr hc h).mono (fun e w' ⟨u, he, h0, hb⟩ => ⟨u, he, XB.make h0 hle, hb⟩)
theorem c_eqS {lo' hi' : Nat} (s : XB w W lo hi u L) (t : XB w W lo' hi' v L) (h : laws_eqSayS.f k L L = some true) : Calls Try.prog 13 #[u, v] W fun e w' => e = .returned (.bool true) ∧ Below W.heap.size W w' := by
  obtain ⟨A, c, rfl, hc, hr⟩ := s.reads
  obtain ⟨B, d, rfl, hd, ht⟩ := t.reads
  exact (laws_eqSayS.calls k A c L B d L true W hr hc ht hd h).mono (fun e w' ⟨he, hb⟩ => ⟨he, hb⟩)
theorem c_markS {r : Int} (hB : Below w.heap.size w W) (s : XB w W lo hi u L) (h : laws_markSayS.f k L 1 = some (r, ys)) : Calls Try.prog 28 #[u, .int .i64 1] W fun e w' => e = .returned (.int .i64 r) ∧ Kept W w' (fun k => lo ≤ k ∧ k < hi) ∧ Below w.heap.size w w' :=
  (laws_markSayS.calls k (fun k => lo ≤ k ∧ k < hi) u L 1 r ys w W hB s.h h).mono (fun e w' ⟨he, _, hb, hk⟩ => ⟨he, hk, hb⟩)
end
end Go.Proofs.Ytmbninbecclbiaa.ManR
