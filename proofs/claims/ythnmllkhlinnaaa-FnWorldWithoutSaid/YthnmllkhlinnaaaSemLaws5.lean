/- What is proved and what worlds there are, side by side: proved exactly if there is no world without it; how many are proved; no condition but that the sentences are allowed. -/
import Derived.Test.YthnmllkhlinnaaaSemProvedEq
import Derived.Test.YthnmllkhlinnaaaSemWhole
import Derived.Test.YthnmllkhlinnaaaManWorld
namespace Go.Proofs.Ythnmllkhlinnaaa.Sem
open Go.RowKit Go.Proofs.Ythnmllkhlinnaaa.PA Go.Proofs.YthnmllkhlinnaaaW.PrintWords Go.Proofs.YthnmllkhlinnaaaW.PrintLast Go.Proofs.YthnmllkhlinnaaaW.PrintMore
set_option linter.unusedVariables false
set_option linter.unusedSimpArgs false

theorem findW_spec (k : Int) (l : List Sy) (s : Sy) : ∀ ws : List Nat, (∃ w ∈ ws, Man.findW k l s ws = ((w : Int), true) ∧ (l.all (Man.soI k w) && !Man.soI k w s) = true) ∨ (Man.findW k l s ws = (-1, false) ∧ ∀ w ∈ ws, (l.all (Man.soI k w) && !Man.soI k w s) = false)
  | [] => Or.inr ⟨rfl, fun w hw => by cases hw⟩
  | w :: ws => by
    rw [Man.findW]
    by_cases h : (l.all (Man.soI k w) && !Man.soI k w s) = true
    · rw [if_pos h]
      exact Or.inl ⟨w, List.mem_cons_self, rfl, h⟩
    · rw [if_neg h]
      rcases findW_spec k l s ws with ⟨w', hw, h1, h2⟩ | ⟨h1, h2⟩
      · exact Or.inl ⟨w', List.mem_cons_of_mem _ hw, h1, h2⟩
      · refine Or.inr ⟨h1, fun w' hw => ?_⟩
        rcases List.mem_cons.1 hw with rfl | hw
        · simpa using h
        · exact h2 w' hw

theorem soI_iff {k : Nat} {w : Int} {x : Sy} (h : Oks k x) : Man.soI k w x = true ↔ So k (wb w) x := by
  unfold Man.soI
  rw [Int.toNat_natCast]
  exact soB_iff k w h

/-- What WorldWithout answers for allowed sentences. -/
theorem world_cases {k : Int} {l : List Sy} {s : Sy} (hl : Man.saidB k l = true) (hs : Man.okB k s = true) :
    (∃ w : Nat, w < 2 ^ 2 ^ k.toNat ∧ Man.worldB k l s = ((w : Int), true) ∧ (∀ x ∈ l, Man.soI k w x = true) ∧ Man.soI k w s = false ∧ ¬ Pr k l s) ∨ (Man.worldB k l s = (-1, false) ∧ Pr k l s) := by
  obtain ⟨hk, h6, hok⟩ := Man.said_of hl
  have hso := Man.oks_of hs
  obtain ⟨k', rfl⟩ := Int.eq_ofNat_of_zero_le (show 0 ≤ k by omega)
  unfold Man.worldB
  simp only [hl, hs, Bool.and_self, if_true, Int.toNat_natCast]
  rcases findW_spec k' l s (List.range (2 ^ 2 ^ k')) with ⟨w, hw, h1, h2⟩ | ⟨h1, h2⟩
  · rw [Bool.and_eq_true, List.all_eq_true] at h2
    have h3 : Man.soI k' w s = false := by simpa using h2.2
    refine Or.inl ⟨w, List.mem_range.1 hw, h1, h2.1, h3, fun hp => ?_⟩
    have := hp.sound hok (wb w) (fun x hx => (soI_iff (hok x hx)).1 (h2.1 x hx))
    rw [(soI_iff hso).2 this] at h3
    exact absurd h3 (by simp)
  · refine Or.inr ⟨h1, Classical.byContradiction fun hp => ?_⟩
    obtain ⟨w, hw, ha, hn⟩ := complete hok hso hp
    have := h2 w (List.mem_range.2 hw)
    rw [Bool.and_eq_false_iff] at this
    rcases this with h | h
    · have : l.all (Man.soI k' w) = true := List.all_eq_true.2 fun x hx => (soI_iff (hok x hx)).2 (ha x hx)
      rw [this] at h
      exact absurd h (by simp)
    · have h' : Man.soI k' w s = true := by simpa using h
      exact hn ((soI_iff hso).1 h')

theorem provedB_eq {k : Int} {l : List Sy} {s : Sy} (hl : Man.saidB k l = true) (hs : Man.okB k s = true) : (Man.provedB k l s = true ↔ Pr k l s) := by
  unfold Man.provedB
  obtain ⟨hk, h6, hok⟩ := Man.said_of hl
  rw [hl, hs, Bool.true_and, Bool.true_and, decide_eq_true_eq]
  exact (Man.clos_inv hk hok h6).done s

/-! ### how many -/
theorem every_nodup_all : (decide ((everyS 1).Nodup) && (decide ((everyS 2).Nodup) && decide ((everyS 3).Nodup))) = true := by kernel_rfl
theorem every_nodup {k : Int} (hk : 1 ≤ k ∧ k ≤ 3) : (everyS k).Nodup := by
  have h := every_nodup_all
  simp only [Bool.and_eq_true, decide_eq_true_eq] at h
  have hk' : k = 1 ∨ k = 2 ∨ k = 3 := by omega
  rcases hk' with rfl | rfl | rfl
  · exact h.1
  · exact h.2.1
  · exact h.2.2
theorem every_count {k : Int} (hk : 1 ≤ k ∧ k ≤ 3) : ((everyS k).length : Int) = 2 * (2 * k) * (2 * k) := by
  have hk' : k = 1 ∨ k = 2 ∨ k = 3 := by omega
  rcases hk' with rfl | rfl | rfl <;> rfl

theorem many_facts {k : Int} {l : List Sy} (hl : Man.saidB k l = true) : 2 * k ≤ (Man.manyN k l : Int) ∧ (Man.manyN k l : Int) ≤ 2 * (2 * k) * (2 * k) ∧ ((Man.manyN k l : Int) = 2 * (2 * k) * (2 * k) ↔ Pr k l ⟨1, 0, 1⟩) := by
  obtain ⟨hk, h6, hok⟩ := Man.said_of hl
  obtain ⟨out, _, m, _⟩ := closed_eq hk hok h6
  have hd := addAll_nodup out [] List.nodup_nil
  have hm : ∀ s, s ∈ addAll [] out ↔ Pr k l s := fun s => by rw [mem_addAll, ← m s]; simp
  rw [Man.manyN_eq hk hok h6 hd hm]
  generalize addAll [] out = K at hd hm
  have hKe : ∀ x ∈ K, x ∈ everyS k := fun x hx => (mem_everyS k x).2 (((hm x).1 hx).ok hok)
  have hc := every_count hk
  refine ⟨?_, ?_, ?_⟩
  · have h := nodup_le ((terms k).map fun x : Int => (⟨0, x, x⟩ : Sy)) K (by
      unfold terms
      rw [List.map_map]
      unfold List.Nodup
      rw [List.pairwise_map]
      refine List.Pairwise.imp (fun {a b} hab e => hab ?_) List.nodup_range
      have := congrArg S29.f1 e
      simp only [Function.comp] at this
      omega) (fun x hx => by
      obtain ⟨y, hy, rfl⟩ := List.mem_map.1 hx
      have := (mem_terms k y).1 hy
      exact (hm _).2 (Pr.same this.1 this.2))
    unfold terms at h
    rw [List.length_map, List.length_map, List.length_range] at h
    omega
  · have := nodup_le K (everyS k) hd hKe
    omega
  · constructor
    · intro e
      refine Classical.byContradiction fun hp => ?_
      have hin : (⟨1, 0, 1⟩ : Sy) ∈ everyS k := (mem_everyS k _).2 ⟨Or.inr rfl, ⟨by simp only; omega, by simp only; omega⟩, ⟨by simp only; omega, by simp only; omega⟩⟩
      have := nodup_le K ((everyS k).erase ⟨1, 0, 1⟩) hd (fun x hx => (List.mem_erase_of_ne (fun e' => hp (by rw [← e']; exact (hm x).1 hx))).2 (hKe x hx))
      rw [List.length_erase_of_mem hin] at this
      have := List.length_pos_of_mem hin
      omega
    · intro hp
      have h := nodup_le (everyS k) K (every_nodup hk) (fun x hx => (hm x).2 (Pr.any hp (Pr.same (by omega) (by omega)) ((mem_everyS k x).1 hx)))
      have := nodup_le K (everyS k) hd hKe
      omega
end Go.Proofs.Ythnmllkhlinnaaa.Sem
