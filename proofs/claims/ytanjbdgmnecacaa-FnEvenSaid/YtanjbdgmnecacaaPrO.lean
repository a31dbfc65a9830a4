/- One piece without limits: the fastest run is there, it ends at the end, with twice the acceleration it is no slower. Conditions: the piece's length and rate, the acceleration, as they are drawn. -/
import Derived.Test.YtanjbdgmnecacaaPEx10
import Derived.Test.YtanjbdgmnecacaaPEx12
import Derived.Test.YtanjbdgmnecacaaPrN
set_option linter.unusedVariables false
set_option linter.unusedSimpArgs false
namespace Go.Proofs.Ytanjbdgmnecacaa.Pure
open Go.RowKit Go.Proofs.YtanjbdgmnecacaaW.PrintWords Go.Proofs.YtanjbdgmnecacaaW.PrintLast Go.Proofs.Ytanjbdgmnecacaa.PE Go.Proofs.Ytanjbdgmnecacaa.M
section
def P1 (n b : Int) : PR := ⟨[⟨n, b⟩], [], 0, n, 0⟩
theorem P1_good {n b : Int} (h0 : 1 ≤ n) (h1 : n ≤ 400) (h2 : 10 ≤ b) (h3 : b ≤ 29) : Good (P1 n b) := by
  have ht : tot (P1 n b).ps = n := by simp [P1, tot]
  refine ⟨by simp [P1], ⟨by simp [P1], fun y hy => ?_⟩, by simp [P1], fun z hz => by simp [P1] at hz, by simp [P1], by simp [P1], by show 0 ≤ n; omega, by rw [ht]; show n ≤ n; omega, by simp [P1], by simp [P1]⟩
  have : y = ⟨n, b⟩ := by simpa [P1] using hy
  subst this
  exact ⟨h0, by show n ≤ 1666666; omega, h2, by show b ≤ 1000; omega⟩
theorem P1_ask {n b acc : Int} (h0 : 1 ≤ n) (h1 : n ≤ 400) (h2 : 10 ≤ b) (h3 : b ≤ 29) (a0 : 1 ≤ acc) (a1 : acc ≤ 20) : (P1 n b).askP acc 0 0 :=
  ⟨(pok_zero ..).mpr (P1_good h0 h1 h2 h3), ⟨a0, a1⟩, ⟨by omega, by show 0 ≤ n; omega⟩, by show n - 0 ≤ 2000; omega, by omega⟩
theorem Run_range {G : Gr} (l : List Int) : ∀ d v : Int, G.Run l d v → ∀ w ∈ l, 0 ≤ w ∧ w ≤ 60 := by
  induction l with
  | nil => intro d v _ w hw; cases hw
  | cons u l ih =>
    intro d v h w hw
    rcases List.mem_cons.1 hw with rfl | hw
    · have := h.1.range; exact ⟨this.1, this.2.1⟩
    · exact ih _ _ h.2 w hw
theorem even_one {n b acc : Int} (h0 : 1 ≤ n) (h1 : n ≤ 400) (h2 : 10 ≤ b) (h3 : b ≤ 29) (a0 : 1 ≤ acc) (a1 : acc ≤ 20) :
    ∃ h : (P1 n b).askP acc 0 0, ((P1 n b).gr 0 acc 0 (Asks.of h).x1).D 0 0 ≤ 401 ∧ (P1 n b).fast acc 0 0 = (true, ((P1 n b).gr 0 acc 0 (Asks.of h).x1).D 0 0, ((P1 n b).gr 0 acc 0 (Asks.of h).x1).path (((P1 n b).gr 0 acc 0 (Asks.of h).x1).D 0 0).toNat 0 0) := by
  have h := P1_ask h0 h1 h2 h3 a0 a1
  have hr := ones (Asks.of h) n.toNat 0 0 (by show 0 + (n.toNat : Int) = n - 0; omega) (.inl rfl)
  have hD := ((P1 n b).gr 0 acc 0 (Asks.of h).x1).D_le hr
  exact ⟨h, by omega, fast_eq h (by omega)⟩
theorem even_facts {n b acc : Int} (h0 : 1 ≤ n) (h1 : n ≤ 400) (h2 : 10 ≤ b) (h3 : b ≤ 29) (a0 : 1 ≤ acc) (a1 : acc ≤ 9) :
    ∃ T T2 sp sp2, (P1 n b).fast acc 0 0 = (true, T, sp) ∧ (P1 n b).fast (2 * acc) 0 0 = (true, T2, sp2) ∧ T2 ≤ T ∧ (P1 n b).runOk acc 0 0 sp = true ∧ sp.sum = n ∧ sp.length ≤ 401 ∧ sp2.length ≤ 401 ∧ ∀ w ∈ sp, 0 ≤ w ∧ w ≤ 60 := by
  obtain ⟨k1, d1, f1⟩ := even_one (acc := acc) h0 h1 h2 h3 a0 (by omega)
  obtain ⟨k2, d2, f2⟩ := even_one (acc := 2 * acc) h0 h1 h2 h3 (by omega) (by omega)
  have hm := D_acc (P := P1 n b) (x := 0) (sh := 0) (acc := acc) (acc' := 2 * acc) (Asks.of k1) (Asks.of k2) (by omega)
  have hok := fast_is (P := P1 n b) (acc := acc) (x := 0) (sh := 0) (by rw [f1])
  have hb := ((P1 n b).gr 0 acc 0 (Asks.of k1).x1).D_bounds 0 0
  have hb2 := ((P1 n b).gr 0 (2 * acc) 0 (Asks.of k2).x1).D_bounds 0 0
  rw [f1] at hok
  refine ⟨_, _, _, _, f1, f2, hm, hok.2, ?_, ?_, ?_, ?_⟩
  · obtain ⟨c, _, hr⟩ := (runOk_iff _).1 hok.2
    have hs := Gr.Run.sum _ 0 0 hr (by show (0 : Int) ≤ n - 0; omega)
    have e1 : ((P1 n b).gr 0 acc 0 (Asks.of c).x1).n = n - 0 := rfl
    have e2 : ((P1 n b).gr 0 acc 0 (Asks.of c).x1).sh = 0 := rfl
    rw [e1, e2] at hs
    simp only at hs ⊢
    omega
  · simp only [Gr.path_len]; omega
  · simp only [Gr.path_len]; omega
  · obtain ⟨c, _, hr⟩ := (runOk_iff _).1 hok.2
    exact Run_range _ 0 0 hr
end
end Go.Proofs.Ytanjbdgmnecacaa.Pure
