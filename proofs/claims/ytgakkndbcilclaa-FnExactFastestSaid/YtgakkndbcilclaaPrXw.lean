/- Watched runs: copied, compared, marked and read again. Condition: the list is no longer than the law asks. -/
import Derived.Test.YtgakkndbcilclaaPGx26
import Derived.Test.YtgakkndbcilclaaPGx27
import Derived.Test.YtgakkndbcilclaaPGx28
import Derived.Test.YtgakkndbcilclaaPrXm
set_option linter.unusedVariables false
set_option linter.unusedSimpArgs false
namespace Go.Proofs.Ytgakkndbcilclaa.Pure
open Go.RowKit Go.Proofs.YtgakkndbcilclaaW.PrintWords Go.Proofs.YtgakkndbcilclaaW.PrintLast Go.Proofs.Ytgakkndbcilclaa.PG Go.Proofs.Ytgakkndbcilclaa.M
section
theorem ev_eqIntS (l : List Int) (hl : l.length ≤ 2000000) : Ev (fun k => laws_eqIntS.f k l l) true := by
  have key : ∀ d i : Nat, i + d = l.length → Ev (fun k => laws_eqIntS.l0 k l l i) true := by
    intro d
    induction d with
    | zero => intro i h0; exact Ev.step (fun k => by rw [laws_eqIntS.l0]) (neg_ (by omega) (now_ rfl))
    | succ d ih =>
      intro i h0
      refine Ev.step (fun k => by rw [laws_eqIntS.l0]) (pos_ (by omega) (pos_ (by omega) (pos_ (by omega) (pos_ rfl ?_))))
      rw [w64 (by omega) (by omega)]
      exact ih (i + 1) (by omega)
  simp only [laws_eqIntS.f]
  exact pos_ trivial (key l.length 0 (by omega))
def mkIn (n : Nat) (a : Int) : List Int := (List.range n).map fun (i : Nat) => a + (i : Int)
theorem mkIn_len (n : Nat) (a : Int) : (mkIn n a).length = n := by simp [mkIn]
theorem mkIn_at {n i : Nat} (a : Int) (h : i < n) : (mkIn n a)[i]? = some (a + (i : Int)) := by
  simp [mkIn, h]
theorem ev_markIntS (l : List Int) (hl : l.length ≤ 2000000) (a : Int) (h0 : 0 ≤ a) (h1 : a ≤ 1000000000) : Ev (fun k => laws_markIntS.f k l a) (a + (l.length : Int), mkIn l.length a) := by
  have key : ∀ d i : Nat, ∀ x : List Int, i + d = l.length → Upto x (mkIn l.length a) i → Ev (fun k => laws_markIntS.l0 k x (a + (i : Int)) i) (a + (l.length : Int), mkIn l.length a) := by
    intro d
    induction d with
    | zero =>
      intro i x h0 hx
      have hn := hx.1
      rw [mkIn_len] at hn
      exact Ev.step (fun k => by rw [laws_markIntS.l0]) (neg_ (by omega) (now_ (by rw [hx.done (by rw [mkIn_len]; omega), show i = l.length by omega])))
    | succ d ih =>
      intro i x h2 hx
      have hn := hx.1
      rw [mkIn_len] at hn
      refine Ev.step (fun k => by rw [laws_markIntS.l0]) (pos_ (by omega) (pos_ (by omega) ?_))
      rw [w64 (a := a + (i : Int) + 1) (by omega) (by omega), w64 (a := (i : Int) + 1) (by omega) (by omega)]
      have := ih (i + 1) _ (by omega) (hx.set (mkIn_at (n := l.length) (i := i) a (by omega)))
      rw [show a + (i : Int) + 1 = a + ((i + 1 : Nat) : Int) by omega]
      exact this
  simp only [laws_markIntS.f]
  have := key l.length 0 l (by omega) (Upto.zero (by rw [mkIn_len]))
  simpa using this
theorem ev_heldIntS (n : Nat) (hl : n ≤ 2000000) : Ev (fun k => laws_heldIntS.f k (mkIn n 1) 1) (1 + (n : Int)) := by
  have key : ∀ d i : Nat, i + d = n → Ev (fun k => laws_heldIntS.l0 k (mkIn n 1) (1 + (i : Int)) i) (1 + (n : Int)) := by
    intro d
    induction d with
    | zero =>
      intro i h0
      exact Ev.step (fun k => by rw [laws_heldIntS.l0]) (neg_ (by rw [mkIn_len]; omega) (now_ (by rw [show i = n by omega])))
    | succ d ih =>
      intro i h0
      have e : rd (mkIn n 1) i = 1 + (i : Int) := by
        unfold rd
        rw [List.getD_eq_getElem?_getD, Int.toNat_natCast, mkIn_at 1 (by omega)]; rfl
      refine Ev.step (fun k => by rw [laws_heldIntS.l0, e]) (pos_ (by rw [mkIn_len]; omega) (pos_ (by omega) (pos_ rfl ?_)))
      rw [w64 (a := 1 + (i : Int) + 1) (by omega) (by omega), w64 (a := (i : Int) + 1) (by omega) (by omega)]
      have := ih (i + 1) (by omega)
      rw [show 1 + (i : Int) + 1 = 1 + ((i + 1 : Nat) : Int) by omega]
      exact this
  simp only [laws_heldIntS.f]
  exact key n 0 (by omega)
theorem ev_eqRun (o : Bool) (a : Int) (l : List Int) (hl : l.length ≤ 2000000) : Ev (fun k => laws_eqRun.f k o a l o a l) true := by
  simp only [laws_eqRun.f]
  exact neg_ (by simp) (pos_ trivial (Ev.bind (ev_eqIntS l hl) (pos_ rfl (now_ rfl))))
theorem ev_markRun (o : Bool) (a : Int) (l : List Int) (hl : l.length ≤ 2000000) : Ev (fun k => laws_markRun.f k o a l 1) (1 + (l.length : Int), mkIn l.length 1) := by
  simp only [laws_markRun.f]
  exact Ev.bind (ev_markIntS l hl 1 (by omega) (by omega)) (now_ rfl)
theorem ev_heldRun (o : Bool) (a : Int) (n : Nat) (hl : n ≤ 2000000) : Ev (fun k => laws_heldRun.f k o a (mkIn n 1) 1) (1 + (n : Int)) := by
  simp only [laws_heldRun.f]
  exact Ev.bind (ev_heldIntS n hl) (neg_ (by omega) (now_ rfl))
end
end Go.Proofs.Ytgakkndbcilclaa.Pure
