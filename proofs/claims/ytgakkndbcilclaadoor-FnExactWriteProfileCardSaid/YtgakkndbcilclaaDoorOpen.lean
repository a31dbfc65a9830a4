/- A profile as an argument of a law: what can be read of it are two lists of numbers' tuples and three numbers; it stands in memory as the walks want it. Condition: what the row's own reading gives (it can be read as data, and fits into memory). -/
import Derived.Deep.Slices
import Derived.ChangeArms
import Derived.SizedLaws
import Derived.WideShapes
import Derived.KernelRfl
import Derived.Test.YtgakkndbcilclaaDoorPAx0
import Derived.Test.YtgakkndbcilclaaDoorMath
set_option linter.unusedVariables false
set_option linter.unusedSimpArgs false
namespace Go.Proofs.YtgakkndbcilclaaDoor.Pure
open Go.RowKit Go.Proofs.YtgakkndbcilclaaDoorW.PrintWords Go.Proofs.YtgakkndbcilclaaDoorW.PrintLast Go.Proofs.YtgakkndbcilclaaDoor.PA Go.Proofs.YtgakkndbcilclaaDoor.M
open Go.ChangeShapes Go.WideShapes Go.Deep
/-- A slice of structs whose fields are all ints: its cells. -/
theorem open_srow {H : Type} {enc : TypeId × Value → H} {P : Program} {w : World} {base : Nat} {spare : Nat → Bool} {held : Bool} {t e : TypeId} {fs : Array Field} {n : Nat} {v : Value} {y : DataW H × List MemPlace}
    (ht : P.underlying t = some (.slice e)) (he : P.underlying e = some (.struct fs)) (hof : ∀ (j : Nat) (f : Field), fs[j]? = some f → f.offset = j ∧ P.underlying f.type = some (.int .i64) ∧ P.cellsOf f.type = 1) (hC : P.cellsOf e = fs.size)
    (h : DataW.trod enc P w base spare held n t [v] = some y) :
    ∃ (A : Option Addr) (len cap : Nat) (Z : Nat → Nat → Int), v = .slice A len cap ∧ len ≤ cap ∧ len ≤ maxLen ∧
      (0 < len → ∃ ad, A = some ad ∧ ∀ i j, i < len → j < fs.size → w.cell? (ad.add (i * fs.size + j)) = some (.int .i64 (Z i j))) ∧ (len = 0 ∨ ∃ el sp, y.1 = .slice el sp ∧ el.length = len) := by
  rcases open_slice ht h with ⟨h0, h1⟩ | ⟨a, len, cap, m, n2, D, Pl, hcs, hb, hl, hm, hmm, hx, hi⟩
  · injection h0 with h0 _
    exact ⟨none, 0, 0, fun _ _ => 0, h0, Nat.le_refl 0, Nat.zero_le _, fun z => absurd z (Nat.lt_irrefl 0), .inl rfl⟩
  · injection hcs with hcs _
    have hlm : len ≤ m := by rw [hmm]; split <;> omega
    have per : ∀ i, i < len → ∃ z : Nat → Int, ∀ j, j < fs.size → w.cell? (a.add (i * fs.size + j)) = some (.int .i64 (z j)) := by
      intro i hil
      obtain ⟨cs, hc, ht2⟩ := hi i (by omega)
      rw [hC] at hc
      obtain ⟨ys, n3, _, _, hlen, hyl, hf⟩ := DataW.trod_struct he ht2
      obtain ⟨_, hcl, hat⟩ := World.cells?_some hc
      refine choose_lt (α := Int) (p := fun j z => w.cell? (a.add (i * fs.size + j)) = some (.int .i64 z)) fun j hj => ?_
      have hfj : fs[j]? = some fs[j] := Array.getElem?_eq_getElem hj
      obtain ⟨ho, hu, hk⟩ := hof j _ hfj
      have h1 := hf j _ hfj
      have hone : (cs.drop j).take 1 = [cs[j]'(by omega)] := by
        rw [List.drop_eq_getElem_cons (by omega)]; rfl
      rw [ho, hk, hone, List.getElem?_eq_getElem (show j < ys.length by omega)] at h1
      obtain ⟨z, hz, _, _⟩ := DataW.trod_int hu h1
      injection hz with hz _
      refine ⟨z, ?_⟩
      rw [← Go.Deep.add_add, hat j hj, List.getElem?_eq_getElem (by omega), hz]
    obtain ⟨Z, hZ⟩ := choose_lt (α := Nat → Int) (p := fun i z => ∀ j, j < fs.size → w.cell? (a.add (i * fs.size + j)) = some (.int .i64 (z j))) per
    exact ⟨some a, len, cap, Z, hcs, hl, Nat.le_trans hl hm, fun _ => ⟨a, rfl, fun i j h2 h3 => hZ i h2 j h3⟩, .inr ⟨_, _, by rw [hx], by simp⟩⟩
theorem rows2 {w : World} {A : Option Addr} {len : Nat} {Z : Nat → Nat → Int} (hl : len ≤ maxLen) (h : 0 < len → ∃ ad, A = some ad ∧ ∀ i j, i < len → j < 2 → w.cell? (ad.add (i * 2 + j)) = some (.int .i64 (Z i j))) :
    ∃ l : List S60, l.length = len ∧ Kd.C k60 w A len l := by
  refine ⟨(List.range len).map fun i => ⟨Z i 0, Z i 1⟩, by simp, by simp, by unfold maxLen at hl; omega, fun hp => ?_⟩
  obtain ⟨ad, e, hc⟩ := h hp
  refine ⟨ad, e, fun j p hj => ?_⟩
  have hjl : j < len := by
    have := (List.getElem?_eq_some_iff.1 hj).1
    simpa using this
  have hp2 : p = ⟨Z j 0, Z j 1⟩ := by
    rw [List.getElem?_map, List.getElem?_range hjl] at hj
    exact (Option.some.inj hj).symm
  refine ⟨[.int .i64 p.f0, .int .i64 p.f1], rfl, k60_mk w p, fun i u hu => ?_⟩
  subst hp2
  match i, hu with
  | 0, hu => simp at hu; subst hu; exact hc j 0 hjl (by omega)
  | 1, hu => simp at hu; subst hu; exact hc j 1 hjl (by omega)
  | i + 2, hu => simp at hu
theorem rows3 {w : World} {A : Option Addr} {len : Nat} {Z : Nat → Nat → Int} (hl : len ≤ maxLen) (h : 0 < len → ∃ ad, A = some ad ∧ ∀ i j, i < len → j < 3 → w.cell? (ad.add (i * 3 + j)) = some (.int .i64 (Z i j))) :
    ∃ l : List S62, l.length = len ∧ Kd.C k62 w A len l := by
  refine ⟨(List.range len).map fun i => ⟨Z i 0, Z i 1, Z i 2⟩, by simp, by simp, by unfold maxLen at hl; omega, fun hp => ?_⟩
  obtain ⟨ad, e, hc⟩ := h hp
  refine ⟨ad, e, fun j p hj => ?_⟩
  have hjl : j < len := by
    have := (List.getElem?_eq_some_iff.1 hj).1
    simpa using this
  have hp2 : p = ⟨Z j 0, Z j 1, Z j 2⟩ := by
    rw [List.getElem?_map, List.getElem?_range hjl] at hj
    exact (Option.some.inj hj).symm
  refine ⟨[.int .i64 p.f0, .int .i64 p.f1, .int .i64 p.f2], rfl, k62_mk w p, fun i u hu => ?_⟩
  subst hp2
  match i, hu with
  | 0, hu => simp at hu; subst hu; exact hc j 0 hjl (by omega)
  | 1, hu => simp at hu; subst hu; exact hc j 1 hjl (by omega)
  | 2, hu => simp at hu; subst hu; exact hc j 2 hjl (by omega)
  | i + 3, hu => simp at hu
set_option maxRecDepth 100000 in
/-- A whole profile. -/
theorem open_profile {H : Type} {enc : TypeId × Value → H} {W : World} {base : Nat} {v : Value} {d : DataW H} {p : List MemPlace} {ts : List TypeId} {ds : List (DataW H)} {j : Nat}
    (hv : Value.okWide Tryd.prog W .any base 25 v) (h : DataW.Trod enc Tryd.prog W 0 (fun _ => true) true 25 v d p)
    (hsz : (DataW.weightsEach Tryd.prog ts ds).all (· ≤ reachBytes) = true) (hts : ts[j]? = some 25) (hds : ds[j]? = some d) :
    ∃ (A0 : Option Addr) (c0 : Nat) (l0 : List S60) (A1 : Option Addr) (c1 : Nat) (l1 : List S62) (x2 x3 x4 : Int),
      v = .agg #[.slice A0 l0.length c0, .slice A1 l1.length c1, .int .i64 x2, .int .i64 x3, .int .i64 x4] ∧ Kd.C k60 W A0 l0.length l0 ∧ l0.length ≤ c0 ∧ Kd.C k62 W A1 l1.length l1 ∧ l1.length ≤ c1 ∧
      l0.length * 16 ≤ 140737488351232 ∧ l1.length * 24 ≤ 140737488351232 := by
  obtain ⟨cs, rfl, hcz⟩ := okWide_struct Tryd.underlying25 hv
  obtain ⟨l⟩ := cs
  have h5 : Tryd.prog.cellsOf 25 = 5 := by kernel_rfl
  match l, hcz.trans h5 with
  | [u0, u1, u2, u3, u4], _ =>
    obtain ⟨fuel, hf⟩ := h
    obtain ⟨xs, n, _, hx, _, hlen, hg⟩ := DataW.trod_struct Tryd.underlying25 hf
    match xs, hlen with
    | [y0, y1, y2, y3, y4], _ =>
      have cs1 : Tryd.prog.cellsOf 22 = 1 := by kernel_rfl
      have cs2 : Tryd.prog.cellsOf 23 = 1 := by kernel_rfl
      have ci : Tryd.prog.cellsOf 3 = 1 := by kernel_rfl
      have hd1 : d = .agg [y0.1, y1.1, y2.1, y3.1, y4.1] := by have := congrArg Prod.fst hx; simpa using this
      have g0 : DataW.trod enc Tryd.prog W 0 (fun _ => true) true n 22 [u0] = some y0 := by have := hg 0 _ rfl; simpa [Value.cells, cs1] using this
      have g1 : DataW.trod enc Tryd.prog W 0 (fun _ => true) true n 23 [u1] = some y1 := by have := hg 1 _ rfl; simpa [Value.cells, cs2] using this
      have g2 : DataW.trod enc Tryd.prog W 0 (fun _ => true) true n 3 [u2] = some y2 := by have := hg 2 _ rfl; simpa [Value.cells, ci] using this
      have g3 : DataW.trod enc Tryd.prog W 0 (fun _ => true) true n 3 [u3] = some y3 := by have := hg 3 _ rfl; simpa [Value.cells, ci] using this
      have g4 : DataW.trod enc Tryd.prog W 0 (fun _ => true) true n 3 [u4] = some y4 := by have := hg 4 _ rfl; simpa [Value.cells, ci] using this
      obtain ⟨x2, e2, _, _⟩ := DataW.trod_int Tryd.underlying3 g2
      obtain ⟨x3, e3, _, _⟩ := DataW.trod_int Tryd.underlying3 g3
      obtain ⟨x4, e4, _, _⟩ := DataW.trod_int Tryd.underlying3 g4
      injection e2 with e2 _
      injection e3 with e3 _
      injection e4 with e4 _
      obtain ⟨A0, n0, c0, Z0, rfl, b0, b1, b2, b3⟩ := open_srow Tryd.underlying22 Tryd.underlying60 (fun j f hj => by
        match j, hj with
        | 0, hj => simp at hj; subst hj; exact ⟨rfl, Tryd.underlying3, ci⟩
        | 1, hj => simp at hj; subst hj; exact ⟨rfl, Tryd.underlying3, ci⟩
        | j + 2, hj => simp at hj) (by kernel_rfl) g0
      obtain ⟨A1, n1, c1, Z1, rfl, d0, d1, d2, d3⟩ := open_srow Tryd.underlying23 Tryd.underlying62 (fun j f hj => by
        match j, hj with
        | 0, hj => simp at hj; subst hj; exact ⟨rfl, Tryd.underlying3, ci⟩
        | 1, hj => simp at hj; subst hj; exact ⟨rfl, Tryd.underlying3, ci⟩
        | 2, hj => simp at hj; subst hj; exact ⟨rfl, Tryd.underlying3, ci⟩
        | j + 3, hj => simp at hj) (by kernel_rfl) g1
      obtain ⟨l0, hl0, C0⟩ := rows2 b1 b2
      obtain ⟨l1, hl1, C1⟩ := rows3 d1 d2
      have wt : ∀ n, n ∈ (DataW.agg [y0.1, y1.1, y2.1, y3.1, y4.1] : DataW H).weights Tryd.prog 25 → n ≤ reachBytes := by
        intro n hn
        rw [← hd1] at hn
        have := List.all_eq_true.1 hsz _ (DataW.weights_mem_each hts hds n hn)
        simpa using this
      have bp : Tryd.prog.bytesOf 60 = 16 := by kernel_rfl
      have bz : Tryd.prog.bytesOf 62 = 24 := by kernel_rfl
      refine ⟨A0, c0, l0, A1, c1, l1, x2, x3, x4, ?_, ?_, ?_, ?_, ?_, ?_, ?_⟩
      · rw [hl0, hl1, e2, e3, e4]
      · rw [hl0]; exact C0
      · rw [hl0]; exact b0
      · rw [hl1]; exact C1
      · rw [hl1]; exact d0
      · rw [hl0]
        rcases b3 with z | ⟨el, sp, e, he⟩
        · omega
        · have := wt ((el.length + sp.length) * 16) (by
            simp only [DataW.weights, Tryd.underlying25, DataW.weightsEach, List.map, e, Tryd.underlying22, bp]
            simp)
          unfold reachBytes at this
          omega
      · rw [hl1]
        rcases d3 with z | ⟨el, sp, e, he⟩
        · omega
        · have := wt ((el.length + sp.length) * 24) (by
            simp only [DataW.weights, Tryd.underlying25, DataW.weightsEach, List.map, e, Tryd.underlying23, bz]
            simp)
          unfold reachBytes at this
          omega
end Go.Proofs.YtgakkndbcilclaaDoor.Pure
