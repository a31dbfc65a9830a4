/- At every two lists of bytes the law FnText answers true: a drawn profile's text is read back, each beginning of it is at fault at its end, and no other text is read as that profile. Conditions: the lists hold bytes and fit into memory. -/
import Derived.Test.YtanjbdgmnecacaaDoorPTx0
import Derived.Test.YtanjbdgmnecacaaDoorPTx10
import Derived.Test.YtanjbdgmnecacaaDoorPTx14
import Derived.Test.YtanjbdgmnecacaaDoorPTx20
import Derived.Test.YtanjbdgmnecacaaDoorPTx21
import Derived.Test.YtanjbdgmnecacaaDoorPTx27
import Derived.Test.YtanjbdgmnecacaaDoorPrZr
import Derived.Test.YtanjbdgmnecacaaDoorPrLx
import Derived.Test.YtanjbdgmnecacaaDoorPrDw
import Derived.Test.YtanjbdgmnecacaaDoorPrE
import Derived.Test.YtanjbdgmnecacaaDoorPrBy
import Derived.Test.YtanjbdgmnecacaaDoorSized
set_option linter.unusedVariables false
set_option linter.unusedSimpArgs false
namespace Go.Proofs.YtanjbdgmnecacaaDoor.Pure
open Go.RowKit Go.Proofs.YtanjbdgmnecacaaDoorW.PrintWords Go.Proofs.YtanjbdgmnecacaaDoorW.PrintLast Go.Proofs.YtanjbdgmnecacaaDoor.PT Go.Proofs.YtanjbdgmnecacaaDoor.M
section
instance : DecidableEq S56 := fun x y => if h : x.f0 = y.f0 ∧ x.f1 = y.f1 ∧ x.f2 = y.f2 then isTrue (by cases x; cases y; simp_all) else isFalse (fun e => h (by subst e; exact ⟨rfl, rfl, rfl⟩))
instance : DecidableEq S49 := fun x y => if h : x.f0 = y.f0 ∧ x.f1 = y.f1 then isTrue (by cases x; cases y; simp_all) else isFalse (fun e => h (by subst e; exact ⟨rfl, rfl⟩))
theorem wp_l1 {A B : PR} (hA : A.zs.length ≤ 1000000) (hl : A.zs.length = B.zs.length) (d : Nat) : ∀ i : Nat, i + d = A.zs.length → Ev (fun k => laws_wProfile.l1 k A.zs.length i A.ps A.zs A.tr A.en A.de B.ps B.zs B.tr B.en B.de) (decide (A.zs.drop i = B.zs.drop i)) := by
  induction d with
  | zero =>
    intro i hi
    rw [List.drop_eq_nil_of_le (by omega), List.drop_eq_nil_of_le (by omega)]
    refine Ev.step (fun k => by rw [laws_wProfile.l1]) ?_
    exact neg_ (by omega) (now_ (by simp))
  | succ d ih =>
    intro i hi
    have i1 : i < A.zs.length := by omega
    have i2 : i < B.zs.length := by omega
    have r1 : rd_T56 A.zs (i : Int) = A.zs[i] := by unfold rd_T56; rw [Int.toNat_natCast, List.getD_eq_getElem?_getD, List.getElem?_eq_getElem i1]; rfl
    have r2 : rd_T56 B.zs (i : Int) = B.zs[i] := by unfold rd_T56; rw [Int.toNat_natCast, List.getD_eq_getElem?_getD, List.getElem?_eq_getElem i2]; rfl
    rw [List.drop_eq_getElem_cons i1, List.drop_eq_getElem_cons i2]
    have hI := ih (i + 1) (by omega)
    refine Ev.step (fun k => by rw [laws_wProfile.l1]) ?_
    rw [r1, r2]
    refine pos_ (by omega) (pos_ (by omega) (pos_ (by omega) (pos_ (by omega) ?_)))
    rw [show wrap64 ((i : Int) + 1) = ((i + 1 : Nat) : Int) from by rw [w64 (by omega) (by omega)]; omega]
    generalize A.zs[i] = x at *
    generalize B.zs[i] = y at *
    by_cases e : x = y
    · subst e
      refine neg_ (by simp) (cast_ ?_ hI)
      simp
    · refine pos_ ?_ (now_ ?_)
      · have hne : ¬ (x.f0 = y.f0 ∧ x.f1 = y.f1 ∧ x.f2 = y.f2) := fun z => e (by cases x; cases y; simp_all)
        by_cases h0 : x.f0 = y.f0 <;> by_cases h1 : x.f1 = y.f1 <;> by_cases h2 : x.f2 = y.f2 <;> simp_all
      · simp [e]
theorem wp_l0 {A B : PR} (hA : A.zs.length ≤ 1000000) (hP : A.ps.length ≤ 1000000) (hl : A.zs.length = B.zs.length) (hp : A.ps.length = B.ps.length) (d : Nat) : ∀ i : Nat, i + d = A.ps.length →
    Ev (fun k => laws_wProfile.l0 k A.ps.length i A.ps A.zs A.tr A.en A.de B.ps B.zs B.tr B.en B.de) (decide (A.ps.drop i = B.ps.drop i ∧ A.zs = B.zs)) := by
  induction d with
  | zero =>
    intro i hi
    rw [List.drop_eq_nil_of_le (by omega), List.drop_eq_nil_of_le (by omega)]
    have h := wp_l1 hA hl A.zs.length 0 (by omega)
    rw [List.drop_zero, List.drop_zero] at h
    refine Ev.step (fun k => by rw [laws_wProfile.l0]) ?_
    exact neg_ (by omega) (cast_ (by simp) h)
  | succ d ih =>
    intro i hi
    have i1 : i < A.ps.length := by omega
    have i2 : i < B.ps.length := by omega
    have r1 : rd_T49 A.ps (i : Int) = A.ps[i] := by unfold rd_T49; rw [Int.toNat_natCast, List.getD_eq_getElem?_getD, List.getElem?_eq_getElem i1]; rfl
    have r2 : rd_T49 B.ps (i : Int) = B.ps[i] := by unfold rd_T49; rw [Int.toNat_natCast, List.getD_eq_getElem?_getD, List.getElem?_eq_getElem i2]; rfl
    rw [List.drop_eq_getElem_cons i1, List.drop_eq_getElem_cons i2]
    have hI := ih (i + 1) (by omega)
    refine Ev.step (fun k => by rw [laws_wProfile.l0]) ?_
    rw [r1, r2]
    refine pos_ (by omega) (pos_ (by omega) (pos_ (by omega) (pos_ (by omega) ?_)))
    rw [show wrap64 ((i : Int) + 1) = ((i + 1 : Nat) : Int) from by rw [w64 (by omega) (by omega)]; omega]
    generalize A.ps[i] = x at *
    generalize B.ps[i] = y at *
    by_cases e : x = y
    · subst e
      refine neg_ (by simp) (cast_ ?_ hI)
      simp
    · refine pos_ ?_ (now_ ?_)
      · have hne : ¬ (x.f0 = y.f0 ∧ x.f1 = y.f1) := fun z => e (by cases x; cases y; simp_all)
        by_cases h0 : x.f0 = y.f0 <;> by_cases h1 : x.f1 = y.f1 <;> simp_all
      · simp [e]
theorem ev_wSame {A B : PR} (hA : A.zs.length ≤ 1000000) (hP : A.ps.length ≤ 1000000) : Ev (fun k => laws_wProfile.f k A.ps A.zs A.tr A.en A.de B.ps B.zs B.tr B.en B.de) (decide (A.ps = B.ps ∧ A.zs = B.zs ∧ A.tr = B.tr ∧ A.en = B.en ∧ A.de = B.de)) := by
  have no : ∀ {b : Bool}, b = false → Ev (fun k => laws_wProfile.j0 k true A.ps A.zs A.tr A.en A.de B.ps B.zs B.tr B.en B.de) b := fun h => by
    refine Ev.step (fun k => by rw [laws_wProfile.j0]) ?_
    exact pos_ rfl (now_ h.symm)
  simp only [laws_wProfile.f]
  by_cases c1 : A.ps.length = B.ps.length
  · refine pos_ (by omega) ?_
    by_cases c2 : A.zs.length = B.zs.length
    · refine pos_ (by omega) ?_
      by_cases c3 : A.tr = B.tr
      · refine pos_ c3 ?_
        by_cases c4 : A.en = B.en
        · refine pos_ c4 ?_
          by_cases c5 : A.de = B.de
          · rw [show (A.de != B.de) = false by simp [c5]]
            refine Ev.step (fun k => by rw [laws_wProfile.j0]) ?_
            have h := wp_l0 hA hP c2 c1 A.ps.length 0 (by omega)
            rw [List.drop_zero, List.drop_zero] at h
            refine neg_ (by decide) (cast_ ?_ h)
            simp [c3, c4, c5]
          · rw [show (A.de != B.de) = true by simp [c5]]; exact no (by simp [c5])
        · exact neg_ c4 (no (by simp [c4]))
      · exact neg_ c3 (no (by simp [c3]))
    · exact neg_ (by omega) (no (by simp; intro _ h; rw [h] at c2; exact absurd rfl c2))
  · exact neg_ (by omega) (no (by simp; intro h; rw [h] at c1; exact absurd rfl c1))
theorem read_text {P : PR} (hg : Good P) (hl : (wrT P.ps P.zs P.tr P.en P.de).length ≤ 3000) {t : ByteArray} {z : List UInt8} (h : t.data.toList ++ z = wrT P.ps P.zs P.tr P.en P.de) :
    Ev (fun k => impl_ReadProfile.f k t) (if z = [] then (0, 0, P.ps, P.zs, P.tr, P.en, P.de) else (1, (t.size : Int), [], [], 0, 0, 0)) := by
  have ht := hg.tot
  have hen := hg.en1
  have hen0 := hg.en0
  have htr0 := hg.tr0
  have htr1 := hg.tr1
  have hde0 := hg.de0
  have hde1 := hg.de1
  have hts : t.size ≤ 3000 := by
    have := congrArg List.length h
    rw [List.length_append, tl_len] at this; omega
  obtain ⟨a, ea, a1⟩ := nat_of (x := P.tr) ⟨htr0, by omega⟩
  obtain ⟨b, eb, b1⟩ := nat_of (x := P.en) ⟨hen0, by omega⟩
  obtain ⟨c, ec, c1⟩ := nat_of (x := P.de) ⟨hde0, by omega⟩
  have h0 : pokV P.ps P.zs P.tr P.en P.de = 0 := (pok_zero ..).mpr hg
  have hn1 := hg.n1
  have hn2 := hg.gp.n60
  have hn3 := hg.z60
  unfold wrT at h
  rw [ea, eb, ec, tlT_eq, List.append_assoc] at h
  have := rd_pieces (t := t) hts a1 b1 c1 z P.zs (by omega) (fun x hx => by
      have := hg.hz x hx
      exact ⟨⟨by omega, by omega⟩, ⟨by omega, by omega⟩, ⟨by omega, by omega⟩⟩) P.ps [] 0 (by omega) (by omega) (by simp; omega) (.inl hn1) (fun x hx => by
      have := hg.gp.hp x hx
      exact ⟨⟨by omega, by omega⟩, ⟨by omega, by omega⟩⟩) (by rw [frm_zero]; exact h)
  simp only [impl_ReadProfile.f]
  refine neg_ (by omega) (cast_ ?_ this)
  by_cases e : z = []
  · rw [if_pos e, if_pos e, List.nil_append, ← ea, ← eb, ← ec]
    unfold told; rw [if_pos h0]
  · rw [if_neg e, if_neg e]
theorem read_back {x : ByteArray} (hx : x.size ≤ 3000) {r : Int × Int × (List S49) × (List S56) × Int × Int × Int} (h : Ev (fun k => impl_ReadProfile.f k x) r) (h0 : r.1 = 0) :
    x.data.toList = wrT r.2.2.1 r.2.2.2.1 r.2.2.2.2.1 r.2.2.2.2.2.1 r.2.2.2.2.2.2 := by
  obtain ⟨r2, g1, g2⟩ := rd_back hx (x.size + 1) 0 [] [] (by omega) (by omega) (by omega) (by simp) (by simp)
  have g3 : Ev (fun k => impl_ReadProfile.f k x) r2 := by
    simp only [impl_ReadProfile.f]; exact neg_ (by omega) g1
  have e := Ev.same h g3
  subst e
  obtain ⟨dp, dz, a, b, c, k1, k2, _⟩ := g2 h0
  rw [k1]
  simp only [List.nil_append]
  rw [← frm_zero, k2]
  unfold wrT; rw [List.append_assoc]
theorem ext_take (s : ByteArray) (j : Nat) : (s.extract 0 j).data.toList = s.data.toList.take j := by
  rw [ByteArray.data_extract, Array.toList_extract]
  simp [List.extract_eq_take_drop]
theorem FnText : laws_FnText.Pure := by
  intro l m _ _ hw _ _ hw2
  refine Ev.rounds ?_
  simp only [laws_FnText.f]
  have start : Ev (fun k => laws_FnText.j0 k l m false) true := by
    obtain ⟨sc, P, x0, ws, hE, hsc, hD, hx0, hx1, hws⟩ := dr_Profiles hw
    have hg := hD.good
    have h0 : pokV P.ps P.zs P.tr P.en P.de = 0 := (pok_zero ..).mpr hg
    have hW := ev_sWrite P.ps P.zs P.tr P.en P.de
    have hI : impl_WriteProfile.f P.ps P.zs P.tr P.en P.de = some ⟨(wrV P.ps P.zs P.tr P.en P.de).toArray⟩ := rfl
    have hn2 := hg.gp.n60
    have hn3 := hg.z60
    refine Ev.step (fun k => by rw [laws_FnText.j0]) ?_
    refine neg_ (by decide) (Ev.bind hE ?_)
    by_cases c : (wrT P.ps P.zs P.tr P.en P.de).length > 3000
    · rw [wr_long h0 c] at hW hI
      refine bindc hI (pos_ (by rw [ByteArray.toList_eq]) (Ev.bind hW (now_ ?_)))
      rw [ByteArray.toList_eq]; rfl
    rw [wr_ok h0 c] at hW hI
    have hlen : 0 < (wrT P.ps P.zs P.tr P.en P.de).length := by
      unfold wrT
      obtain ⟨a, ea, _⟩ := nat_of (x := P.tr) ⟨hg.tr0, by have := hg.tr1; omega⟩
      obtain ⟨b, eb, _⟩ := nat_of (x := P.en) ⟨hg.en0, by have := hg.en1; have := hg.tot; omega⟩
      obtain ⟨d, ed, _⟩ := nat_of (x := P.de) ⟨hg.de0, by have := hg.de1; omega⟩
      have h1 : 0 < (tlT P.tr P.en P.de).length := by
        rw [ea, eb, ed, tlT_eq]
        show 0 < (116 :: (fil fR.data.toList [a, b, d]).tail : List UInt8).length
        simp
      rw [List.length_append]; omega
    have hsd : (⟨(wrT P.ps P.zs P.tr P.en P.de).toArray⟩ : ByteArray).data.toList = wrT P.ps P.zs P.tr P.en P.de := by simp
    have hss : (⟨(wrT P.ps P.zs P.tr P.en P.de).toArray⟩ : ByteArray).size = (wrT P.ps P.zs P.tr P.en P.de).length := by rw [← tl_len, hsd]
    generalize (⟨(wrT P.ps P.zs P.tr P.en P.de).toArray⟩ : ByteArray) = s at *
    have hread := read_text (t := s) (z := []) hg (by omega) (by rw [hsd, List.append_nil])
    rw [if_pos rfl] at hread
    have hsame := ev_wProfile P (by omega) (by omega)
    refine bindc hI (neg_ (fun z => by rw [ByteArray.toList_eq, hsd] at z; rw [z] at hlen; simp at hlen) (Ev.bind hread ?_))
    refine pos_ rfl (Ev.bind hsame (pos_ rfl (Ev.bind hW ?_)))
    rw [show (s.toList != s.toList) = false by simp]
    obtain ⟨b0, e0, p0, q0⟩ := wByte_some m hw2 0 (by omega)
    obtain ⟨b1, e1, p1, q1⟩ := wByte_some m hw2 1 (by omega)
    obtain ⟨b2, e2, p2, q2⟩ := wByte_some m hw2 2 (by omega)
    refine Ev.step (fun k => by rw [laws_FnText.j1]) ?_
    refine neg_ (by decide) (bindc e0 (bindc e1 (neg_ (by omega) ?_)))
    rw [w64 (a := 256 * b1) (by omega) (by omega), w64 (a := b0 + 256 * b1) (by omega) (by omega), Int.tmod_eq_emod_of_nonneg (by omega)]
    have m0 := Int.emod_nonneg (b0 + 256 * b1) (show (s.size : Int) ≠ 0 by omega)
    have m1 := Int.emod_lt_of_pos (b0 + 256 * b1) (show 0 < (s.size : Int) by omega)
    obtain ⟨j, hj⟩ : ∃ j : Nat, (b0 + 256 * b1) % (s.size : Int) = j := ⟨((b0 + 256 * b1) % (s.size : Int)).toNat, by omega⟩
    rw [hj] at m0 m1 ⊢
    rw [Int.toNat_natCast]
    have hjs : (s.extract 0 j).size = j := by rw [ByteArray.size_extract]; omega
    have hcut := read_text (t := s.extract 0 j) (z := s.data.toList.drop j) hg (by omega) (by rw [ext_take, List.take_append_drop, hsd])
    rw [if_neg (fun z => by have := congrArg List.length z; rw [List.length_drop, tl_len] at this; simp at this; omega), hjs] at hcut
    refine pos_ m0 (pos_ (by omega) (Ev.bind hcut (pos_ rfl ?_)))
    rw [show ((j : Int) != (j : Int)) = false by simp]
    refine Ev.step (fun k => by rw [laws_FnText.j2]) ?_
    refine neg_ (by decide) (pos_ m0 (pos_ (by omega) (bindc e2 (bindc rfl ?_))))
    rw [Int.toNat_natCast, w64 (a := (j : Int) + 1) (by omega) (by omega), show ((j : Int) + 1).toNat = j + 1 by omega]
    have hos : (strOfNums [b2 % 256]).size = 1 := by rw [strOfNums_size]; rfl
    have hrs : (s.extract (j + 1) s.size).size = s.size - (j + 1) := by rw [ByteArray.size_extract]; omega
    refine pos_ (by rw [hjs, hos]; omega) (pos_ (by omega) (pos_ (by omega) (pos_ (by rw [ByteArray.size_append, hjs, hos, hrs]; omega) ?_)))
    have hxs : ((s.extract 0 j ++ strOfNums [b2 % 256]) ++ s.extract (j + 1) s.size).size ≤ 3000 := by
      rw [ByteArray.size_append, ByteArray.size_append, hjs, hos, hrs]; omega
    generalize ((s.extract 0 j ++ strOfNums [b2 % 256]) ++ s.extract (j + 1) s.size) = x at *
    obtain ⟨r, h1, h2, h3, h4⟩ := reads x
    have hrr := ev_wProfile ⟨r.2.2.1, r.2.2.2.1, r.2.2.2.2.1, r.2.2.2.2.2.1, r.2.2.2.2.2.2⟩ (by simp only; omega) (by simp only; omega)
    refine Ev.bind h2 (Ev.bind h1 (pos_ rfl (pos_ rfl (Ev.bind hrr (pos_ rfl ?_)))))
    by_cases e : x.toList = s.toList
    · exact pos_ e (now_ rfl)
    refine neg_ e ?_
    by_cases e3 : r.1 = 0
    · refine pos_ e3 (Ev.bind (ev_wSame (A := ⟨r.2.2.1, r.2.2.2.1, r.2.2.2.2.1, r.2.2.2.2.2.1, r.2.2.2.2.2.2⟩) (B := P) (by simp only; omega) (by simp only; omega)) (now_ ?_))
      rw [Bool.not_eq_true', decide_eq_false_iff_not]
      rintro ⟨k1, k2, k3, k4, k5⟩
      have hb := read_back hxs h2 e3
      simp only at k1 k2 k3 k4 k5
      rw [k1, k2, k3, k4, k5] at hb
      exact e (by rw [ByteArray.toList_eq, ByteArray.toList_eq, hb, hsd])
    · exact neg_ e3 (now_ rfl)
  by_cases hc : (l.length : Int) > 1048576
  · refine pos_ hc (Ev.step (fun k => by rw [laws_FnText.j0]) ?_)
    exact pos_ rfl (now_ rfl)
  refine neg_ hc ?_
  by_cases hc2 : (m.length : Int) > 1048576
  · rw [decide_eq_true hc2]
    refine Ev.step (fun k => by rw [laws_FnText.j0]) ?_
    exact pos_ rfl (now_ rfl)
  · rw [decide_eq_false hc2]
    exact start
end
end Go.Proofs.YtanjbdgmnecacaaDoor.Pure
