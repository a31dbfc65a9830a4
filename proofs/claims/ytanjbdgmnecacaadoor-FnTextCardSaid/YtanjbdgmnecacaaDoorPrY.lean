/- The reference's text of a profile is the plain text 'wrV', as the program's is. Condition: numbers within a thousand million where a lemma says so. -/
import Derived.Lib.ItoaLen
import Derived.Test.YtanjbdgmnecacaaDoorPTx0
import Derived.Test.YtanjbdgmnecacaaDoorPTx10
import Derived.Test.YtanjbdgmnecacaaDoorPTx14
import Derived.Test.YtanjbdgmnecacaaDoorPTx17
import Derived.Test.YtanjbdgmnecacaaDoorPTx18
import Derived.Test.YtanjbdgmnecacaaDoorPrB
set_option linter.unusedVariables false
set_option linter.unusedSimpArgs false
namespace Go.Proofs.YtanjbdgmnecacaaDoor.Pure
open Go.RowKit Go.Proofs.YtanjbdgmnecacaaDoorW.PrintWords Go.Proofs.YtanjbdgmnecacaaDoorW.PrintLast Go.Proofs.YtanjbdgmnecacaaDoor.PT Go.Proofs.YtanjbdgmnecacaaDoor.M
section
theorem ba_app (a b : List UInt8) : (⟨a.toArray⟩ : ByteArray) ++ ⟨b.toArray⟩ = ⟨(a ++ b).toArray⟩ := by
  apply ByteArray.ext; simp [ByteArray.data_append]
theorem ba_of (s : ByteArray) : s = ⟨s.data.toList.toArray⟩ := by apply ByteArray.ext; simp
theorem ba_app' (a : List UInt8) (s : ByteArray) : (⟨a.toArray⟩ : ByteArray) ++ s = ⟨(a ++ s.data.toList).toArray⟩ := by
  rw [ba_of s, ba_app]
theorem w64s (i : Nat) (h : i < 1000000) : wrap64 ((i : Int) + 1) = ((i + 1 : Nat) : Int) := by rw [w64 (by omega) (by omega)]; omega
theorem dec_chr (u : Nat) : strOfNums [wrap64 (48 + Int.tmod (u : Int) 10) % 256] = ⟨[UInt8.ofNat (48 + u % 10)].toArray⟩ := by
  have e : Int.tmod (u : Int) 10 = ((u % 10 : Nat) : Int) := by rw [Int.tmod_eq_emod_of_nonneg (by omega)]; omega
  rw [e, w64 (by omega) (by omega)]
  have e2 : ((48 : Int) + ((u % 10 : Nat) : Int)) % 256 = ((48 + u % 10 : Nat) : Int) := by omega
  rw [e2]; rfl
theorem dec_l0 (u : Nat) : ∀ x : ByteArray, 0 < u → x.size + u ≤ 4000000000 → Ev (fun k => spec_l5decimal.l0 k u x) (⟨(Lib.decDigits u).toArray⟩ ++ x) := by
  induction u using Nat.strongRecOn with
  | _ u ih =>
    intro x h0 h1
    have e := Aside0.mk (show wrap64 (Int.tdiv (u : Int) 10) = ((u / 10 : Nat) : Int) by
      rw [Int.tdiv_eq_ediv_of_nonneg (by omega), w64 (by omega) (by omega)]; omega)
    refine Ev.step (fun k => by rw [spec_l5decimal.l0]) ?_
    refine pos_ (by omega) (bindc rfl (pos_ ?_ ?_))
    · rw [strOfNums_size]; show 1 + x.size ≤ _; omega
    rw [e.out, dec_chr]
    by_cases c : u < 10
    · rw [show u / 10 = 0 by omega]
      refine Ev.step (fun k => by rw [spec_l5decimal.l0]) (neg_ (by decide) (now_ ?_))
      rw [Lib.decDigits, dif_pos c, Nat.mod_eq_of_lt c]
    · refine cast_ ?_ (ih (u / 10) (by omega) _ (by omega) ?_)
      · rw [Lib.decDigits.eq_def u, dif_neg c, ← ba_app, ByteArray.append_assoc]
      · rw [ByteArray.size_append]; show 1 + x.size + u / 10 ≤ _; omega
theorem ev_dec {n : Int} (h0 : 0 ≤ n ∧ n ≤ 1000000000) : Ev (fun k => spec_l5decimal.f k n) (numB n) := by
  obtain ⟨u, rfl⟩ : ∃ u : Nat, n = u := ⟨n.toNat, by omega⟩
  simp only [spec_l5decimal.f]
  have en : numB (u : Int) = ⟨(Lib.decDigits u).toArray⟩ := by
    unfold numB Lib.itoa; rw [if_neg (by omega), Int.toNat_natCast]
  rw [en]
  by_cases c : u = 0
  · subst c
    refine pos_ rfl (now_ ?_)
    rw [Lib.decDigits, dif_pos (by decide)]; rfl
  · refine neg_ (by omega) (cast_ ?_ (dec_l0 u (⟨#[]⟩ : ByteArray) (by omega) (by show 0 + u ≤ _; omega)))
    apply ByteArray.ext; simp [ByteArray.data_append]
variable {ps : List S49} {zs : List S56} {tr en de : Int}
theorem wr_end (hs : Small ps zs tr en de) (h0 : pokV ps zs tr en de = 0) :
    Ev (fun k => spec_WriteProfile.l1 k ⟨(ps.flatMap pcT ++ zs.flatMap znT).toArray⟩ zs zs.length zs.length ps zs tr en de) ⟨(wrV ps zs tr en de).toArray⟩ := by
  have z0 := numB_le _ hs.ht.1 hs.ht.2; have z1 := numB_le _ hs.he.1 hs.he.2; have z2 := numB_le _ hs.hd.1 hs.hd.2
  have hp := hs.pl ps.length; have hz := hs.zl zs.length
  rw [List.take_length] at hp hz
  have hw : (⟨(ps.flatMap pcT ++ zs.flatMap znT).toArray⟩ : ByteArray) ++ tlB tr en de = ⟨(wrT ps zs tr en de).toArray⟩ := by rw [ba_app']; rfl
  have hs0 : (⟨(ps.flatMap pcT ++ zs.flatMap znT).toArray⟩ : ByteArray).size ≤ 8400 := by
    show (ps.flatMap pcT ++ zs.flatMap znT).toArray.size ≤ 8400
    simp only [List.size_toArray, List.length_append]; omega
  have hl : ((⟨(wrT ps zs tr en de).toArray⟩ : ByteArray).size : Int) = ((wrT ps zs tr en de).length : Int) := by
    show (((wrT ps zs tr en de).toArray.size : Nat) : Int) = _; simp
  generalize (⟨(ps.flatMap pcT ++ zs.flatMap znT).toArray⟩ : ByteArray) = acc at *
  unfold tlB at hw
  have e0 := ev_dec hs.ht; have e1 := ev_dec hs.he; have e2 := ev_dec hs.hd
  generalize numB tr = s0 at *
  generalize numB en = s1 at *
  generalize numB de = s2 at *
  refine Ev.step (fun k => by rw [spec_WriteProfile.l1]) ?_
  refine neg_ (by omega) (Ev.bind e0 ?_)
  refine pos_ (by omega) (pos_ (by simp only [ByteArray.size_append, size_lit]; simp; omega) (Ev.bind e1 ?_))
  refine pos_ (by simp only [ByteArray.size_append, size_lit]; simp; omega) (pos_ (by simp only [ByteArray.size_append, size_lit]; simp; omega) (Ev.bind e2 ?_))
  refine pos_ (by simp only [ByteArray.size_append, size_lit]; simp; omega) (pos_ (by simp only [ByteArray.size_append, size_lit]; simp; omega) (pos_ (by simp only [ByteArray.size_append, size_lit]; simp; omega) ?_))
  rw [hw, hl]
  by_cases c : (wrT ps zs tr en de).length > 3000
  · rw [wr_long h0 c]; exact pos_ (by omega) (now_ rfl)
  · rw [wr_ok h0 c]; exact neg_ (by omega) (now_ rfl)
theorem wr_zones (hs : Small ps zs tr en de) (h0 : pokV ps zs tr en de = 0) (d : Nat) : ∀ i : Nat, i + d = zs.length →
    Ev (fun k => spec_WriteProfile.l1 k ⟨(ps.flatMap pcT ++ (zs.take i).flatMap znT).toArray⟩ zs zs.length i ps zs tr en de) ⟨(wrV ps zs tr en de).toArray⟩ := by
  induction d with
  | zero =>
    intro i hi
    rw [show i = zs.length by omega, List.take_length]
    exact wr_end hs h0
  | succ d ih =>
    intro i hi
    have hn := hs.n1
    have hI := ih (i + 1) (by omega)
    have hx := hs.hz _ (getD_mem zs i z56 (by omega))
    rw [take_flat zs znT i z56 _ (by omega) rfl] at hI
    have er : rd_T56 zs (i : Int) = zs.getD i z56 := by unfold rd_T56; rw [Int.toNat_natCast]
    generalize zs.getD i z56 = x at *
    have z0 := numB_le _ hx.1.1 hx.1.2; have z1 := numB_le _ hx.2.1.1 hx.2.1.2; have z2 := numB_le _ hx.2.2.1 hx.2.2.2
    have hp := hs.pl ps.length; have hz := hs.zl i
    rw [List.take_length] at hp
    have hw : (⟨(ps.flatMap pcT ++ (zs.take i).flatMap znT).toArray⟩ : ByteArray) ++ znB x = ⟨(ps.flatMap pcT ++ ((zs.take i).flatMap znT ++ znT x)).toArray⟩ := by rw [ba_app', ← List.append_assoc]; rfl
    have hs0 : (⟨(ps.flatMap pcT ++ (zs.take i).flatMap znT).toArray⟩ : ByteArray).size ≤ 8400 := by
      show (ps.flatMap pcT ++ (zs.take i).flatMap znT).toArray.size ≤ 8400
      simp only [List.size_toArray, List.length_append]; omega
    rw [← hw] at hI
    generalize (⟨(ps.flatMap pcT ++ (zs.take i).flatMap znT).toArray⟩ : ByteArray) = acc at *
    unfold znB at hI
    have e0 := ev_dec hx.1; have e1 := ev_dec hx.2.1; have e2 := ev_dec hx.2.2
    have c0 : (i : Int) < (zs.length : Int) := by omega
    have c1 : (0 : Int) ≤ (i : Int) := by omega
    refine Ev.step (fun k => by rw [spec_WriteProfile.l1]) ?_
    rw [er, w64s i (by omega)]
    refine pos_ c0 (pos_ c1 (pos_ c0 (Ev.bind e0 ?_)))
    generalize numB x.f0 = s0 at *
    generalize numB x.f1 = s1 at *
    generalize numB x.f2 = s2 at *
    refine pos_ (by omega) (pos_ (by simp only [ByteArray.size_append, size_lit]; simp; omega) (Ev.bind e1 ?_))
    refine pos_ (by simp only [ByteArray.size_append, size_lit]; simp; omega) (pos_ (by simp only [ByteArray.size_append, size_lit]; simp; omega) (Ev.bind e2 ?_))
    refine pos_ (by simp only [ByteArray.size_append, size_lit]; simp; omega) (pos_ (by simp only [ByteArray.size_append, size_lit]; simp; omega) (pos_ (by simp only [ByteArray.size_append, size_lit]; simp; omega) ?_))
    exact hI
theorem wr_pieces (hs : Small ps zs tr en de) (h0 : pokV ps zs tr en de = 0) (d : Nat) : ∀ i : Nat, i + d = ps.length →
    Ev (fun k => spec_WriteProfile.l0 k ⟨((ps.take i).flatMap pcT).toArray⟩ ps ps.length i ps zs tr en de) ⟨(wrV ps zs tr en de).toArray⟩ := by
  induction d with
  | zero =>
    intro i hi
    rw [show i = ps.length by omega, List.take_length]
    refine Ev.step (fun k => by rw [spec_WriteProfile.l0]) (neg_ (by omega) ?_)
    have := wr_zones hs h0 zs.length 0 (by omega)
    rw [List.take_zero, List.flatMap_nil, List.append_nil] at this
    exact this
  | succ d ih =>
    intro i hi
    have hn := hs.n0
    have hI := ih (i + 1) (by omega)
    have hx := hs.hp _ (getD_mem ps i z49 (by omega))
    rw [take_flat ps pcT i z49 _ (by omega) rfl] at hI
    have er : rd_T49 ps (i : Int) = ps.getD i z49 := by unfold rd_T49; rw [Int.toNat_natCast]
    generalize ps.getD i z49 = x at *
    have z0 := numB_le _ hx.1.1 hx.1.2; have z1 := numB_le _ hx.2.1 hx.2.2
    have hp := hs.pl i
    have hw : (⟨((ps.take i).flatMap pcT).toArray⟩ : ByteArray) ++ pcB x = ⟨((ps.take i).flatMap pcT ++ pcT x).toArray⟩ := by rw [ba_app']; rfl
    have hs0 : (⟨((ps.take i).flatMap pcT).toArray⟩ : ByteArray).size ≤ 3600 := by
      show ((ps.take i).flatMap pcT).toArray.size ≤ 3600
      simp only [List.size_toArray]; omega
    rw [← hw] at hI
    generalize (⟨((ps.take i).flatMap pcT).toArray⟩ : ByteArray) = acc at *
    unfold pcB at hI
    have e0 := ev_dec hx.1; have e1 := ev_dec hx.2
    have c0 : (i : Int) < (ps.length : Int) := by omega
    have c1 : (0 : Int) ≤ (i : Int) := by omega
    refine Ev.step (fun k => by rw [spec_WriteProfile.l0]) ?_
    rw [er, w64s i (by omega)]
    refine pos_ c0 (pos_ c1 (pos_ c0 (Ev.bind e0 ?_)))
    generalize numB x.f0 = s0 at *
    generalize numB x.f1 = s1 at *
    refine pos_ (by omega) (pos_ (by simp only [ByteArray.size_append, size_lit]; simp; omega) (Ev.bind e1 ?_))
    refine pos_ (by simp only [ByteArray.size_append, size_lit]; simp; omega) (pos_ (by simp only [ByteArray.size_append, size_lit]; simp; omega) (pos_ (by simp only [ByteArray.size_append, size_lit]; simp; omega) ?_))
    exact hI
theorem ev_sWrite (ps : List S49) (zs : List S56) (tr en de : Int) : Ev (fun k => spec_WriteProfile.f k ps zs tr en de) ⟨(wrV ps zs tr en de).toArray⟩ := by
  simp only [spec_WriteProfile.f]
  refine Ev.bind (ev_sPOk ps zs tr en de) ?_
  by_cases c : pokV ps zs tr en de = 0
  · refine pos_ c ?_
    have := wr_pieces (small_of c) c ps.length 0 (by omega)
    rw [List.take_zero, List.flatMap_nil] at this
    exact this
  · exact neg_ c (now_ (by rw [wr_no c]))
end
end Go.Proofs.YtanjbdgmnecacaaDoor.Pure
