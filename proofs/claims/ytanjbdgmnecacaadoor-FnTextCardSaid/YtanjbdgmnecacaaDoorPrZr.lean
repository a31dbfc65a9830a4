/- The program's reading of a whole text, as plain law: a written text is read back, a beginning of it goes wrong at its end, and what is read without fault was written so. Conditions: the text is no longer than the program takes; a profile's numbers are small. -/
import Derived.Test.YtanjbdgmnecacaaDoorPTx0
import Derived.Test.YtanjbdgmnecacaaDoorPTx10
import Derived.Test.YtanjbdgmnecacaaDoorPTx14
import Derived.Test.YtanjbdgmnecacaaDoorPTx20
import Derived.Test.YtanjbdgmnecacaaDoorPrLr
import Derived.Test.YtanjbdgmnecacaaDoorPrZ
import Derived.Test.YtanjbdgmnecacaaDoorPrY
set_option linter.unusedVariables false
set_option linter.unusedSimpArgs false
namespace Go.Proofs.YtanjbdgmnecacaaDoor.Pure
open Go.RowKit Go.Proofs.YtanjbdgmnecacaaDoorW.PrintWords Go.Proofs.YtanjbdgmnecacaaDoorW.PrintLast Go.Proofs.YtanjbdgmnecacaaDoor.PT Go.Proofs.YtanjbdgmnecacaaDoor.M
section
variable {t : ByteArray}
theorem dl_app (a b : ByteArray) : (a ++ b).data.toList = a.data.toList ++ b.data.toList := by rw [ByteArray.data_append, Array.toList_append]
theorem numB_nat (u : Nat) : (numB (u : Int)).data.toList = Lib.decDigits u := by
  unfold numB Lib.itoa; rw [if_neg (by omega), Int.toNat_natCast]
theorem pcT_eq (u v : Nat) : pcT ⟨(u : Int), (v : Int)⟩ = fil fT.data.toList [u, v] := by
  unfold pcT pcB
  simp only [dl_app, numB_nat]
  rw [show fil fT.data.toList [u, v] = [116,114,97,99,107,32] ++ (Lib.decDigits u ++ ([32,98,114,97,107,101,32] ++ (Lib.decDigits v ++ [10]))) from rfl]
  simp only [List.append_assoc]
theorem znT_eq (u v x : Nat) : znT ⟨(u : Int), (v : Int), (x : Int)⟩ = fil fL.data.toList [u, v, x] := by
  unfold znT znB
  simp only [dl_app, numB_nat]
  rw [show fil fL.data.toList [u, v, x] = [108,105,109,105,116,32] ++ (Lib.decDigits u ++ ([32] ++ (Lib.decDigits v ++ ([32] ++ (Lib.decDigits x ++ [10]))))) from rfl]
  simp only [List.append_assoc]
theorem tlT_eq (u v x : Nat) : tlT (u : Int) (v : Int) (x : Int) = fil fR.data.toList [u, v, x] := by
  unfold tlT tlB
  simp only [dl_app, numB_nat]
  rw [show fil fR.data.toList [u, v, x] = [116,114,97,105,110,32] ++ (Lib.decDigits u ++ ([32,101,110,100,32] ++ (Lib.decDigits v ++ ([32,100,101,108,97,121,32] ++ (Lib.decDigits x ++ [10]))))) from rfl]
  simp only [List.append_assoc]
theorem frm_zero (F : ByteArray) : frm F 0 = F.data.toList := rfl
/-- A form whose word does not stand there. -/
theorem no_T {p : Int} (h : (mst t sT 6 0 p).2 = false) : (mtc t fT 16 0 p []).2.2 = false := by rw [skip_T h]
theorem no_L {p : Int} (h : (mst t sL 6 0 p).2 = false) : (mtc t fL 12 0 p []).2.2 = false := by rw [skip_L h]
theorem no_R {p : Int} (h : (mst t sR 6 0 p).2 = false) : (mtc t fR 22 0 p []).2.2 = false := by rw [skip_R h]
theorem yes_L {p : Int} (h : (mtc t fL 12 0 p []).2.2 = true) : (mst t sL 6 0 p).2 = true := by
  cases e : (mst t sL 6 0 p).2 with
  | true => rfl
  | false => rw [no_L e] at h; cases h
theorem yes_R {p : Int} (h : (mtc t fR 22 0 p []).2.2 = true) : (mst t sR 6 0 p).2 = true := by
  cases e : (mst t sR 6 0 p).2 with
  | true => rfl
  | false => rw [no_R e] at h; cases h
variable {ps : List S49} {zs : List S56} {p : Int} {r : Int × Int × (List S49) × (List S56) × Int × Int × Int}
theorem step_T {u v q : Int} (ht : t.size ≤ 3000) (h0 : 0 ≤ p) (h1 : p ≤ t.size) (hps : ps.length ≤ 3000) (hz : zs.length = 0) (hm : mtc t fT 16 0 p [] = ([u, v], q, true)) (h : Ev (fun k => impl_ReadProfile.l0 k t q (ps ++ [⟨u, v⟩]) zs 0 0 0) r) :
    Ev (fun k => impl_ReadProfile.l0 k t p ps zs 0 0 0) r := by
  have hq := mtc_le t fT 16 0 p [] h1
  rw [hm] at hq
  refine i_line ?_
  unfold frmOf
  rw [if_neg (by omega)]
  by_cases c : ps.length > 0
  · rw [if_pos c]; exact i_T ht h0 h1 (by simp) rfl hps hm (by rw [mx_r hq.1]; exact h)
  · rw [if_neg c]; exact i_T ht h0 h1 (by simp) rfl hps hm (by rw [mx_r hq.1]; exact h)
theorem step_L {u v w q : Int} (ht : t.size ≤ 3000) (h0 : 0 ≤ p) (h1 : p ≤ t.size) (hzs : zs.length ≤ 3000) (hz : zs.length > 0 ∨ ps.length > 0) (hm : mtc t fL 12 0 p [] = ([u, v, w], q, true)) (h : Ev (fun k => impl_ReadProfile.l0 k t q ps (zs ++ [⟨u, v, w⟩]) 0 0 0) r) :
    Ev (fun k => impl_ReadProfile.l0 k t p ps zs 0 0 0) r := by
  have hq := mtc_le t fL 12 0 p [] h1
  rw [hm] at hq
  have hw := w_L (yes_L (by rw [hm]))
  refine i_line ?_
  unfold frmOf
  by_cases c1 : zs.length > 0
  · rw [if_pos c1]; exact i_L ht h0 h1 (by simp) rfl hzs hm (by rw [mx_r hq.1]; exact h)
  · rw [if_neg c1, if_pos (by omega)]
    have e := skip_T (t := t) (p := p) (by rw [hw.1])
    rw [hw.1] at e
    refine i_skip (F := fT) ht h0 h1 (by simp) (by simp) rfl (by decide) (by show (mtc t fT 16 0 p []).2.2 = false; rw [e]) ?_
    show Ev (fun k => impl_ReadProfile.l1 k t p (mx p (mtc t fT 16 0 p []).2.1) false [fT, fL, fR] _ ((0 + 1 : Nat) : Int) ps zs 0 0 0) r
    rw [e, mx_r (Int.le_refl p)]
    exact i_L ht h0 h1 (by simp) rfl hzs hm (by rw [mx_r hq.1]; exact h)
theorem step_R {u v w q : Int} (ht : t.size ≤ 3000) (h0 : 0 ≤ p) (h1 : p ≤ t.size) (hz : zs.length > 0 ∨ ps.length > 0) (hm : mtc t fR 22 0 p [] = ([u, v, w], q, true)) :
    Ev (fun k => impl_ReadProfile.l0 k t p ps zs 0 0 0) (if q < t.size then (1, q, [], [], 0, 0, 0) else told ps zs u v w) := by
  have hw := w_R (yes_R (by rw [hm]))
  refine i_line ?_
  unfold frmOf
  have eL := skip_L (t := t) (p := p) (by rw [hw.1])
  rw [hw.1] at eL
  by_cases c1 : zs.length > 0
  · rw [if_pos c1]
    refine i_skip (F := fL) ht h0 h1 (by simp) (by simp) rfl (by decide) (by show (mtc t fL 12 0 p []).2.2 = false; rw [eL]) ?_
    exact i_R ht h0 h1 (by simp) rfl hm
  · rw [if_neg c1, if_pos (by omega)]
    have e := skip_T (t := t) (p := p) (by rw [hw.2])
    refine i_skip (F := fT) ht h0 h1 (by simp) (by simp) rfl (by decide) (by show (mtc t fT 16 0 p []).2.2 = false; rw [e]) ?_
    refine i_skip (F := fL) ht h0 h1 (by simp) (by simp) rfl (by decide) (by show (mtc t fL 12 0 p []).2.2 = false; rw [eL]) ?_
    exact i_R ht h0 h1 (by simp) rfl hm
theorem all_fail {forms : List ByteArray} {a b c : Int} (ht : t.size ≤ 3000) (h0 : 0 ≤ p) (h1 : p ≤ t.size) (hl : forms.length ≤ 10) (hs : ∀ F ∈ forms, F.size ≤ 100 ∧ (mtc t F F.size 0 p []).2.2 = false) (d : Nat) : ∀ (j : Nat) (far : Int), j + d = forms.length → far ≤ t.size →
    ∃ far2, Ev (fun k => impl_ReadProfile.l1 k t p far false forms forms.length j ps zs a b c) (1, far2, [], [], 0, 0, 0) ∧ far ≤ far2 ∧ far2 ≤ t.size ∧ ∀ F ∈ forms.drop j, (mtc t F F.size 0 p []).2.1 ≤ far2 := by
  induction d with
  | zero =>
    intro j far hj hf
    refine ⟨far, ?_, Int.le_refl _, hf, fun F hF => ?_⟩
    · rw [show j = forms.length by omega]; exact i_end
    · rw [List.drop_eq_nil_of_le (by omega)] at hF; cases hF
  | succ d ih =>
    intro j far hj hf
    have hjl : j < forms.length := by omega
    have hmem := List.getElem_mem hjl
    have hsz := hs _ hmem
    have hq := mtc_le t forms[j] forms[j].size 0 p [] h1
    have hrd : rdOf ByteArray.empty forms j = forms[j] := by
      show forms.getD (j : Int).toNat ByteArray.empty = forms[j]
      rw [Int.toNat_natCast, List.getD_eq_getElem?_getD, List.getElem?_eq_getElem hjl]; rfl
    have hmx : far ≤ mx far (mtc t forms[j] forms[j].size 0 p []).2.1 ∧ (mtc t forms[j] forms[j].size 0 p []).2.1 ≤ mx far (mtc t forms[j] forms[j].size 0 p []).2.1 ∧ mx far (mtc t forms[j] forms[j].size 0 p []).2.1 ≤ t.size := by
      unfold mx; split <;> omega
    obtain ⟨far2, g1, g2, g3, g4⟩ := ih (j + 1) (mx far (mtc t forms[j] forms[j].size 0 p []).2.1) (by omega) hmx.2.2
    refine ⟨far2, i_skip ht h0 h1 hjl hl hrd hsz.1 hsz.2 g1, by omega, g3, fun F hF => ?_⟩
    rw [List.drop_eq_getElem_cons hjl] at hF
    rcases List.mem_cons.mp hF with e | e
    · rw [e]; omega
    · exact g4 F e
theorem step_F (ht : t.size ≤ 3000) (h0 : 0 ≤ p) (h1 : p ≤ t.size) (hT : zs.length = 0 → (mtc t fT 16 0 p []).2.2 = false) (hL : (zs.length > 0 ∨ ps.length > 0) → (mtc t fL 12 0 p []).2.2 = false) (hR : (zs.length > 0 ∨ ps.length > 0) → (mtc t fR 22 0 p []).2.2 = false) :
    ∃ far, Ev (fun k => impl_ReadProfile.l0 k t p ps zs 0 0 0) (1, far, [], [], 0, 0, 0) ∧ far ≤ t.size ∧ (zs.length = 0 → (mtc t fT 16 0 p []).2.1 ≤ far) ∧ ((zs.length > 0 ∨ ps.length > 0) → (mtc t fL 12 0 p []).2.1 ≤ far ∧ (mtc t fR 22 0 p []).2.1 ≤ far) := by
  have hl : (frmOf ps zs).length ≤ 10 := by
    unfold frmOf
    by_cases c1 : zs.length > 0
    · rw [if_pos c1]; simp
    · rw [if_neg c1]
      by_cases c2 : ps.length > 0
      · rw [if_pos c2]; simp
      · rw [if_neg c2]; simp
  have hs : ∀ F ∈ frmOf ps zs, F.size ≤ 100 ∧ (mtc t F F.size 0 p []).2.2 = false := by
    intro F hF
    unfold frmOf at hF
    by_cases c1 : zs.length > 0
    · rw [if_pos c1] at hF
      rcases List.mem_cons.mp hF with e | e
      · subst e; exact ⟨by decide, hL (.inl c1)⟩
      · rw [List.mem_singleton] at e; subst e; exact ⟨by decide, hR (.inl c1)⟩
    · rw [if_neg c1] at hF
      by_cases c2 : ps.length > 0
      · rw [if_pos c2] at hF
        rcases List.mem_cons.mp hF with e | e
        · subst e; exact ⟨by decide, hT (by omega)⟩
        · rcases List.mem_cons.mp e with e | e
          · subst e; exact ⟨by decide, hL (.inr c2)⟩
          · rw [List.mem_singleton] at e; subst e; exact ⟨by decide, hR (.inr c2)⟩
      · rw [if_neg c2] at hF
        rw [List.mem_singleton] at hF; subst hF; exact ⟨by decide, hT (by omega)⟩
  obtain ⟨far, g1, g2, g3, g4⟩ := all_fail (ps := ps) (zs := zs) (a := 0) (b := 0) (c := 0) ht h0 h1 hl hs (frmOf ps zs).length 0 p (by omega) h1
  rw [List.drop_zero] at g4
  refine ⟨far, i_line g1, g3, fun z => g4 fT ?_, fun z => ⟨g4 fL ?_, g4 fR ?_⟩⟩
  · unfold frmOf; rw [if_neg (by omega)]; split <;> simp
  · unfold frmOf
    by_cases c1 : zs.length > 0
    · rw [if_pos c1]; simp
    · rw [if_neg c1, if_pos (by omega)]; simp
  · unfold frmOf
    by_cases c1 : zs.length > 0
    · rw [if_pos c1]; simp
    · rw [if_neg c1, if_pos (by omega)]; simp
theorem cntT : fT.data.toList.count 35 = 2 := by decide
theorem cntL : fL.data.toList.count 35 = 3 := by decide
theorem cntR : fR.data.toList.count 35 = 3 := by decide
theorem bt_frm {k : Nat} (h0 : 0 ≤ p) (hk : p + k < t.size) : ∃ b, (frm t p)[k]? = some b ∧ bt t (p + k) = (b.toNat : Int) := by
  obtain ⟨c, r, hc⟩ := frm_some (t := t) (p := p + k) (by omega) hk
  refine ⟨c, ?_, (frm_cons (by omega) hc).2.1⟩
  have e : frm t (p + k) = (frm t p).drop k := by
    unfold frm; rw [List.drop_drop, show (p + (k : Int)).toNat = p.toNat + k by omega]
  rw [← List.head?_drop, ← e, hc]; rfl
/-- Another word stands there, or the text ends. -/
theorem no_word {S : ByteArray} {l z : List UInt8} {b : UInt8} (h0 : 0 ≤ p) (h : frm t p ++ z = l) (k : Nat) (hk : k < 6) (hl : l[k]? = some b) (hb : bt S (0 + (k : Int)) ≠ (b.toNat : Int)) : (mst t S 6 0 p).2 = false := by
  cases e : (mst t S 6 0 p).2 with
  | false => rfl
  | true =>
    obtain ⟨h1, h2⟩ := mst_true t S 6 0 p e k hk
    obtain ⟨b2, h3, h4⟩ := bt_frm h0 h1
    rw [← h, List.getElem?_append_left (List.getElem?_eq_some_iff.1 h3).1, h3] at hl
    injection hl with hl
    rw [← h2, h4, hl] at hb
    exact absurd rfl hb
theorem q_of {F' : List UInt8} {us : List Nat} {z : List UInt8} (h0 : 0 ≤ p) (h1 : p ≤ t.size) (h : frm t p = fil F' us ++ z) (hz : z = []) : p + ((fil F' us).length : Int) = t.size := by
  have := frm_len h0 h1
  rw [h, hz, List.append_nil] at this; omega
theorem rd_tail {a b c : Nat} {z : List UInt8} (ht : t.size ≤ 3000) (h0 : 0 ≤ p) (h1 : p ≤ t.size) (hz : zs.length > 0 ∨ ps.length > 0) (ha : a < 1000000000) (hb : b < 1000000000) (hc : c < 1000000000) (h : frm t p ++ z = fil fR.data.toList [a, b, c]) :
    Ev (fun k => impl_ReadProfile.l0 k t p ps zs 0 0 0) (if z = [] then told ps zs a b c else (1, (t.size : Int), [], [], 0, 0, 0)) := by
  have hub : ∀ u ∈ [a, b, c], u < 1000000000 := by intro u hu; simp at hu; omega
  by_cases e : z = []
  · rw [if_pos e]
    subst e
    rw [List.append_nil] at h
    have hm := mtc_go (F := fR) fR.data.toList 0 p [] [a, b, c] [] (by omega) h0 h1 rfl (by decide) (by rw [cntR]; rfl) hub (by rw [h, List.append_nil])
    have hq := q_of (z := []) h0 h1 (by rw [h, List.append_nil]) rfl
    rw [hq] at hm
    have := step_R ht h0 h1 hz hm
    rw [if_neg (by omega)] at this
    exact this
  · rw [if_neg e]
    obtain ⟨ns, hm⟩ := mtc_cut (F := fR) fR.data.toList 0 p [] [a, b, c] z (by omega) h0 h1 rfl (by decide) (by rw [cntR]; rfl) hub h e
    have hm2 : mtc t fR 22 0 p [] = (ns, (t.size : Int), false) := hm
    obtain ⟨far, g1, g2, g3, g4⟩ := step_F (ps := ps) (zs := zs) ht h0 h1 (fun _ => no_T (no_word (b := 105) h0 h 3 (by omega) rfl (by decide))) (fun _ => no_L (no_word (b := 116) h0 h 0 (by omega) rfl (by decide))) (fun _ => by rw [hm2])
    have := (g4 hz).2
    rw [hm2] at this
    have e2 : far = t.size := by simp only at this; omega
    rw [e2] at g1; exact g1
def Nz (x : S56) : Prop := (0 ≤ x.f0 ∧ x.f0 < 1000000000) ∧ (0 ≤ x.f1 ∧ x.f1 < 1000000000) ∧ (0 ≤ x.f2 ∧ x.f2 < 1000000000)
def Np (x : S49) : Prop := (0 ≤ x.f0 ∧ x.f0 < 1000000000) ∧ (0 ≤ x.f1 ∧ x.f1 < 1000000000)
theorem nat_of {x : Int} (h : 0 ≤ x ∧ x < 1000000000) : ∃ u : Nat, x = u ∧ u < 1000000000 := ⟨x.toNat, by omega, by omega⟩
/-- A whole line ahead, or a cut one. -/
theorem line_or {A l m z : List UInt8} (h : A ++ z = l ++ m) : (∃ a, A = l ++ a ∧ a ++ z = m) ∨ ∃ a, A ++ a = l ∧ a ≠ [] ∧ z = a ++ m := by
  rcases List.append_eq_append_iff.mp h with ⟨a, ha, hb⟩ | ⟨a, ha, hb⟩
  · by_cases e : a = []
    · subst e
      rw [List.append_nil] at ha; rw [List.nil_append] at hb
      exact .inl ⟨[], by rw [ha, List.append_nil], by rw [hb]; rfl⟩
    · exact .inr ⟨a, ha.symm, e, hb⟩
  · exact .inl ⟨a, ha, hb.symm⟩
theorem rd_zones {a b c : Nat} (ht : t.size ≤ 3000) (ha : a < 1000000000) (hb : b < 1000000000) (hc : c < 1000000000) (z : List UInt8) (zs2 : List S56) : ∀ (zs : List S56) (p : Int), 0 ≤ p → p ≤ t.size → zs.length ≤ 200 → zs2.length + zs.length ≤ 200 → (zs.length > 0 ∨ ps.length > 0) → (∀ x ∈ zs2, Nz x) →
    frm t p ++ z = zs2.flatMap znT ++ fil fR.data.toList [a, b, c] → Ev (fun k => impl_ReadProfile.l0 k t p ps zs 0 0 0) (if z = [] then told ps (zs ++ zs2) a b c else (1, (t.size : Int), [], [], 0, 0, 0)) := by
  induction zs2 with
  | nil =>
    intro zs p h0 h1 hl1 hl2 hz hn h
    rw [List.append_nil]
    exact rd_tail ht h0 h1 hz ha hb hc h
  | cons x zs2 ih =>
    intro zs p h0 h1 hl1 hl2 hz hn h
    rw [List.length_cons] at hl2
    obtain ⟨x0, x1, x2⟩ := x
    have hx := hn _ List.mem_cons_self
    obtain ⟨u, rfl, u1⟩ := nat_of hx.1
    obtain ⟨v, rfl, v1⟩ := nat_of hx.2.1
    obtain ⟨w, rfl, w1⟩ := nat_of hx.2.2
    have hub : ∀ y ∈ [u, v, w], y < 1000000000 := by intro y hy; simp at hy; omega
    rw [List.flatMap_cons, List.append_assoc, znT_eq] at h
    rcases line_or h with ⟨r, hr, hm⟩ | ⟨r, hr, hne, hm⟩
    · have hmt := mtc_go (F := fL) fL.data.toList 0 p [] [u, v, w] r (by omega) h0 h1 rfl (by decide) (by rw [cntL]; rfl) hub hr
      have hle := frm_le h0 h1 hr
      have := ih (zs ++ [⟨(u : Int), (v : Int), (w : Int)⟩]) (p + (fil fL.data.toList [u, v, w]).length) (by omega) hle (by simp; omega) (by simp; omega) (.inl (by simp)) (fun y hy => hn y (List.mem_cons_of_mem _ hy)) (by rw [frm_drop h0 hr]; exact hm)
      rw [List.append_assoc] at this
      exact step_L ht h0 h1 (by omega) hz hmt this
    · rw [if_neg (by rw [hm]; simp [hne])]
      obtain ⟨ns, hmt⟩ := mtc_cut (F := fL) fL.data.toList 0 p [] [u, v, w] r (by omega) h0 h1 rfl (by decide) (by rw [cntL]; rfl) hub hr hne
      have hm2 : mtc t fL 12 0 p [] = (ns, (t.size : Int), false) := hmt
      obtain ⟨far, g1, g2, g3, g4⟩ := step_F (ps := ps) (zs := zs) ht h0 h1 (fun _ => no_T (no_word (b := 108) h0 hr 0 (by omega) rfl (by decide))) (fun _ => by rw [hm2]) (fun _ => no_R (no_word (b := 108) h0 hr 0 (by omega) rfl (by decide)))
      have := (g4 hz).1
      rw [hm2] at this
      have e2 : far = t.size := by simp only at this; omega
      rw [e2] at g1; exact g1
theorem rd_pieces {a b c : Nat} (ht : t.size ≤ 3000) (ha : a < 1000000000) (hb : b < 1000000000) (hc : c < 1000000000) (z : List UInt8) (zs2 : List S56) (hz2 : zs2.length ≤ 200) (hn2 : ∀ x ∈ zs2, Nz x) (ps2 : List S49) : ∀ (ps : List S49) (p : Int), 0 ≤ p → p ≤ t.size → ps2.length + ps.length ≤ 200 → (ps2.length > 0 ∨ ps.length > 0) → (∀ x ∈ ps2, Np x) →
    frm t p ++ z = ps2.flatMap pcT ++ (zs2.flatMap znT ++ fil fR.data.toList [a, b, c]) → Ev (fun k => impl_ReadProfile.l0 k t p ps [] 0 0 0) (if z = [] then told (ps ++ ps2) zs2 a b c else (1, (t.size : Int), [], [], 0, 0, 0)) := by
  induction ps2 with
  | nil =>
    intro ps p h0 h1 hl hp hn h
    rw [List.append_nil]
    exact rd_zones ht ha hb hc z zs2 [] p h0 h1 (by simp) (by simpa using hz2) (hp.elim (fun e => absurd e (by simp)) .inr) hn2 h
  | cons x ps2 ih =>
    intro ps p h0 h1 hl hp hn h
    rw [List.length_cons] at hl
    obtain ⟨x0, x1⟩ := x
    have hx := hn _ List.mem_cons_self
    obtain ⟨u, rfl, u1⟩ := nat_of hx.1
    obtain ⟨v, rfl, v1⟩ := nat_of hx.2
    have hub : ∀ y ∈ [u, v], y < 1000000000 := by intro y hy; simp at hy; omega
    rw [List.flatMap_cons, List.append_assoc, pcT_eq] at h
    rcases line_or h with ⟨r, hr, hm⟩ | ⟨r, hr, hne, hm⟩
    · have hmt := mtc_go (F := fT) fT.data.toList 0 p [] [u, v] r (by omega) h0 h1 rfl (by decide) (by rw [cntT]; rfl) hub hr
      have hle := frm_le h0 h1 hr
      have := ih (ps ++ [⟨(u : Int), (v : Int)⟩]) (p + (fil fT.data.toList [u, v]).length) (by omega) hle (by simp; omega) (.inr (by simp)) (fun y hy => hn y (List.mem_cons_of_mem _ hy)) (by rw [frm_drop h0 hr]; exact hm)
      rw [List.append_assoc] at this
      exact step_T ht h0 h1 (by omega) rfl hmt this
    · rw [if_neg (by rw [hm]; simp [hne])]
      obtain ⟨ns, hmt⟩ := mtc_cut (F := fT) fT.data.toList 0 p [] [u, v] r (by omega) h0 h1 rfl (by decide) (by rw [cntT]; rfl) hub hr hne
      have hm2 : mtc t fT 16 0 p [] = (ns, (t.size : Int), false) := hmt
      obtain ⟨far, g1, g2, g3, g4⟩ := step_F (ps := ps) (zs := []) ht h0 h1 (fun _ => by rw [hm2]) (fun _ => no_L (no_word (b := 116) h0 hr 0 (by omega) rfl (by decide))) (fun _ => no_R (no_word (b := 99) h0 hr 3 (by omega) rfl (by decide)))
      have := g3 rfl
      rw [hm2] at this
      have e2 : far = t.size := by simp only at this; omega
      rw [e2] at g1; exact g1
theorem pok_in (ps : List S49) (zs : List S56) (a b c : Int) : 0 ≤ pokV ps zs a b c ∧ pokV ps zs a b c ≤ 6 := by
  unfold pokV
  repeat' split
  all_goals omega
theorem told_zero {a b c : Int} (h : (told ps zs a b c).1 = 0) : told ps zs a b c = (0, 0, ps, zs, a, b, c) := by
  unfold told at h ⊢
  by_cases e : pokV ps zs a b c = 0
  · rw [if_pos e]
  · rw [if_neg e] at h
    have := pok_in ps zs a b c
    simp only at h
    rw [w64 (by omega) (by omega)] at h; omega
theorem rd_back (ht : t.size ≤ 3000) (m : Nat) : ∀ (p : Int) (ps : List S49) (zs : List S56), 0 ≤ p → p ≤ t.size → (t.size : Int) - p < m → (ps.length : Int) ≤ p → (zs.length : Int) ≤ p →
    ∃ r, Ev (fun k => impl_ReadProfile.l0 k t p ps zs 0 0 0) r ∧ (r.1 = 0 → ∃ (dp : List S49) (dz : List S56) (a b c : Int), r = (0, 0, ps ++ dp, zs ++ dz, a, b, c) ∧ frm t p = dp.flatMap pcT ++ (dz.flatMap znT ++ tlT a b c) ∧ (zs.length > 0 → dp = [])) := by
  induction m with
  | zero => intro p ps zs h0 h1 h2; omega
  | succ m ih =>
    intro p ps zs h0 h1 h2 hps hzs
    by_cases cT : zs.length = 0 ∧ (mtc t fT 16 0 p []).2.2 = true
    · obtain ⟨us, e1, e2, e3⟩ := mtc_back (F := fT) fT.data.toList 0 p [] (by omega) h0 h1 rfl cT.2
      have e2' : us.length = 2 := e2.trans cntT
      have e1' : (mtc t fT 16 0 p []).1 = us.map Int.ofNat := e1
      have e3' : frm t p = fil fT.data.toList us ++ frm t (mtc t fT 16 0 p []).2.1 := e3
      have hq := mtc_le t fT 16 0 p [] h1
      match us, e2' with
      | [u, v], _ =>
        have hm : mtc t fT 16 0 p [] = ([(u : Int), (v : Int)], (mtc t fT 16 0 p []).2.1, true) := by
          rw [← cT.2]; exact Prod.ext e1' rfl
        rw [← pcT_eq] at e3'
        generalize (mtc t fT 16 0 p []).2.1 = q at *
        have l1 := frm_len h0 h1
        have l2 := frm_len (t := t) (p := q) (by omega) hq.2
        have l3 : 6 ≤ (pcT ⟨(u : Int), (v : Int)⟩).length := by rw [pcT_eq]; show 6 ≤ ([116,114,97,99,107,32] ++ _ : List UInt8).length; simp
        rw [e3', List.length_append] at l1
        obtain ⟨r, g1, g2⟩ := ih q (ps ++ [⟨(u : Int), (v : Int)⟩]) zs (by omega) hq.2 (by omega) (by simp; omega) (by omega)
        refine ⟨r, step_T ht h0 h1 (by omega) cT.1 hm g1, fun z => ?_⟩
        obtain ⟨dp, dz, a, b, c, k1, k2, _⟩ := g2 z
        refine ⟨⟨(u : Int), (v : Int)⟩ :: dp, dz, a, b, c, by rw [k1, List.append_assoc]; rfl, ?_, fun w => by have := cT.1; omega⟩
        rw [e3', k2, List.flatMap_cons, List.append_assoc]
    by_cases cL : (zs.length > 0 ∨ ps.length > 0) ∧ (mtc t fL 12 0 p []).2.2 = true
    · obtain ⟨us, e1, e2, e3⟩ := mtc_back (F := fL) fL.data.toList 0 p [] (by omega) h0 h1 rfl cL.2
      have e2' : us.length = 3 := e2.trans cntL
      have e1' : (mtc t fL 12 0 p []).1 = us.map Int.ofNat := e1
      have e3' : frm t p = fil fL.data.toList us ++ frm t (mtc t fL 12 0 p []).2.1 := e3
      have hq := mtc_le t fL 12 0 p [] h1
      match us, e2' with
      | [u, v, w], _ =>
        have hm : mtc t fL 12 0 p [] = ([(u : Int), (v : Int), (w : Int)], (mtc t fL 12 0 p []).2.1, true) := by
          rw [← cL.2]; exact Prod.ext e1' rfl
        rw [← znT_eq] at e3'
        generalize (mtc t fL 12 0 p []).2.1 = q at *
        have l1 := frm_len h0 h1
        have l2 := frm_len (t := t) (p := q) (by omega) hq.2
        have l3 : 6 ≤ (znT ⟨(u : Int), (v : Int), (w : Int)⟩).length := by rw [znT_eq]; show 6 ≤ ([108,105,109,105,116,32] ++ _ : List UInt8).length; simp
        rw [e3', List.length_append] at l1
        obtain ⟨r, g1, g2⟩ := ih q ps (zs ++ [⟨(u : Int), (v : Int), (w : Int)⟩]) (by omega) hq.2 (by omega) (by omega) (by simp; omega)
        refine ⟨r, step_L ht h0 h1 (by omega) cL.1 hm g1, fun z => ?_⟩
        obtain ⟨dp, dz, a, b, c, k1, k2, k3⟩ := g2 z
        have hd := k3 (by simp)
        subst hd
        refine ⟨[], ⟨(u : Int), (v : Int), (w : Int)⟩ :: dz, a, b, c, by rw [k1, List.append_assoc]; rfl, ?_, fun _ => rfl⟩
        rw [e3', k2, List.flatMap_nil, List.flatMap_cons, List.nil_append, List.nil_append, List.append_assoc]
    by_cases cR : (zs.length > 0 ∨ ps.length > 0) ∧ (mtc t fR 22 0 p []).2.2 = true
    · obtain ⟨us, e1, e2, e3⟩ := mtc_back (F := fR) fR.data.toList 0 p [] (by omega) h0 h1 rfl cR.2
      have e2' : us.length = 3 := e2.trans cntR
      have e1' : (mtc t fR 22 0 p []).1 = us.map Int.ofNat := e1
      have e3' : frm t p = fil fR.data.toList us ++ frm t (mtc t fR 22 0 p []).2.1 := e3
      have hq := mtc_le t fR 22 0 p [] h1
      match us, e2' with
      | [u, v, w], _ =>
        have hm : mtc t fR 22 0 p [] = ([(u : Int), (v : Int), (w : Int)], (mtc t fR 22 0 p []).2.1, true) := by
          rw [← cR.2]; exact Prod.ext e1' rfl
        rw [← tlT_eq] at e3'
        generalize (mtc t fR 22 0 p []).2.1 = q at *
        refine ⟨_, step_R ht h0 h1 cR.1 hm, fun z => ?_⟩
        by_cases e : q < t.size
        · rw [if_pos e] at z; cases z
        · rw [if_neg e] at z ⊢
          refine ⟨[], [], u, v, w, by rw [told_zero z, List.append_nil, List.append_nil], ?_, fun _ => rfl⟩
          have hend : frm t q = [] := by unfold frm; exact List.drop_eq_nil_of_le (by rw [tl_len]; omega)
          rw [e3', hend, List.append_nil]; rfl
    obtain ⟨far, g1, _, _, _⟩ := step_F (ps := ps) (zs := zs) ht h0 h1 (fun z => Bool.eq_false_iff.mpr (fun k => cT ⟨z, k⟩)) (fun z => Bool.eq_false_iff.mpr (fun k => cL ⟨z, k⟩)) (fun z => Bool.eq_false_iff.mpr (fun k => cR ⟨z, k⟩))
    exact ⟨_, g1, fun z => by cases z⟩
theorem Ev.same {α : Type} {g : Nat → Option α} {a b : α} (h1 : Ev g a) (h2 : Ev g b) : a = b := by
  obtain ⟨K1, k1⟩ := h1
  obtain ⟨K2, k2⟩ := h2
  have e1 := k1 (max K1 K2) (Nat.le_max_left _ _)
  have e2 := k2 (max K1 K2) (Nat.le_max_right _ _)
  rw [e1] at e2; exact Option.some.inj e2
end
end Go.Proofs.YtanjbdgmnecacaaDoor.Pure
