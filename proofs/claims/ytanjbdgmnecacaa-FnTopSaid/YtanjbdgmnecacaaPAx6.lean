-- Written by a program of this session (wip/print/myprint.py) over the kit's print, with contracts of its own; not a text of print.sh's.
import Derived.Test.YtanjbdgmnecacaaPAx0
import Derived.Test.YtanjbdgmnecacaaPAx3
import Derived.Test.YtanjbdgmnecacaaPAx4
import Derived.Test.YtanjbdgmnecacaaPAx5
namespace Go.Proofs.Ytanjbdgmnecacaa.PA
open Go.RowKit Go.Proofs.YtanjbdgmnecacaaW.PrintWords Go.Proofs.YtanjbdgmnecacaaW.PrintLast Go.Proofs.YtanjbdgmnecacaaW.PrintMore
attribute [local go_sem] max2_int min2_int max_two min_two   -- for this text's walks alone
set_option linter.unusedVariables false
set_option linter.unusedSimpArgs false

/-! ### spec_Profiles: function 9 -/
def spec_Profiles.f (k : Nat) (l0 : List Int) : Option ((List (S39)) × (List (S45)) × Int × Int × Int × Int × List Int):=(spec_l6Cur_pick.f l0 0 0 30).bind fun bt210 => ((spec_l6Cur_profile.f k l0 bt210.2.1 bt210.2.2 (wrap64 (1 + bt210.1))).bind fun bt213 => ((spec_l6Cur_wide.f l0 bt213.2.2.2.2.2.1 bt213.2.2.2.2.2.2 (wrap64 (bt213.2.2.2.1 + 1))).bind fun bt225 => ((spec_l6Cur_wants.f k l0 bt225.2.1 bt225.2.2).bind fun bt228 => (some (bt213.1,bt213.2.1,bt213.2.2.1,bt213.2.2.2.1,bt213.2.2.2.2.1,bt225.1,bt228.1)))))
theorem spec_Profiles.mono : ∀ a0 k,LeO (spec_Profiles.f k a0) (spec_Profiles.f (k + 1) a0):=by
 intro a0 k
 unfold spec_Profiles.f
 repeat' first
   | (with_reducible exact spec_l6Cur_profile.mono _ _ _ _ _)
   | (with_reducible exact spec_l6Cur_wants.mono _ _ _ _)
   | (with_reducible exact LeO.refl _)
   | (with_reducible exact LeO.none _)
   | (with_reducible refine LeO.ite ?_ ?_)
   | (with_reducible refine LeO.bind ?_ (fun _ => ?_))
   | exact spec_l6Cur_profile.mono _ _ _ _ _
   | exact spec_l6Cur_wants.mono _ _ _ _
   | exact LeO.none _
   | refine LeO.ite ?_ ?_
   | refine LeO.bind ?_ (fun _ => ?_)
set_option maxHeartbeats 8000000 in
set_option maxRecDepth 100000 in
theorem spec_Profiles.calls (k : Nat) (A0 : Option Addr) (c0 : Nat) (l0 : List Int) (r1 : List (S39)) (r2 : List (S45)) (r3 : Int) (r4 : Int) (r5 : Int) (r6 : Int) (r7 : List Int) (w : World) (hr0 : Kd.C (Kd.int .u8) w A0 l0.length l0) (hc0 : l0.length ≤ c0) (h : spec_Profiles.f k l0 = some (r1,r2,r3,r4,r5,r6,r7)) :
  Calls Try.prog 9 #[.slice A0 l0.length c0] w fun e w' => ∃ v0_ v1_ v6_ : Value,e = .returned (.tuple #[.agg #[v0_,v1_,.int .i64 r3,.int .i64 r4,.int .i64 r5],.int .i64 r6,v6_])∧Kd.R k39 39 w' w.heap.size (fun _ => True) v0_ r1∧Kd.R k45 45 w' w.heap.size (fun _ => True) v1_ r2∧Kd.R (Kd.int .i64) 3 w' w.heap.size (fun _ => True) v6_ r7∧Below w.heap.size w w':=by
 have hu26:=Try.underlying26
 have hu59:=Try.underlying59
 have HR0:=Am hr0
 have HC0:=Am hc0
 clear hr0 hc0
 have HB:=Am (Below.refl w.heap.size w)
 have H : ((spec_l6Cur_pick.f l0 0 0 30).bind fun bt210 => ((spec_l6Cur_profile.f k l0 bt210.2.1 bt210.2.2 (wrap64 (1 + bt210.1))).bind fun bt213 => ((spec_l6Cur_wide.f l0 bt213.2.2.2.2.2.1 bt213.2.2.2.2.2.2 (wrap64 (bt213.2.2.2.1 + 1))).bind fun bt225 => ((spec_l6Cur_wants.f k l0 bt225.2.1 bt225.2.2).bind fun bt228 => (some (bt213.1,bt213.2.1,bt213.2.2.1,bt213.2.2.2.1,bt213.2.2.2.2.1,bt225.1,bt228.1)))))) = some (r1,r2,r3,r4,r5,r6,r7):=h
 clear h
 replace H:=Option.bind_eq_some_iff.mp H
 obtain ⟨⟨t210,t211,t212⟩,A20,H⟩:=H
 replace H : ((spec_l6Cur_profile.f k l0 t211 t212 (wrap64 (1 + t210))).bind fun bt213 => ((spec_l6Cur_wide.f l0 bt213.2.2.2.2.2.1 bt213.2.2.2.2.2.2 (wrap64 (bt213.2.2.2.1 + 1))).bind fun bt225 => ((spec_l6Cur_wants.f k l0 bt225.2.1 bt225.2.2).bind fun bt228 => (some (bt213.1,bt213.2.1,bt213.2.2.1,bt213.2.2.2.1,bt213.2.2.2.2.1,bt225.1,bt228.1))))) = some (r1,r2,r3,r4,r5,r6,r7):=H
 have A2:=Am A20
 clear A20
 replace H:=Option.bind_eq_some_iff.mp H
 obtain ⟨⟨t213,t216,t219,t220,t221,t222,t223⟩,A30,H⟩:=H
 replace H : ((spec_l6Cur_wide.f l0 t222 t223 (wrap64 (t220 + 1))).bind fun bt225 => ((spec_l6Cur_wants.f k l0 bt225.2.1 bt225.2.2).bind fun bt228 => (some (t213,t216,t219,t220,t221,bt225.1,bt228.1)))) = some (r1,r2,r3,r4,r5,r6,r7):=H
 have A3:=Am A30
 clear A30
 replace H:=Option.bind_eq_some_iff.mp H
 obtain ⟨⟨t225,t226,t227⟩,A40,H⟩:=H
 replace H : ((spec_l6Cur_wants.f k l0 t226 t227).bind fun bt228 => (some (t213,t216,t219,t220,t221,t225,bt228.1))) = some (r1,r2,r3,r4,r5,r6,r7):=H
 have A4:=Am A40
 clear A40
 replace H:=Option.bind_eq_some_iff.mp H
 obtain ⟨⟨t228,t231,t232⟩,A50,H⟩:=H
 replace H : (some (t213,t216,t219,t220,t221,t225,t228)) = some (r1,r2,r3,r4,r5,r6,r7):=H
 have A5:=Am A50
 clear A50
 simp only [Option.some.injEq,Prod.mk.injEq] at H
 obtain ⟨rfl,rfl,rfl,rfl,rfl,rfl,rfl⟩:=H
 go_enter Try.func9,Try.ntmps9
 try go_wp2_with (first|((with_reducible refine gate_dst (N:=2) rfl ?_);refine box_event ?hg (N:=2) ?hd (cs:=#[.slice none 0 0,.slice none 0 0,.int .i64 0,.int .i64 0,.int .i64 0]) (t:=26) ?hr ?_;(case hd => rfl);(case hg => rfl);(case hr => first|(go_simp;done)|(go_simp;rfl));intro gb208 hg w6 hbox hb;have n0_:=Am (below_step (by repeat (first|(with_reducible first|exact HB.out|apply bA|apply bN|apply bD)|exact HB.out)) hb);have n1_:=Am (hbox);have n2_:=Am ((by rw [hg];exact (below_size (by repeat (first|(with_reducible first|exact HB.out|apply bA|apply bN|apply bD)|exact HB.out))) : w.heap.size ≤ gb208));have n3_:=Am ((by rw [hg];exact (below_size (by repeat (first|(with_reducible first|exact HB.out|apply bA|apply bN|apply bD)|exact HB.out))) : w.heap.size ≤ gb208));clear HB;have HB:=n0_;have BK208:=n1_;have GW208:=n2_;have GE208:=n3_;clear n0_ n1_ n2_ n3_;clear hb hbox hg)|((with_reducible refine gate_dst (N:=10) rfl ?_);refine box_event ?hg (N:=10) ?hd (cs:=#[.slice A0 l0.length c0,.int .i64 0,.int .u64 0]) (t:=59) ?hr ?_;(case hd => rfl);(case hg => rfl);(case hr => first|(go_simp;done)|(go_simp;rfl));intro gb209 hg w7 hbox hb;have n0_:=Am (blk_below (g:=gb208) (o:=.cells #[.slice none 0 0,.slice none 0 0,.int .i64 0,.int .i64 0,.int .i64 0] 26 (0,0)) (by (with_reducible repeat (first|refine kN ?_ _|refine kD ?_|refine kA ?_ _));exact BK208.out) hb);have n1_:=Am (below_step (by repeat (first|(with_reducible first|exact HB.out|apply bA|apply bN|apply bD|refine bS ?_ GE208.out)|exact HB.out)) hb);have n2_:=Am (hbox);have n3_:=Am ((by rw [hg];exact (below_size (by repeat (first|(with_reducible first|exact HB.out|apply bA|apply bN|apply bD|refine bS ?_ GE208.out)|exact HB.out))) : w.heap.size ≤ gb209));have n4_:=Am ((by rw [hg];exact (below_size (by repeat (first|(with_reducible first|exact HB.out|apply bA|apply bN|apply bD|refine bS ?_ GE208.out)|exact HB.out))) : w.heap.size ≤ gb209));have n5_:=Am ((by rw [hg];exact Nat.ne_of_lt (blk_lt (g:=gb208) (o:=.cells #[.slice none 0 0,.slice none 0 0,.int .i64 0,.int .i64 0,.int .i64 0] 26 (0,0)) (by (with_reducible repeat (first|refine kN ?_ _|refine kD ?_|refine kA ?_ _));exact BK208.out)) : gb208 ≠ gb209));have n6_:=Am ((by rw [hg];exact Nat.ne_of_gt (blk_lt (g:=gb208) (o:=.cells #[.slice none 0 0,.slice none 0 0,.int .i64 0,.int .i64 0,.int .i64 0] 26 (0,0)) (by (with_reducible repeat (first|refine kN ?_ _|refine kD ?_|refine kA ?_ _));exact BK208.out)) : gb209 ≠ gb208));clear BK208;clear HB;have BK208:=n0_;have HB:=n1_;have BK209:=n2_;have GW209:=n3_;have GE209:=n4_;have NB208_209:=n5_;have NB209_208:=n6_;clear n0_ n1_ n2_ n3_ n4_ n5_ n6_;clear hb hbox hg)|((with_reducible refine gate_callee (f:=31) rfl ?_);refine goesL_ (some 13) rfl rfl Try.func31 (by kernel_rfl) rfl #[.pointer (some ⟨gb209,0,none⟩),.int .i64 30] rfl (by (try simp only [List.map_toArray,List.map_cons,List.map_nil]);first|done|rfl|(simp only [List.length_drop,List.length_take];rfl)) ?_;(with_reducible refine (spec_l6Cur_pick.calls gb209 l0 0 0 30 t210 t211 t212 w _ ?side1 ?side2 A2.out).mono ?_);(case side1 => exact ⟨_,_,by (with_reducible repeat (first|refine kN ?_ _|refine kD ?_|refine kA ?_ _));exact BK209.out,GE209.out,HR0.out⟩);(case side2 => repeat (first|(with_reducible first|exact HB.out|apply bA|apply bN|apply bD|refine bS ?_ GE209.out|refine bS ?_ GE208.out)|exact HB.out));rintro e w8 ⟨rfl,hi,hb,hk⟩;refine ⟨_,rfl,?_⟩;have n0_:=Am (KeepBut.blk hk (g':=gb208) (o:=.cells #[.slice none 0 0,.slice none 0 0,.int .i64 0,.int .i64 0,.int .i64 0] 26 (0,0)) (by (with_reducible repeat (first|refine kN ?_ _|refine kD ?_|refine kA ?_ _));exact BK208.out) NB208_209.out (by simp));have n1_:=Am (hb);have n2_:=Am (hi);clear BK208;clear HB;clear BK209;have BK208:=n0_;have HB:=n1_;have HI209:=n2_;clear n0_ n1_ n2_;(try clear hb);(try clear hb2);(try clear hk);(try clear hi))|((with_reducible refine gate_callee (f:=30) rfl ?_);refine goesL_ (some 15) rfl rfl Try.func30 (by kernel_rfl) rfl #[.pointer (some ⟨gb209,0,none⟩),.int .i64 (wrap64 (1 + t210))] rfl (by (try simp only [List.map_toArray,List.map_cons,List.map_nil]);first|done|rfl|(simp only [List.length_drop,List.length_take];rfl)) ?_;(with_reducible refine (spec_l6Cur_profile.calls k gb209 l0 t211 t212 (wrap64 (1 + t210)) t213 t216 t219 t220 t221 t222 t223 w _ ?side1 ?side2 A3.out).mono ?_);(case side1 => repeat (first|(with_reducible first|exact HI209.out|apply IsS59.alloc|apply IsS59.drewN|apply IsS59.drew|apply IsS59.set_1|apply IsS59.set_2|refine IsS59.far ?_ NB209_208.out _)|exact HI209.out));(case side2 => repeat (first|(with_reducible first|exact HB.out|apply bA|apply bN|apply bD|refine bS ?_ (IsS59.ge HI209.out)|refine bS ?_ GE208.out)|exact HB.out));rintro e w9 ⟨v214,v217,rfl,ho0,ho1,hi,hb,hk⟩;refine ⟨_,rfl,?_⟩;have n0_:=Am (KeepBut.blk hk (g':=gb208) (o:=.cells #[.slice none 0 0,.slice none 0 0,.int .i64 0,.int .i64 0,.int .i64 0] 26 (0,0)) (by (with_reducible repeat (first|refine kN ?_ _|refine kD ?_|refine kA ?_ _));exact BK208.out) NB208_209.out (by simp));have n1_:=Am (Kd.R_lower ho0 (below_size (by repeat (first|(with_reducible first|exact HB.out|apply bA|apply bN|apply bD|refine bS ?_ (IsS59.ge HI209.out)|refine bS ?_ GE208.out)|exact HB.out))));have n2_:=Am (Kd.R_lower ho1 (below_size (by repeat (first|(with_reducible first|exact HB.out|apply bA|apply bN|apply bD|refine bS ?_ (IsS59.ge HI209.out)|refine bS ?_ GE208.out)|exact HB.out))));have n3_:=Am (hb);have n4_:=Am (hi);clear BK208;clear HB;clear HI209;have BK208:=n0_;have HO215:=n1_;have HO218:=n2_;have HB:=n3_;have HI209:=n4_;clear n0_ n1_ n2_ n3_ n4_;(try clear hb);(try clear hb2);(try clear hk);(try clear hi);(try clear ho0);(try clear ho1))|((with_reducible refine gate_dst (N:=6) rfl ?_);refine box_event ?hg (N:=6) ?hd (cs:=#[.slice none 0 0,.slice none 0 0,.int .i64 0,.int .i64 0,.int .i64 0]) (t:=26) ?hr ?_;(case hd => rfl);(case hg => rfl);(case hr => first|(go_simp;done)|(go_simp;rfl));intro gb224 hg w10 hbox hb;have n0_:=Am (Kd.R_below (by (with_reducible repeat (first|apply Kd.R_alloc|apply Kd.R_drewN|apply Kd.R_drew));exact HO215.out) hb);have n1_:=Am (Kd.R_below (by (with_reducible repeat (first|apply Kd.R_alloc|apply Kd.R_drewN|apply Kd.R_drew));exact HO218.out) hb);have n2_:=Am (blk_below (g:=gb208) (o:=.cells #[.slice none 0 0,.slice none 0 0,.int .i64 0,.int .i64 0,.int .i64 0] 26 (0,0)) (by (with_reducible repeat (first|refine kN ?_ _|refine kD ?_|refine kA ?_ _));exact BK208.out) hb);have n3_:=Am (IsS59.below (by repeat (first|(with_reducible first|exact HI209.out|apply IsS59.alloc|apply IsS59.drewN|apply IsS59.drew|apply IsS59.set_1|apply IsS59.set_2|refine IsS59.far ?_ NB209_208.out _)|exact HI209.out)) hb);have n4_:=Am (below_step (by repeat (first|(with_reducible first|exact HB.out|apply bA|apply bN|apply bD|refine bS ?_ (IsS59.ge HI209.out)|refine bS ?_ GE208.out)|exact HB.out)) hb);have n5_:=Am (hbox);have n6_:=Am ((by rw [hg];exact (below_size (by repeat (first|(with_reducible first|exact HB.out|apply bA|apply bN|apply bD|refine bS ?_ (IsS59.ge HI209.out)|refine bS ?_ GE208.out)|exact HB.out))) : w.heap.size ≤ gb224));have n7_:=Am ((by rw [hg];exact (below_size (by repeat (first|(with_reducible first|exact HB.out|apply bA|apply bN|apply bD|refine bS ?_ (IsS59.ge HI209.out)|refine bS ?_ GE208.out)|exact HB.out))) : w.heap.size ≤ gb224));have n8_:=Am ((by rw [hg];exact Nat.ne_of_lt (blk_lt (g:=gb208) (o:=.cells #[.slice none 0 0,.slice none 0 0,.int .i64 0,.int .i64 0,.int .i64 0] 26 (0,0)) (by (with_reducible repeat (first|refine kN ?_ _|refine kD ?_|refine kA ?_ _));exact BK208.out)) : gb208 ≠ gb224));have n9_:=Am ((by rw [hg];exact Nat.ne_of_gt (blk_lt (g:=gb208) (o:=.cells #[.slice none 0 0,.slice none 0 0,.int .i64 0,.int .i64 0,.int .i64 0] 26 (0,0)) (by (with_reducible repeat (first|refine kN ?_ _|refine kD ?_|refine kA ?_ _));exact BK208.out)) : gb224 ≠ gb208));have n10_:=Am ((by rw [hg];exact Nat.ne_of_lt (IsS59.lt (show IsS59 w _ gb209 l0 t222 t223 from by repeat (first|(with_reducible first|exact HI209.out|apply IsS59.alloc|apply IsS59.drewN|apply IsS59.drew|apply IsS59.set_1|apply IsS59.set_2|refine IsS59.far ?_ NB209_208.out _)|exact HI209.out))) : gb209 ≠ gb224));have n11_:=Am ((by rw [hg];exact Nat.ne_of_gt (IsS59.lt (show IsS59 w _ gb209 l0 t222 t223 from by repeat (first|(with_reducible first|exact HI209.out|apply IsS59.alloc|apply IsS59.drewN|apply IsS59.drew|apply IsS59.set_1|apply IsS59.set_2|refine IsS59.far ?_ NB209_208.out _)|exact HI209.out))) : gb224 ≠ gb209));clear HO215;clear HO218;clear BK208;clear HI209;clear HB;have HO215:=n0_;have HO218:=n1_;have BK208:=n2_;have HI209:=n3_;have HB:=n4_;have BK224:=n5_;have GW224:=n6_;have GE224:=n7_;have NB208_224:=n8_;have NB224_208:=n9_;have NB209_224:=n10_;have NB224_209:=n11_;clear n0_ n1_ n2_ n3_ n4_ n5_ n6_ n7_ n8_ n9_ n10_ n11_;clear hb hbox hg;obtain ⟨Ao11,co11,eo11⟩:=Kd.R_slice HO215.out;subst eo11;have hnb12:=NB224_208.out;have hnc12:=NB208_224.out;have hnb13:=NB224_209.out;have hnc13:=NB209_224.out;have hcz14_0 : w10.cell? ⟨gb224,0,none⟩ = some (.slice none 0 0):=(kC BK224.out 0).trans rfl;have hcz14_1 : w10.cell? ⟨gb224,1,none⟩ = some (.slice none 0 0):=(kC BK224.out 1).trans rfl;have hcz14_2 : w10.cell? ⟨gb224,2,none⟩ = some (.int .i64 0):=(kC BK224.out 2).trans rfl;have hcz14_3 : w10.cell? ⟨gb224,3,none⟩ = some (.int .i64 0):=(kC BK224.out 3).trans rfl;have hcz14_4 : w10.cell? ⟨gb224,4,none⟩ = some (.int .i64 0):=(kC BK224.out 4).trans rfl;have hfz14_0:=kF BK224.out 0;have hfz14_1:=kF BK224.out 1;have hfz14_2:=kF BK224.out 2;have hfz14_3:=kF BK224.out 3;have hfz14_4:=kF BK224.out 4;obtain ⟨Ao15,co15,eo15⟩:=Kd.R_slice HO218.out;subst eo15)|((with_reducible refine gate_callee (f:=32) rfl ?_);refine goesL_ (some 20) rfl rfl Try.func32 (by kernel_rfl) rfl #[.pointer (some ⟨gb209,0,none⟩),.int .i64 (wrap64 (t220 + 1))] rfl (by (try simp only [List.map_toArray,List.map_cons,List.map_nil]);first|done|rfl|(simp only [List.length_drop,List.length_take];rfl)) ?_;(with_reducible refine (spec_l6Cur_wide.calls gb209 l0 t222 t223 (wrap64 (t220 + 1)) t225 t226 t227 w _ ?side1 ?side2 A4.out).mono ?_);(case side1 => repeat (first|(with_reducible first|exact HI209.out|apply IsS59.alloc|apply IsS59.drewN|apply IsS59.drew|apply IsS59.set_1|apply IsS59.set_2|refine IsS59.far ?_ NB209_208.out _|refine IsS59.far ?_ NB209_224.out _)|exact HI209.out));(case side2 => repeat (first|(with_reducible first|exact HB.out|apply bA|apply bN|apply bD|refine bS ?_ (IsS59.ge HI209.out)|refine bS ?_ GE208.out|refine bS ?_ GE224.out)|exact HB.out));rintro e w16 ⟨rfl,hi,hb,hk⟩;refine ⟨_,rfl,?_⟩;have n0_:=Am (KeepBut.blk hk (g':=gb208) (o:=.cells #[.slice none 0 0,.slice none 0 0,.int .i64 0,.int .i64 0,.int .i64 0] 26 (0,0)) (by (with_reducible repeat (first|refine kN ?_ _|refine kD ?_|refine kA ?_ _));refine blk_far ?_ NB208_224.out _;(with_reducible repeat (first|refine kN ?_ _|refine kD ?_|refine kA ?_ _));refine blk_far ?_ NB208_224.out _;(with_reducible repeat (first|refine kN ?_ _|refine kD ?_|refine kA ?_ _));refine blk_far ?_ NB208_224.out _;(with_reducible repeat (first|refine kN ?_ _|refine kD ?_|refine kA ?_ _));refine blk_far ?_ NB208_224.out _;(with_reducible repeat (first|refine kN ?_ _|refine kD ?_|refine kA ?_ _));refine blk_far ?_ NB208_224.out _;(with_reducible repeat (first|refine kN ?_ _|refine kD ?_|refine kA ?_ _));exact BK208.out) NB208_209.out (by simp));have n1_:=Am (Kd.R_mono (Kd.R_keep (IsS59.apart (show IsS59 w _ gb209 l0 t222 t223 from by repeat (first|(with_reducible first|exact HI209.out|apply IsS59.alloc|apply IsS59.drewN|apply IsS59.drew|apply IsS59.set_1|apply IsS59.set_2|refine IsS59.far ?_ NB209_208.out _|refine IsS59.far ?_ NB209_224.out _)|exact HI209.out)) (by (with_reducible repeat (first|apply Kd.R_alloc|apply Kd.R_drewN|apply Kd.R_drew));exact (Kd.R_mono (Kd.R_far (p:=⟨gb224,4,none⟩) (Kd.R_far (p:=⟨gb224,3,none⟩) (Kd.R_far (p:=⟨gb224,2,none⟩) (Kd.R_far (p:=⟨gb224,1,none⟩) (Kd.R_far (p:=⟨gb224,0,none⟩) (Kd.R_types HO215.out BK224.out (by decide)) (fun _ hk => hk.2) (.slice Ao11 t213.length co11)) (fun _ hk => hk.2) (.slice Ao15 t216.length co15)) (fun _ hk => hk.2) (.int .i64 t219)) (fun _ hk => hk.2) (.int .i64 t220)) (fun _ hk => hk.2) (.int .i64 t221)) (fun _ h_ => h_.1))) (by decide)) hk (fun _ h => h.2)) (fun _ h => h.1));have n2_:=Am (Kd.R_mono (Kd.R_keep (IsS59.apart (show IsS59 w _ gb209 l0 t222 t223 from by repeat (first|(with_reducible first|exact HI209.out|apply IsS59.alloc|apply IsS59.drewN|apply IsS59.drew|apply IsS59.set_1|apply IsS59.set_2|refine IsS59.far ?_ NB209_208.out _|refine IsS59.far ?_ NB209_224.out _)|exact HI209.out)) (by (with_reducible repeat (first|apply Kd.R_alloc|apply Kd.R_drewN|apply Kd.R_drew));exact (Kd.R_mono (Kd.R_far (p:=⟨gb224,4,none⟩) (Kd.R_far (p:=⟨gb224,3,none⟩) (Kd.R_far (p:=⟨gb224,2,none⟩) (Kd.R_far (p:=⟨gb224,1,none⟩) (Kd.R_far (p:=⟨gb224,0,none⟩) (Kd.R_types HO218.out BK224.out (by decide)) (fun _ hk => hk.2) (.slice Ao11 t213.length co11)) (fun _ hk => hk.2) (.slice Ao15 t216.length co15)) (fun _ hk => hk.2) (.int .i64 t219)) (fun _ hk => hk.2) (.int .i64 t220)) (fun _ hk => hk.2) (.int .i64 t221)) (fun _ h_ => h_.1))) (by decide)) hk (fun _ h => h.2)) (fun _ h => h.1));have n3_:=Am (KeepBut.blk hk (g':=gb224) (o:=.cells #[.slice Ao11 t213.length co11,.slice Ao15 t216.length co15,.int .i64 t219,.int .i64 t220,.int .i64 t221] 26 (0,0)) (by (with_reducible repeat (first|refine kN ?_ _|refine kD ?_|refine kA ?_ _));refine blk_put (cs:=#[.slice Ao11 t213.length co11,.slice Ao15 t216.length co15,.int .i64 t219,.int .i64 t220,.int .i64 0]) ?_ 4 _ rfl;(with_reducible repeat (first|refine kN ?_ _|refine kD ?_|refine kA ?_ _));refine blk_put (cs:=#[.slice Ao11 t213.length co11,.slice Ao15 t216.length co15,.int .i64 t219,.int .i64 0,.int .i64 0]) ?_ 3 _ rfl;(with_reducible repeat (first|refine kN ?_ _|refine kD ?_|refine kA ?_ _));refine blk_put (cs:=#[.slice Ao11 t213.length co11,.slice Ao15 t216.length co15,.int .i64 0,.int .i64 0,.int .i64 0]) ?_ 2 _ rfl;(with_reducible repeat (first|refine kN ?_ _|refine kD ?_|refine kA ?_ _));refine blk_put (cs:=#[.slice Ao11 t213.length co11,.slice none 0 0,.int .i64 0,.int .i64 0,.int .i64 0]) ?_ 1 _ rfl;(with_reducible repeat (first|refine kN ?_ _|refine kD ?_|refine kA ?_ _));refine blk_put (cs:=#[.slice none 0 0,.slice none 0 0,.int .i64 0,.int .i64 0,.int .i64 0]) ?_ 0 _ rfl;(with_reducible repeat (first|refine kN ?_ _|refine kD ?_|refine kA ?_ _));exact BK224.out) NB224_209.out (by simp));have n4_:=Am (hb);have n5_:=Am (hi);clear BK208;clear HO215;clear HO218;clear BK224;clear HB;clear HI209;have BK208:=n0_;have HO215:=n1_;have HO218:=n2_;have BK224:=n3_;have HB:=n4_;have HI209:=n5_;clear n0_ n1_ n2_ n3_ n4_ n5_;(try clear hb);(try clear hb2);(try clear hk);(try clear hi)))
 have n0_:=Am (Kd.R_drew HO215.out)
 have n1_:=Am (Kd.R_drew HO218.out)
 have n2_:=Am (kD BK208.out)
 have n3_:=Am (kD BK224.out)
 have n4_:=Am (IsS59.drew HI209.out)
 have n5_:=Am (bD HB.out)
 clear HO215
 clear HO218
 clear BK208
 clear BK224
 clear HI209
 clear HB
 have HO215:=n0_
 have HO218:=n1_
 have BK208:=n2_
 have BK224:=n3_
 have HI209:=n4_
 have HB:=n5_
 clear n0_ n1_ n2_ n3_ n4_ n5_
 refine start_ (n:=7) (S:=fun w' => w'.cell? ⟨gb224,0,none⟩ = some (.slice Ao11 t213.length co11)∧w'.cell? ⟨gb224,1,none⟩ = some (.slice Ao15 t216.length co15)∧w'.cell? ⟨gb224,2,none⟩ = some (.int .i64 t219)∧w'.cell? ⟨gb224,3,none⟩ = some (.int .i64 t220)∧w'.cell? ⟨gb224,4,none⟩ = some (.int .i64 t221)) (ds:=[]) #[false,false,false,false,false,false,false] (by kernel_rfl) rfl rfl ⟨(kC BK224.out 0).trans rfl,(kC BK224.out 1).trans rfl,(kC BK224.out 2).trans rfl,(kC BK224.out 3).trans rfl,(kC BK224.out 4).trans rfl⟩ (fun hHeld => ?_)
 generalize w16.drew = w17 at HO215 HO218 BK208 BK224 HI209 HB hHeld ⊢
 refine pure_ (i:=1) (N:=some 22) (v:=?_) (a':=?_) #[false,true,false,false,false,false,false] rfl rfl (by kernel_rfl) (fun _ _ _ h => h) (Or.inl ⟨by rfl,?_⟩) ?_ ?_
 rotate_left
 ·intro w'
  go_simp
  with_reducible rfl
 rotate_left
 ·simp only [Act.put,pS]
  rfl
 refine pure_ (i:=2) (N:=some 23) (v:=?_) (a':=?_) #[false,true,true,false,false,false,false] rfl rfl (by kernel_rfl) (fun _ _ _ h => h) (Or.inl ⟨by rfl,?_⟩) ?_ ?_
 rotate_left
 ·intro w'
  go_simp
  with_reducible rfl
 rotate_left
 ·simp only [Act.put,pS]
  rfl
 refine take_ (i:=0) (N:=some 21) (v:=?_) (a':=?_) #[true,true,true,false,false,false,false] rfl rfl (by kernel_rfl) (fun _ _ _ h => h) (Or.inl ⟨by rfl,?_⟩) hHeld ?_ ?_
 rotate_left
 ·rintro w' ⟨s0,s1,s2,s3,s4⟩
  go_simp
  with_reducible rfl
 rotate_left
 ·simp only [Act.put,pS]
  rfl
 refine one_ (i:=3) (N:=some 24) #[true,true,true,true,false,false,false] rfl rfl (by kernel_rfl) (by decide) (fun K hK => ?_)
 refine goes_ Try.func33 (by kernel_rfl) rfl #[.pointer (some ⟨gb209,0,none⟩)] (by rfl) rfl rfl (by (try simp only [List.map_toArray,List.map_cons,List.map_nil]);first|done|rfl|(simp only [List.length_drop,List.length_take];rfl)) ?_
 with_reducible refine (spec_l6Cur_wants.calls k gb209 l0 t226 t227 t228 t231 t232 w _ ?side1 ?side2 A5.out).mono ?_
 (case side1 => repeat (first|(with_reducible first|exact HI209.out|apply IsS59.alloc|apply IsS59.drewN|apply IsS59.drew|apply IsS59.set_1|apply IsS59.set_2|refine IsS59.far ?_ NB209_208.out _|refine IsS59.far ?_ NB209_224.out _)|exact HI209.out))
 (case side2 => repeat (first|(with_reducible first|exact HB.out|apply bA|apply bN|apply bD|refine bS ?_ (IsS59.ge HI209.out)|refine bS ?_ GE208.out|refine bS ?_ GE224.out)|exact HB.out))
 rintro e w18 ⟨v229,rfl,ho0,hi,hb,hk⟩
 refine ⟨_,rfl,?_⟩
 have n0_:=Am (KeepBut.blk hk (g':=gb208) (o:=.cells #[.slice none 0 0,.slice none 0 0,.int .i64 0,.int .i64 0,.int .i64 0] 26 (0,0)) (by (with_reducible repeat (first|refine kN ?_ _|refine kD ?_|refine kA ?_ _));exact BK208.out) NB208_209.out (by simp))
 have n1_:=Am (Kd.R_mono (Kd.R_keep (IsS59.apart (show IsS59 w _ gb209 l0 t226 t227 from by repeat (first|(with_reducible first|exact HI209.out|apply IsS59.alloc|apply IsS59.drewN|apply IsS59.drew|apply IsS59.set_1|apply IsS59.set_2|refine IsS59.far ?_ NB209_208.out _|refine IsS59.far ?_ NB209_224.out _)|exact HI209.out)) (by (with_reducible repeat (first|apply Kd.R_alloc|apply Kd.R_drewN|apply Kd.R_drew));exact HO215.out) (by decide)) hk (fun _ h => h.2)) (fun _ h => h.1))
 have n2_:=Am (Kd.R_mono (Kd.R_keep (IsS59.apart (show IsS59 w _ gb209 l0 t226 t227 from by repeat (first|(with_reducible first|exact HI209.out|apply IsS59.alloc|apply IsS59.drewN|apply IsS59.drew|apply IsS59.set_1|apply IsS59.set_2|refine IsS59.far ?_ NB209_208.out _|refine IsS59.far ?_ NB209_224.out _)|exact HI209.out)) (by (with_reducible repeat (first|apply Kd.R_alloc|apply Kd.R_drewN|apply Kd.R_drew));exact HO218.out) (by decide)) hk (fun _ h => h.2)) (fun _ h => h.1))
 have n3_:=Am (KeepBut.blk hk (g':=gb224) (o:=.cells #[.slice Ao11 t213.length co11,.slice Ao15 t216.length co15,.int .i64 t219,.int .i64 t220,.int .i64 t221] 26 (0,0)) (by (with_reducible repeat (first|refine kN ?_ _|refine kD ?_|refine kA ?_ _));exact BK224.out) NB224_209.out (by simp))
 have n4_:=Am (Kd.R_lower ho0 (below_size (by repeat (first|(with_reducible first|exact HB.out|apply bA|apply bN|apply bD|refine bS ?_ (IsS59.ge HI209.out)|refine bS ?_ GE208.out|refine bS ?_ GE224.out)|exact HB.out))))
 have n5_:=Am (hb)
 have n6_:=Am (hi)
 clear BK208
 clear HO215
 clear HO218
 clear BK224
 clear HB
 clear HI209
 have BK208:=n0_
 have HO215:=n1_
 have HO218:=n2_
 have BK224:=n3_
 have HO230:=n4_
 have HB:=n5_
 have HI209:=n6_
 clear n0_ n1_ n2_ n3_ n4_ n5_ n6_
 (try clear hb)
 (try clear hb2)
 (try clear hk)
 (try clear hi)
 (try clear ho0)
 refine hK.out _ _ ⟨(kC BK224.out 0).trans rfl,(kC BK224.out 1).trans rfl,(kC BK224.out 2).trans rfl,(kC BK224.out 3).trans rfl,(kC BK224.out 4).trans rfl⟩ (fun hHeld => ?_)
 clear hK K
 refine norm_ (a':=?_) ?_ ?_
 rotate_left
 ·show Act.put _ (some 24) _ = _
  simp only [Act.put,pS]
  rfl
 refine one_ (i:=4) (N:=none) #[true,true,true,true,true,false,false] rfl rfl (by kernel_rfl) (by decide) (fun K hK => ?_)
 have hs19 : w18.cell? ⟨gb208,0,none⟩ = some (.slice none 0 0):=(kC BK208.out 0).trans rfl
 have hfs19:=kF BK208.out 0
 have hns19_1:=NB224_208.out
 have hms19_1:=NB208_224.out
 have hs20 : w18.cell? ⟨gb208,1,none⟩ = some (.slice none 0 0):=(kC BK208.out 1).trans rfl
 have hfs20:=kF BK208.out 1
 have hns20_1:=NB224_208.out
 have hms20_1:=NB208_224.out
 have hs21 : w18.cell? ⟨gb208,2,none⟩ = some (.int .i64 0):=(kC BK208.out 2).trans rfl
 have hfs21:=kF BK208.out 2
 have hns21_1:=NB224_208.out
 have hms21_1:=NB208_224.out
 have hs22 : w18.cell? ⟨gb208,3,none⟩ = some (.int .i64 0):=(kC BK208.out 3).trans rfl
 have hfs22:=kF BK208.out 3
 have hns22_1:=NB224_208.out
 have hms22_1:=NB208_224.out
 have hs23 : w18.cell? ⟨gb208,4,none⟩ = some (.int .i64 0):=(kC BK208.out 4).trans rfl
 have hfs23:=kF BK208.out 4
 have hns23_1:=NB224_208.out
 have hms23_1:=NB208_224.out
 refine skip_ (w1:=?_) (by rfl) rfl ?_ ?_
 rotate_left
 ·go_simp
  rfl
 refine hK.out _ _ ⟨((cell_far (p:=⟨gb208,_,none⟩) NB224_208.out _).trans (((cell_far (p:=⟨gb208,_,none⟩) NB224_208.out _).trans (((cell_far (p:=⟨gb208,_,none⟩) NB224_208.out _).trans (((cell_far (p:=⟨gb208,_,none⟩) NB224_208.out _).trans (((cell_far (p:=⟨gb208,_,none⟩) NB224_208.out _).trans (hHeld.1)))))))))),((cell_far (p:=⟨gb208,_,none⟩) NB224_208.out _).trans (((cell_far (p:=⟨gb208,_,none⟩) NB224_208.out _).trans (((cell_far (p:=⟨gb208,_,none⟩) NB224_208.out _).trans (((cell_far (p:=⟨gb208,_,none⟩) NB224_208.out _).trans (((cell_far (p:=⟨gb208,_,none⟩) NB224_208.out _).trans (hHeld.2.1)))))))))),((cell_far (p:=⟨gb208,_,none⟩) NB224_208.out _).trans (((cell_far (p:=⟨gb208,_,none⟩) NB224_208.out _).trans (((cell_far (p:=⟨gb208,_,none⟩) NB224_208.out _).trans (((cell_far (p:=⟨gb208,_,none⟩) NB224_208.out _).trans (((cell_far (p:=⟨gb208,_,none⟩) NB224_208.out _).trans (hHeld.2.2.1)))))))))),((cell_far (p:=⟨gb208,_,none⟩) NB224_208.out _).trans (((cell_far (p:=⟨gb208,_,none⟩) NB224_208.out _).trans (((cell_far (p:=⟨gb208,_,none⟩) NB224_208.out _).trans (((cell_far (p:=⟨gb208,_,none⟩) NB224_208.out _).trans (((cell_far (p:=⟨gb208,_,none⟩) NB224_208.out _).trans (hHeld.2.2.2.1)))))))))),((cell_far (p:=⟨gb208,_,none⟩) NB224_208.out _).trans (((cell_far (p:=⟨gb208,_,none⟩) NB224_208.out _).trans (((cell_far (p:=⟨gb208,_,none⟩) NB224_208.out _).trans (((cell_far (p:=⟨gb208,_,none⟩) NB224_208.out _).trans (((cell_far (p:=⟨gb208,_,none⟩) NB224_208.out _).trans (hHeld.2.2.2.2))))))))))⟩ (fun hHeld => ?_)
 clear hK K
 refine pure_ (i:=5) (N:=some 3) (v:=?_) (a':=?_) #[true,true,true,true,true,true,false] rfl rfl (by kernel_rfl) (fun _ _ _ h => h) (Or.inl ⟨by rfl,?_⟩) ?_ ?_
 rotate_left
 ·intro w'
  go_simp
  with_reducible rfl
 rotate_left
 ·simp only [Act.put,pS]
  rfl
 refine pure_ (i:=6) (N:=some 4) (v:=?_) (a':=?_) #[true,true,true,true,true,true,true] rfl rfl (by kernel_rfl) (fun _ _ _ h => h) (Or.inl ⟨by rfl,?_⟩) ?_ ?_
 rotate_left
 ·intro w'
  go_simp
  with_reducible rfl
 rotate_left
 ·simp only [Act.put,pS]
  rfl
 refine done_ (by kernel_rfl) ?_
 try go_wp2
 refine bodyPost_ret (results_ctt rfl _ _ gb208 26 #[.slice Ao11 t213.length co11,.slice Ao15 t216.length co15,.int .i64 t219,.int .i64 t220,.int .i64 t221] (0,0) _ rfl (by (with_reducible repeat (first|refine kN ?_ _|refine kD ?_|refine kA ?_ _));refine blk_put (cs:=#[.slice Ao11 t213.length co11,.slice Ao15 t216.length co15,.int .i64 t219,.int .i64 t220,.int .i64 0]) ?_ 4 _ rfl;(with_reducible repeat (first|refine kN ?_ _|refine kD ?_|refine kA ?_ _));refine blk_put (cs:=#[.slice Ao11 t213.length co11,.slice Ao15 t216.length co15,.int .i64 t219,.int .i64 0,.int .i64 0]) ?_ 3 _ rfl;(with_reducible repeat (first|refine kN ?_ _|refine kD ?_|refine kA ?_ _));refine blk_put (cs:=#[.slice Ao11 t213.length co11,.slice Ao15 t216.length co15,.int .i64 0,.int .i64 0,.int .i64 0]) ?_ 2 _ rfl;(with_reducible repeat (first|refine kN ?_ _|refine kD ?_|refine kA ?_ _));refine blk_put (cs:=#[.slice Ao11 t213.length co11,.slice none 0 0,.int .i64 0,.int .i64 0,.int .i64 0]) ?_ 1 _ rfl;(with_reducible repeat (first|refine kN ?_ _|refine kD ?_|refine kA ?_ _));refine blk_put (cs:=#[.slice none 0 0,.slice none 0 0,.int .i64 0,.int .i64 0,.int .i64 0]) ?_ 0 _ rfl;(with_reducible repeat (first|refine kN ?_ _|refine kD ?_|refine kA ?_ _));exact BK208.out) Try.underlying26 rfl (by kernel_rfl)) rfl ?_
 exact ⟨_,_,_,by first|rfl|(simp [errW_none,errW_some] <;> rfl)|(simp [*,errW_none,errW_some] <;> rfl),by (with_reducible repeat (first|apply Kd.R_alloc|apply Kd.R_drewN|apply Kd.R_drew));exact Kd.R_mono (Kd.R_far (p:=⟨gb208,4,none⟩) (Kd.R_far (p:=⟨gb208,3,none⟩) (Kd.R_far (p:=⟨gb208,2,none⟩) (Kd.R_far (p:=⟨gb208,1,none⟩) (Kd.R_far (p:=⟨gb208,0,none⟩) (Kd.R_types HO215.out BK208.out (by decide)) (fun _ hk => hk.2) (.slice Ao11 t213.length co11)) (fun _ hk => hk.2) (.slice Ao15 t216.length co15)) (fun _ hk => hk.2) (.int .i64 t219)) (fun _ hk => hk.2) (.int .i64 t220)) (fun _ hk => hk.2) (.int .i64 t221)) (fun _ hk => trivial),by (with_reducible repeat (first|apply Kd.R_alloc|apply Kd.R_drewN|apply Kd.R_drew));exact Kd.R_mono (Kd.R_far (p:=⟨gb208,4,none⟩) (Kd.R_far (p:=⟨gb208,3,none⟩) (Kd.R_far (p:=⟨gb208,2,none⟩) (Kd.R_far (p:=⟨gb208,1,none⟩) (Kd.R_far (p:=⟨gb208,0,none⟩) (Kd.R_types HO218.out BK208.out (by decide)) (fun _ hk => hk.2) (.slice Ao11 t213.length co11)) (fun _ hk => hk.2) (.slice Ao15 t216.length co15)) (fun _ hk => hk.2) (.int .i64 t219)) (fun _ hk => hk.2) (.int .i64 t220)) (fun _ hk => hk.2) (.int .i64 t221)) (fun _ hk => trivial),by (with_reducible repeat (first|apply Kd.R_alloc|apply Kd.R_drewN|apply Kd.R_drew));exact Kd.R_mono (Kd.R_far (p:=⟨gb208,4,none⟩) (Kd.R_far (p:=⟨gb208,3,none⟩) (Kd.R_far (p:=⟨gb208,2,none⟩) (Kd.R_far (p:=⟨gb208,1,none⟩) (Kd.R_far (p:=⟨gb208,0,none⟩) (Kd.R_types HO230.out BK208.out (by decide)) (fun _ hk => hk.2) (.slice Ao11 t213.length co11)) (fun _ hk => hk.2) (.slice Ao15 t216.length co15)) (fun _ hk => hk.2) (.int .i64 t219)) (fun _ hk => hk.2) (.int .i64 t220)) (fun _ hk => hk.2) (.int .i64 t221)) (fun _ hk => trivial),by repeat (first|(with_reducible first|exact HB.out|apply bA|apply bN|apply bD|refine bS ?_ (IsS59.ge HI209.out)|refine bS ?_ GE208.out|refine bS ?_ GE224.out)|exact HB.out)⟩

/-! ### impl_speed: function 34 -/
def impl_speed.f (a0 : Int) : Option (Bool):=if a0 ≥ 0 then (some (decide (a0 ≤ 10000))) else (some false)
set_option maxHeartbeats 8000000 in
set_option maxRecDepth 100000 in
theorem impl_speed.calls (a0 : Int) (r : Bool) (w : World) (h : impl_speed.f a0 = some r) :
  Calls Try.prog 34 #[.int .i64 a0] w fun e w' => e = .returned (.bool r)∧Drawn0 w w':=by
 have H : (if a0 ≥ 0 then (some (decide (a0 ≤ 10000))) else (some false)) = some r:=h
 clear h
 by_cases c2 : a0 ≥ 0
 ·rw [if_pos c2] at H
  have c2b0 : decide (0 ≤ a0) = true:=decide_eq_true c2
  clear c2
  obtain rfl:=Option.some.inj H
  go_enter Try.func34,Try.ntmps34
  go_wp2
  go_ret
  exact ⟨by first|rfl|(simp;done)|(simp [*];done),by repeat (first|exact Drawn0.refl _|apply Drawn0.step)⟩
 ·rw [if_neg c2] at H
  have c2b0 : decide (0 ≤ a0) = false:=decide_eq_false c2
  clear c2
  obtain rfl:=Option.some.inj H
  go_enter Try.func34,Try.ntmps34
  go_wp2
  go_ret
  exact ⟨by first|rfl|(simp;done)|(simp [*];done),by repeat (first|exact Drawn0.refl _|apply Drawn0.step)⟩

/-! ### impl_brakeAt: function 36 -/
def impl_brakeAt.l0 : Nat → Int → List (S39) → Int → Int → List (S39) → List (S45) → Int → Int → Int → Option (Int)
 | 0,_,_,_,_,_,_,_,_,_ => none
 | k + 1,x1,x8,x9,x10,x234000,x234001,x234002,x234003,x234004 => if x10 < x9 then (if 0 ≤ x10 then (if x10 < (x8.length : Int) then (if x1 < ((rd_T39 x8 x10).f0) then (some ((rd_T39 x8 x10).f1)) else (impl_brakeAt.l0 k (wrap64 (x1 - ((rd_T39 x8 x10).f0))) x8 x9 (wrap64 (x10 + 1)) x234000 x234001 x234002 x234003 x234004)) else (none)) else (none)) else (if 0 ≤ (wrap64 ((x234000.length : Int) - 1)) then (if (wrap64 ((x234000.length : Int) - 1)) < (x234000.length : Int) then (some ((rd_T39 x234000 (wrap64 ((x234000.length : Int) - 1))).f1)) else (none)) else (none))
def impl_brakeAt.f (k : Nat) (l0_0 : List (S39)) (l0_1 : List (S45)) (a0_2 : Int) (a0_3 : Int) (a0_4 : Int) (a1 : Int) : Option (Int):=impl_brakeAt.l0 k a1 l0_0 (l0_0.length : Int) 0 l0_0 l0_1 a0_2 a0_3 a0_4
theorem impl_brakeAt.mono_l : ∀ k,(∀ y0 y1 y2 y3 y4 y5 y6 y7 y8,LeO (impl_brakeAt.l0 k y0 y1 y2 y3 y4 y5 y6 y7 y8) (impl_brakeAt.l0 (k + 1) y0 y1 y2 y3 y4 y5 y6 y7 y8))
 | 0 => fun _ _ _ _ _ _ _ _ _ r h => by simp [impl_brakeAt.l0] at h
 | k + 1 => by
  have ih0:=impl_brakeAt.mono_l k
  ·intro y0 y1 y2 y3 y4 y5 y6 y7 y8
   unfold impl_brakeAt.l0
   repeat' first
   | (with_reducible exact ih0 _ _ _ _ _ _ _ _ _)
   | (with_reducible exact LeO.refl _)
   | (with_reducible exact LeO.none _)
   | (with_reducible refine LeO.ite ?_ ?_)
   | (with_reducible refine LeO.bind ?_ (fun _ => ?_))
   | exact ih0 _ _ _ _ _ _ _ _ _
   | exact LeO.none _
   | refine LeO.ite ?_ ?_
   | refine LeO.bind ?_ (fun _ => ?_)
theorem impl_brakeAt.mono : ∀ a0 a1 a2 a3 a4 a5 k,LeO (impl_brakeAt.f k a0 a1 a2 a3 a4 a5) (impl_brakeAt.f (k + 1) a0 a1 a2 a3 a4 a5):=by
 intro a0 a1 a2 a3 a4 a5 k
 have ih0:=impl_brakeAt.mono_l k
 unfold impl_brakeAt.f
 repeat' first
   | (with_reducible exact ih0 _ _ _ _ _ _ _ _ _)
   | (with_reducible exact LeO.refl _)
   | (with_reducible exact LeO.none _)
   | (with_reducible refine LeO.ite ?_ ?_)
   | (with_reducible refine LeO.bind ?_ (fun _ => ?_))
   | exact ih0 _ _ _ _ _ _ _ _ _
   | exact LeO.none _
   | refine LeO.ite ?_ ?_
   | refine LeO.bind ?_ (fun _ => ?_)
set_option maxHeartbeats 8000000 in
set_option maxRecDepth 100000 in
theorem impl_brakeAt.calls (k : Nat) (A0_0 : Option Addr) (c0_0 : Nat) (l0_0 : List (S39)) (A0_1 : Option Addr) (c0_1 : Nat) (l0_1 : List (S45)) (a0_2 : Int) (a0_3 : Int) (a0_4 : Int) (a1 : Int) (r : Int) (w : World) (hr0_0 : Kd.C k39 w A0_0 l0_0.length l0_0) (hc0_0 : l0_0.length ≤ c0_0) (hr0_1 : Kd.C k45 w A0_1 l0_1.length l0_1) (hc0_1 : l0_1.length ≤ c0_1) (h : impl_brakeAt.f k l0_0 l0_1 a0_2 a0_3 a0_4 a1 = some r) :
  Calls Try.prog 36 #[.agg #[.slice A0_0 l0_0.length c0_0,.slice A0_1 l0_1.length c0_1,.int .i64 a0_2,.int .i64 a0_3,.int .i64 a0_4],.int .i64 a1] w fun e w' => e = .returned (.int .i64 r)∧Below w.heap.size w w':=by
 have hu26:=Try.underlying26
 have hu39:=Try.underlying39
 have HR0_0:=Am hr0_0
 have HC0_0:=Am hc0_0
 clear hr0_0 hc0_0
 have HR0_1:=Am hr0_1
 have HC0_1:=Am hc0_1
 clear hr0_1 hc0_1
 have HB:=Am (Below.refl w.heap.size w)
 have H : (impl_brakeAt.l0 k a1 l0_0 (l0_0.length : Int) 0 l0_0 l0_1 a0_2 a0_3 a0_4) = some r:=h
 clear h
 have H':=Am H
 clear H
 go_enter Try.func36,Try.ntmps36
 go_wp2_with (first|((with_reducible refine gate_dst (N:=2) rfl ?_);refine box_event ?hg (N:=2) ?hd (cs:=#[.slice A0_0 l0_0.length c0_0,.slice A0_1 l0_1.length c0_1,.int .i64 a0_2,.int .i64 a0_3,.int .i64 a0_4]) (t:=26) ?hr ?_;(case hd => rfl);(case hg => rfl);(case hr => first|(go_simp;done)|(go_simp;rfl));intro gb233 hg w3 hbox hb;have n0_:=Am (below_step (by repeat (first|(with_reducible first|exact HB.out|apply bA|apply bN|apply bD)|exact HB.out)) hb);have n1_:=Am (hbox);have n2_:=Am ((by rw [hg];exact (below_size (by repeat (first|(with_reducible first|exact HB.out|apply bA|apply bN|apply bD)|exact HB.out))) : w.heap.size ≤ gb233));have n3_:=Am ((by rw [hg];exact (below_size (by repeat (first|(with_reducible first|exact HB.out|apply bA|apply bN|apply bD)|exact HB.out))) : w.heap.size ≤ gb233));clear HB;have HB:=n0_;have BK233:=n1_;have GW233:=n2_;have GE233:=n3_;clear n0_ n1_ n2_ n3_;clear hb hbox hg;have hcz4_0 : w3.cell? ⟨gb233,0,none⟩ = some (.slice A0_0 l0_0.length c0_0):=(kC BK233.out 0).trans rfl;have hcz4_1 : w3.cell? ⟨gb233,1,none⟩ = some (.slice A0_1 l0_1.length c0_1):=(kC BK233.out 1).trans rfl;have hcz4_2 : w3.cell? ⟨gb233,2,none⟩ = some (.int .i64 a0_2):=(kC BK233.out 2).trans rfl;have hcz4_3 : w3.cell? ⟨gb233,3,none⟩ = some (.int .i64 a0_3):=(kC BK233.out 3).trans rfl;have hcz4_4 : w3.cell? ⟨gb233,4,none⟩ = some (.int .i64 a0_4):=(kC BK233.out 4).trans rfl;have hfz4_0:=kF BK233.out 0;have hfz4_1:=kF BK233.out 1;have hfz4_2:=kF BK233.out 2;have hfz4_3:=kF BK233.out 3;have hfz4_4:=kF BK233.out 4))
 go_loopg [1,10] k (fun kq v1 v10 w' => ∃ (x1_1 : Int) (x10_1 : Int),v1 = .int .i64 x1_1∧v10 = .int .i64 x10_1∧As (impl_brakeAt.l0 kq x1_1 l0_0 (l0_0.length : Int) x10_1 l0_0 l0_1 a0_2 a0_3 a0_4 = some r)∧As (kq ≤ k)∧As (w'.heap[gb233]? = some (.cells #[(.slice A0_0 l0_0.length c0_0),(.slice A0_1 l0_1.length c0_1),.int .i64 a0_2,.int .i64 a0_3,.int .i64 a0_4] 26 (0,0)))∧As (Below w.heap.size w w'))
 case atStart => exact ⟨(a1),(0),(by first|rfl|(simp;done)|(simp [*];done)),(by first|rfl|(simp;done)|(simp [*];done)),H',⟨Nat.le_refl _⟩,⟨by (with_reducible repeat (first|refine kN ?_ _|refine kD ?_|refine kA ?_ _));exact BK233.out⟩,⟨by repeat (first|(with_reducible first|exact HB.out|apply bA|apply bN|apply bD|refine bS ?_ GE233.out)|exact HB.out)⟩⟩
 case round =>
  clear H'
  try clear p2
  try clear c3
  try clear hcz4_0
  try clear hcz4_1
  try clear hcz4_2
  try clear hcz4_3
  try clear hcz4_4
  try clear hfz4_0
  try clear hfz4_1
  try clear hfz4_2
  try clear hfz4_3
  try clear hfz4_4
  obtain ⟨x1_1,x10_1,rfl,rfl,HA,HK1,BK233,HB⟩:=hrel
  cases gk with
  | zero => exact absurd HA.out (by simp [impl_brakeAt.l0])
  | succ k1 =>
   have H:=HA.out
   clear HA
   simp only [impl_brakeAt.l0] at H
   by_cases c5 : x10_1 < (l0_0.length : Int)
   ·rw [if_pos c5] at H
    have c5b0 : decide (x10_1 < (l0_0.length : Int)) = true:=decide_eq_true c5
    clear c5
    by_cases c6 : 0 ≤ x10_1
    ·rw [if_pos c6] at H
     have c6b0 : decide (0 ≤ x10_1) = true:=decide_eq_true c6
     clear c6
     by_cases c7 : x10_1 < (l0_0.length : Int)
     ·rw [if_pos c7] at H
      have c7b0 : decide (x10_1 < (l0_0.length : Int)) = true:=decide_eq_true c7
      clear c7
      by_cases c8 : x1_1 < ((rd_T39 l0_0 x10_1).f0)
      ·rw [if_pos c8] at H
       have c8b0 : decide (x1_1 < ((rd_T39 l0_0 x10_1).f0)) = true:=decide_eq_true c8
       clear c8
       obtain rfl:=Option.some.inj H
       have p234 : 0 ≤ (x10_1 : Int):=of_decide_eq_true (by first|(with_reducible assumption)|assumption)
       have q234 : x10_1 < (l0_0.length : Int):=of_decide_eq_true (by first|(with_reducible assumption)|assumption)
       obtain ⟨ad234,e234,hx234_0,hx234_1⟩:=at_T39 HR0_0.out x10_1 p234 q234
       cases e234
       replace hx234_0:=(HB.out.cell (World.block_lt_of_cell? w _ hx234_0)).trans hx234_0
       replace hx234_1:=(HB.out.cell (World.block_lt_of_cell? w _ hx234_1)).trans hx234_1
       replace p234:=eq_true p234
       replace q234:=eq_true q234
       go_wp2_with (first|((with_reducible refine gate_dst (N:=6) rfl ?_);refine box_event ?hg (N:=6) ?hd (cs:=#[.int .i64 0,.int .i64 0]) (t:=39) ?hr ?_;(case hd => rfl);(case hg => rfl);(case hr => first|(go_simp;done)|(go_simp;rfl));intro gb235 hg w9 hbox hb;have n0_:=Am (blk_below (g:=gb233) (o:=.cells #[.slice (some ad234) l0_0.length c0_0,.slice A0_1 l0_1.length c0_1,.int .i64 a0_2,.int .i64 a0_3,.int .i64 a0_4] 26 (0,0)) (by (with_reducible repeat (first|refine kN ?_ _|refine kD ?_|refine kA ?_ _));exact BK233.out) hb);have n1_:=Am (below_step (by repeat (first|(with_reducible first|exact HB.out|apply bA|apply bN|apply bD|refine bS ?_ GE233.out)|exact HB.out)) hb);have n2_:=Am (hbox);have n3_:=Am ((by rw [hg];exact (below_size (by repeat (first|(with_reducible first|exact HB.out|apply bA|apply bN|apply bD|refine bS ?_ GE233.out)|exact HB.out))) : w.heap.size ≤ gb235));have n4_:=Am ((by rw [hg];exact (below_size (by repeat (first|(with_reducible first|exact HB.out|apply bA|apply bN|apply bD|refine bS ?_ GE233.out)|exact HB.out))) : w.heap.size ≤ gb235));have n5_:=Am ((by rw [hg];exact Nat.ne_of_lt (blk_lt (g:=gb233) (o:=.cells #[.slice (some ad234) l0_0.length c0_0,.slice A0_1 l0_1.length c0_1,.int .i64 a0_2,.int .i64 a0_3,.int .i64 a0_4] 26 (0,0)) (by (with_reducible repeat (first|refine kN ?_ _|refine kD ?_|refine kA ?_ _));exact BK233.out)) : gb233 ≠ gb235));have n6_:=Am ((by rw [hg];exact Nat.ne_of_gt (blk_lt (g:=gb233) (o:=.cells #[.slice (some ad234) l0_0.length c0_0,.slice A0_1 l0_1.length c0_1,.int .i64 a0_2,.int .i64 a0_3,.int .i64 a0_4] 26 (0,0)) (by (with_reducible repeat (first|refine kN ?_ _|refine kD ?_|refine kA ?_ _));exact BK233.out)) : gb235 ≠ gb233));clear BK233;clear HB;have BK233:=n0_;have HB:=n1_;have BK235:=n2_;have GW235:=n3_;have GE235:=n4_;have NB233_235:=n5_;have NB235_233:=n6_;clear n0_ n1_ n2_ n3_ n4_ n5_ n6_;clear hb hbox hg;have hnb10:=NB235_233.out;have hnc10:=NB233_235.out;have hcz11_0 : w9.cell? ⟨gb235,0,none⟩ = some (.int .i64 0):=(kC BK235.out 0).trans rfl;have hcz11_1 : w9.cell? ⟨gb235,1,none⟩ = some (.int .i64 0):=(kC BK235.out 1).trans rfl;have hfz11_0:=kF BK235.out 0;have hfz11_1:=kF BK235.out 1))
       go_ret
       exact ⟨by first|rfl|(simp [errW_none,errW_some] <;> rfl)|(simp [*,errW_none,errW_some] <;> rfl),by repeat (first|(with_reducible first|exact HB.out|apply bA|apply bN|apply bD|refine bS ?_ GE233.out|refine bS ?_ GE235.out)|exact HB.out)⟩
      ·rw [if_neg c8] at H
       have c8b0 : decide (x1_1 < ((rd_T39 l0_0 x10_1).f0)) = false:=decide_eq_false c8
       clear c8
       have H':=Am H
       clear H
       have p234 : 0 ≤ (x10_1 : Int):=of_decide_eq_true (by first|(with_reducible assumption)|assumption)
       have q234 : x10_1 < (l0_0.length : Int):=of_decide_eq_true (by first|(with_reducible assumption)|assumption)
       obtain ⟨ad234,e234,hx234_0,hx234_1⟩:=at_T39 HR0_0.out x10_1 p234 q234
       cases e234
       replace hx234_0:=(HB.out.cell (World.block_lt_of_cell? w _ hx234_0)).trans hx234_0
       replace hx234_1:=(HB.out.cell (World.block_lt_of_cell? w _ hx234_1)).trans hx234_1
       replace p234:=eq_true p234
       replace q234:=eq_true q234
       go_wp2_with (first|((with_reducible refine gate_dst (N:=6) rfl ?_);refine box_event ?hg (N:=6) ?hd (cs:=#[.int .i64 0,.int .i64 0]) (t:=39) ?hr ?_;(case hd => rfl);(case hg => rfl);(case hr => first|(go_simp;done)|(go_simp;rfl));intro gb235 hg w12 hbox hb;have n0_:=Am (blk_below (g:=gb233) (o:=.cells #[.slice (some ad234) l0_0.length c0_0,.slice A0_1 l0_1.length c0_1,.int .i64 a0_2,.int .i64 a0_3,.int .i64 a0_4] 26 (0,0)) (by (with_reducible repeat (first|refine kN ?_ _|refine kD ?_|refine kA ?_ _));exact BK233.out) hb);have n1_:=Am (below_step (by repeat (first|(with_reducible first|exact HB.out|apply bA|apply bN|apply bD|refine bS ?_ GE233.out)|exact HB.out)) hb);have n2_:=Am (hbox);have n3_:=Am ((by rw [hg];exact (below_size (by repeat (first|(with_reducible first|exact HB.out|apply bA|apply bN|apply bD|refine bS ?_ GE233.out)|exact HB.out))) : w.heap.size ≤ gb235));have n4_:=Am ((by rw [hg];exact (below_size (by repeat (first|(with_reducible first|exact HB.out|apply bA|apply bN|apply bD|refine bS ?_ GE233.out)|exact HB.out))) : w.heap.size ≤ gb235));have n5_:=Am ((by rw [hg];exact Nat.ne_of_lt (blk_lt (g:=gb233) (o:=.cells #[.slice (some ad234) l0_0.length c0_0,.slice A0_1 l0_1.length c0_1,.int .i64 a0_2,.int .i64 a0_3,.int .i64 a0_4] 26 (0,0)) (by (with_reducible repeat (first|refine kN ?_ _|refine kD ?_|refine kA ?_ _));exact BK233.out)) : gb233 ≠ gb235));have n6_:=Am ((by rw [hg];exact Nat.ne_of_gt (blk_lt (g:=gb233) (o:=.cells #[.slice (some ad234) l0_0.length c0_0,.slice A0_1 l0_1.length c0_1,.int .i64 a0_2,.int .i64 a0_3,.int .i64 a0_4] 26 (0,0)) (by (with_reducible repeat (first|refine kN ?_ _|refine kD ?_|refine kA ?_ _));exact BK233.out)) : gb235 ≠ gb233));clear BK233;clear HB;have BK233:=n0_;have HB:=n1_;have BK235:=n2_;have GW235:=n3_;have GE235:=n4_;have NB233_235:=n5_;have NB235_233:=n6_;clear n0_ n1_ n2_ n3_ n4_ n5_ n6_;clear hb hbox hg;have hnb13:=NB235_233.out;have hnc13:=NB233_235.out;have hcz14_0 : w12.cell? ⟨gb235,0,none⟩ = some (.int .i64 0):=(kC BK235.out 0).trans rfl;have hcz14_1 : w12.cell? ⟨gb235,1,none⟩ = some (.int .i64 0):=(kC BK235.out 1).trans rfl;have hfz14_0:=kF BK235.out 0;have hfz14_1:=kF BK235.out 1))
       go_roundg k1
       case measure => have:=HK1.out;omega
       case rel => exact ⟨(wrap64 (x1_1 - ((rd_T39 l0_0 x10_1).f0))),(wrap64 (x10_1 + 1)),(by first|rfl|(simp;done)|(simp [*];done)),(by first|rfl|(simp;done)|(simp [*];done)),H',⟨by have:=HK1.out;omega⟩,⟨by (with_reducible repeat (first|refine kN ?_ _|refine kD ?_|refine kA ?_ _));refine blk_far ?_ NB233_235.out _;(with_reducible repeat (first|refine kN ?_ _|refine kD ?_|refine kA ?_ _));refine blk_far ?_ NB233_235.out _;(with_reducible repeat (first|refine kN ?_ _|refine kD ?_|refine kA ?_ _));exact BK233.out⟩,⟨by repeat (first|(with_reducible first|exact HB.out|apply bA|apply bN|apply bD|refine bS ?_ GE233.out|refine bS ?_ GE235.out)|exact HB.out)⟩⟩
     ·rw [if_neg c7] at H
      exact absurd H (by simp)
    ·rw [if_neg c6] at H
     exact absurd H (by simp)
   ·rw [if_neg c5] at H
    have c5b0 : decide (x10_1 < (l0_0.length : Int)) = false:=decide_eq_false c5
    clear c5
    obtain ⟨ji15,hji15⟩ : ∃ j_ : Int,(wrap64 ((l0_0.length : Int) - 1)) = j_:=⟨_,rfl⟩
    replace H : (if 0 ≤ (ji15) then (if (ji15) < (l0_0.length : Int) then (some ((rd_T39 l0_0 (ji15)).f1)) else (none)) else (none)) = some r:=by first|(rw [hji15] at H;exact H)|(simp only [hji15] at H ⊢;exact H)
    have hji15w : (IntKind.i64.wrap ((l0_0.length : Int) - 1)) = ji15:=(i64_w _).trans hji15
    by_cases c16 : 0 ≤ (ji15)
    ·rw [if_pos c16] at H
     have c16b0 : decide (0 ≤ (ji15)) = true:=decide_eq_true c16
     clear c16
     by_cases c17 : (ji15) < (l0_0.length : Int)
     ·rw [if_pos c17] at H
      have c17b0 : decide ((ji15) < (l0_0.length : Int)) = true:=decide_eq_true c17
      clear c17
      obtain rfl:=Option.some.inj H
      have hcz18_0 : wr.cell? ⟨gb233,0,none⟩ = some (.slice A0_0 l0_0.length c0_0):=(kC BK233.out 0).trans rfl
      have hcz18_1 : wr.cell? ⟨gb233,1,none⟩ = some (.slice A0_1 l0_1.length c0_1):=(kC BK233.out 1).trans rfl
      have hcz18_2 : wr.cell? ⟨gb233,2,none⟩ = some (.int .i64 a0_2):=(kC BK233.out 2).trans rfl
      have hcz18_3 : wr.cell? ⟨gb233,3,none⟩ = some (.int .i64 a0_3):=(kC BK233.out 3).trans rfl
      have hcz18_4 : wr.cell? ⟨gb233,4,none⟩ = some (.int .i64 a0_4):=(kC BK233.out 4).trans rfl
      have hfz18_0:=kF BK233.out 0
      have hfz18_1:=kF BK233.out 1
      have hfz18_2:=kF BK233.out 2
      have hfz18_3:=kF BK233.out 3
      have hfz18_4:=kF BK233.out 4
      have p236 : 0 ≤ ((ji15) : Int):=of_decide_eq_true (by first|(with_reducible assumption)|assumption)
      have q236 : (ji15) < (l0_0.length : Int):=of_decide_eq_true (by first|(with_reducible assumption)|assumption)
      obtain ⟨ad236,e236,hx236_0,hx236_1⟩:=at_T39 HR0_0.out (ji15) p236 q236
      cases e236
      replace hx236_0:=(HB.out.cell (World.block_lt_of_cell? w _ hx236_0)).trans hx236_0
      replace hx236_1:=(HB.out.cell (World.block_lt_of_cell? w _ hx236_1)).trans hx236_1
      replace p236:=eq_true p236
      replace q236:=eq_true q236
      go_wp2
      go_ret
      exact ⟨by first|rfl|(simp [errW_none,errW_some] <;> rfl)|(simp only [← hji15];first|rfl|(simp [errW_none,errW_some] <;> rfl))|(simp [*,errW_none,errW_some] <;> rfl),by repeat (first|(with_reducible first|exact HB.out|apply bA|apply bN|apply bD|refine bS ?_ GE233.out)|exact HB.out)⟩
     ·rw [if_neg c17] at H
      exact absurd H (by simp)
    ·rw [if_neg c16] at H
     exact absurd H (by simp)

end Go.Proofs.Ytanjbdgmnecacaa.PA
