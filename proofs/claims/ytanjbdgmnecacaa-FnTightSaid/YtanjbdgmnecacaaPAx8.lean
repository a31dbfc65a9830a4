-- Written by a program of this session (wip/print/myprint.py) over the kit's print, with contracts of its own; not a text of print.sh's.
import Derived.Test.YtanjbdgmnecacaaPAx0
import Derived.Test.YtanjbdgmnecacaaPAx3
import Derived.Test.YtanjbdgmnecacaaPAx4
import Derived.Test.YtanjbdgmnecacaaPAx5
import Derived.Test.YtanjbdgmnecacaaPAx7
namespace Go.Proofs.Ytanjbdgmnecacaa.PA
open Go.RowKit Go.Proofs.YtanjbdgmnecacaaW.PrintWords Go.Proofs.YtanjbdgmnecacaaW.PrintLast Go.Proofs.YtanjbdgmnecacaaW.PrintMore
attribute [local go_sem] max2_int min2_int max_two min_two   -- for this text's walks alone
set_option linter.unusedVariables false
set_option linter.unusedSimpArgs false

/-! ### spec_Profiles: function 9 -/
def spec_Profiles.f (k : Nat) (l0 : List Int) : Option ((List (S39)) × (List (S45)) × Int × Int × Int × Int × List Int):=(spec_l6Cur_pick.f l0 0 0 30).bind fun bt210 => ((spec_l6Cur_profile.f k l0 bt210.2.1 bt210.2.2 (wrap64 (1 + bt210.1))).bind fun bt213 => ((spec_l6Cur_wide.f l0 bt213.2.2.2.2.2.1 bt213.2.2.2.2.2.2 (wrap64 (bt213.2.2.2.1 + 1))).bind fun bt225 => ((spec_l6Cur_wants.f k l0 bt225.2.1 bt225.2.2).bind fun bt228 => (some (bt213.1,bt213.2.1,bt213.2.2.1,bt213.2.2.2.1,bt213.2.2.2.2.1,bt225.1,bt228.1)))))
theorem spec_Profiles.mono : ∀ a0 k,LeO (spec_Profiles.f k a0) (spec_Profiles.f (k + 1) a0):=by
 intro a0 k
 unfold spec_Profiles.f
 repeat' first
   | (with_reducible exact spec_l6Cur_profile.mono _ _ _ _ _)
   | (with_reducible exact spec_l6Cur_wants.mono _ _ _ _)
   | (with_reducible exact LeO.refl _)
   | (with_reducible exact LeO.none _)
   | (with_reducible refine LeO.ite ?_ ?_)
   | (with_reducible refine LeO.bind ?_ (fun _ => ?_))
   | exact spec_l6Cur_profile.mono _ _ _ _ _
   | exact spec_l6Cur_wants.mono _ _ _ _
   | exact LeO.none _
   | refine LeO.ite ?_ ?_
   | refine LeO.bind ?_ (fun _ => ?_)
set_option maxHeartbeats 8000000 in
set_option maxRecDepth 100000 in
theorem spec_Profiles.calls (k : Nat) (A0 : Option Addr) (c0 : Nat) (l0 : List Int) (r1 : List (S39)) (r2 : List (S45)) (r3 : Int) (r4 : Int) (r5 : Int) (r6 : Int) (r7 : List Int) (w : World) (hr0 : Kd.C (Kd.int .u8) w A0 l0.length l0) (hc0 : l0.length ≤ c0) (h : spec_Profiles.f k l0 = some (r1,r2,r3,r4,r5,r6,r7)) :
  Calls Try.prog 9 #[.slice A0 l0.length c0] w fun e w' => ∃ v0_ v1_ v6_ : Value,e = .returned (.tuple #[.agg #[v0_,v1_,.int .i64 r3,.int .i64 r4,.int .i64 r5],.int .i64 r6,v6_])∧Kd.R k39 39 w' w.heap.size (fun _ => True) v0_ r1∧Kd.R k45 45 w' w.heap.size (fun _ => True) v1_ r2∧Kd.R (Kd.int .i64) 3 w' w.heap.size (fun _ => True) v6_ r7∧Below w.heap.size w w':=by
 have hu26:=Try.underlying26
 have hu59:=Try.underlying59
 have HR0:=Am hr0
 have HC0:=Am hc0
 clear hr0 hc0
 have HB:=Am (Below.refl w.heap.size w)
 have H : ((spec_l6Cur_pick.f l0 0 0 30).bind fun bt210 => ((spec_l6Cur_profile.f k l0 bt210.2.1 bt210.2.2 (wrap64 (1 + bt210.1))).bind fun bt213 => ((spec_l6Cur_wide.f l0 bt213.2.2.2.2.2.1 bt213.2.2.2.2.2.2 (wrap64 (bt213.2.2.2.1 + 1))).bind fun bt225 => ((spec_l6Cur_wants.f k l0 bt225.2.1 bt225.2.2).bind fun bt228 => (some (bt213.1,bt213.2.1,bt213.2.2.1,bt213.2.2.2.1,bt213.2.2.2.2.1,bt225.1,bt228.1)))))) = some (r1,r2,r3,r4,r5,r6,r7):=h
 clear h
 replace H:=Option.bind_eq_some_iff.mp H
 obtain ⟨⟨t210,t211,t212⟩,A20,H⟩:=H
 replace H : ((spec_l6Cur_profile.f k l0 t211 t212 (wrap64 (1 + t210))).bind fun bt213 => ((spec_l6Cur_wide.f l0 bt213.2.2.2.2.2.1 bt213.2.2.2.2.2.2 (wrap64 (bt213.2.2.2.1 + 1))).bind fun bt225 => ((spec_l6Cur_wants.f k l0 bt225.2.1 bt225.2.2).bind fun bt228 => (some (bt213.1,bt213.2.1,bt213.2.2.1,bt213.2.2.2.1,bt213.2.2.2.2.1,bt225.1,bt228.1))))) = some (r1,r2,r3,r4,r5,r6,r7):=H
 have A2:=Am A20
 clear A20
 replace H:=Option.bind_eq_some_iff.mp H
 obtain ⟨⟨t213,t216,t219,t220,t221,t222,t223⟩,A30,H⟩:=H
 replace H : ((spec_l6Cur_wide.f l0 t222 t223 (wrap64 (t220 + 1))).bind fun bt225 => ((spec_l6Cur_wants.f k l0 bt225.2.1 bt225.2.2).bind fun bt228 => (some (t213,t216,t219,t220,t221,bt225.1,bt228.1)))) = some (r1,r2,r3,r4,r5,r6,r7):=H
 have A3:=Am A30
 clear A30
 replace H:=Option.bind_eq_some_iff.mp H
 obtain ⟨⟨t225,t226,t227⟩,A40,H⟩:=H
 replace H : ((spec_l6Cur_wants.f k l0 t226 t227).bind fun bt228 => (some (t213,t216,t219,t220,t221,t225,bt228.1))) = some (r1,r2,r3,r4,r5,r6,r7):=H
 have A4:=Am A40
 clear A40
 replace H:=Option.bind_eq_some_iff.mp H
 obtain ⟨⟨t228,t231,t232⟩,A50,H⟩:=H
 replace H : (some (t213,t216,t219,t220,t221,t225,t228)) = some (r1,r2,r3,r4,r5,r6,r7):=H
 have A5:=Am A50
 clear A50
 simp only [Option.some.injEq,Prod.mk.injEq] at H
 obtain ⟨rfl,rfl,rfl,rfl,rfl,rfl,rfl⟩:=H
 go_enter Try.func9,Try.ntmps9
 try go_wp2_with (first|((with_reducible refine gate_dst (N:=2) rfl ?_);refine box_event ?hg (N:=2) ?hd (cs:=#[.slice none 0 0,.slice none 0 0,.int .i64 0,.int .i64 0,.int .i64 0]) (t:=26) ?hr ?_;(case hd => rfl);(case hg => rfl);(case hr => first|(go_simp;done)|(go_simp;rfl));intro gb208 hg w6 hbox hb;have n0_:=Am (below_step (by repeat (first|(with_reducible first|exact HB.out|apply bA|apply bN|apply bD)|exact HB.out)) hb);have n1_:=Am (hbox);have n2_:=Am ((by rw [hg];exact (below_size (by repeat (first|(with_reducible first|exact HB.out|apply bA|apply bN|apply bD)|exact HB.out))) : w.heap.size ≤ gb208));have n3_:=Am ((by rw [hg];exact (below_size (by repeat (first|(with_reducible first|exact HB.out|apply bA|apply bN|apply bD)|exact HB.out))) : w.heap.size ≤ gb208));clear HB;have HB:=n0_;have BK208:=n1_;have GW208:=n2_;have GE208:=n3_;clear n0_ n1_ n2_ n3_;clear hb hbox hg)|((with_reducible refine gate_dst (N:=10) rfl ?_);refine box_event ?hg (N:=10) ?hd (cs:=#[.slice A0 l0.length c0,.int .i64 0,.int .u64 0]) (t:=59) ?hr ?_;(case hd => rfl);(case hg => rfl);(case hr => first|(go_simp;done)|(go_simp;rfl));intro gb209 hg w7 hbox hb;have n0_:=Am (blk_below (g:=gb208) (o:=.cells #[.slice none 0 0,.slice none 0 0,.int .i64 0,.int .i64 0,.int .i64 0] 26 (0,0)) (by (with_reducible repeat (first|refine kN ?_ _|refine kD ?_|refine kA ?_ _));exact BK208.out) hb);have n1_:=Am (below_step (by repeat (first|(with_reducible first|exact HB.out|apply bA|apply bN|apply bD|refine bS ?_ GE208.out)|exact HB.out)) hb);have n2_:=Am (hbox);have n3_:=Am ((by rw [hg];exact (below_size (by repeat (first|(with_reducible first|exact HB.out|apply bA|apply bN|apply bD|refine bS ?_ GE208.out)|exact HB.out))) : w.heap.size ≤ gb209));have n4_:=Am ((by rw [hg];exact (below_size (by repeat (first|(with_reducible first|exact HB.out|apply bA|apply bN|apply bD|refine bS ?_ GE208.out)|exact HB.out))) : w.heap.size ≤ gb209));have n5_:=Am ((by rw [hg];exact Nat.ne_of_lt (blk_lt (g:=gb208) (o:=.cells #[.slice none 0 0,.slice none 0 0,.int .i64 0,.int .i64 0,.int .i64 0] 26 (0,0)) (by (with_reducible repeat (first|refine kN ?_ _|refine kD ?_|refine kA ?_ _));exact BK208.out)) : gb208 ≠ gb209));have n6_:=Am ((by rw [hg];exact Nat.ne_of_gt (blk_lt (g:=gb208) (o:=.cells #[.slice none 0 0,.slice none 0 0,.int .i64 0,.int .i64 0,.int .i64 0] 26 (0,0)) (by (with_reducible repeat (first|refine kN ?_ _|refine kD ?_|refine kA ?_ _));exact BK208.out)) : gb209 ≠ gb208));clear BK208;clear HB;have BK208:=n0_;have HB:=n1_;have BK209:=n2_;have GW209:=n3_;have GE209:=n4_;have NB208_209:=n5_;have NB209_208:=n6_;clear n0_ n1_ n2_ n3_ n4_ n5_ n6_;clear hb hbox hg)|((with_reducible refine gate_callee (f:=31) rfl ?_);refine goesL_ (some 13) rfl rfl Try.func31 (by kernel_rfl) rfl #[.pointer (some ⟨gb209,0,none⟩),.int .i64 30] rfl (by (try simp only [List.map_toArray,List.map_cons,List.map_nil]);first|done|rfl|(simp only [List.length_drop,List.length_take];rfl)) ?_;(with_reducible refine (spec_l6Cur_pick.calls gb209 l0 0 0 30 t210 t211 t212 w _ ?side1 ?side2 A2.out).mono ?_);(case side1 => exact ⟨_,_,by (with_reducible repeat (first|refine kN ?_ _|refine kD ?_|refine kA ?_ _));exact BK209.out,GE209.out,HR0.out⟩);(case side2 => repeat (first|(with_reducible first|exact HB.out|apply bA|apply bN|apply bD|refine bS ?_ GE209.out|refine bS ?_ GE208.out)|exact HB.out));rintro e w8 ⟨rfl,hi,hb,hk⟩;refine ⟨_,rfl,?_⟩;have n0_:=Am (KeepBut.blk hk (g':=gb208) (o:=.cells #[.slice none 0 0,.slice none 0 0,.int .i64 0,.int .i64 0,.int .i64 0] 26 (0,0)) (by (with_reducible repeat (first|refine kN ?_ _|refine kD ?_|refine kA ?_ _));exact BK208.out) NB208_209.out (by simp));have n1_:=Am (hb);have n2_:=Am (hi);clear BK208;clear HB;clear BK209;have BK208:=n0_;have HB:=n1_;have HI209:=n2_;clear n0_ n1_ n2_;(try clear hb);(try clear hb2);(try clear hk);(try clear hi))|((with_reducible refine gate_callee (f:=30) rfl ?_);refine goesL_ (some 15) rfl rfl Try.func30 (by kernel_rfl) rfl #[.pointer (some ⟨gb209,0,none⟩),.int .i64 (wrap64 (1 + t210))] rfl (by (try simp only [List.map_toArray,List.map_cons,List.map_nil]);first|done|rfl|(simp only [List.length_drop,List.length_take];rfl)) ?_;(with_reducible refine (spec_l6Cur_profile.calls k gb209 l0 t211 t212 (wrap64 (1 + t210)) t213 t216 t219 t220 t221 t222 t223 w _ ?side1 ?side2 A3.out).mono ?_);(case side1 => repeat (first|(with_reducible first|exact HI209.out|apply IsS59.alloc|apply IsS59.drewN|apply IsS59.drew|apply IsS59.set_1|apply IsS59.set_2|refine IsS59.far ?_ NB209_208.out _)|exact HI209.out));(case side2 => repeat (first|(with_reducible first|exact HB.out|apply bA|apply bN|apply bD|refine bS ?_ (IsS59.ge HI209.out)|refine bS ?_ GE208.out)|exact HB.out));rintro e w9 ⟨v214,v217,rfl,ho0,ho1,hi,hb,hk⟩;refine ⟨_,rfl,?_⟩;have n0_:=Am (KeepBut.blk hk (g':=gb208) (o:=.cells #[.slice none 0 0,.slice none 0 0,.int .i64 0,.int .i64 0,.int .i64 0] 26 (0,0)) (by (with_reducible repeat (first|refine kN ?_ _|refine kD ?_|refine kA ?_ _));exact BK208.out) NB208_209.out (by simp));have n1_:=Am (Kd.R_lower ho0 (below_size (by repeat (first|(with_reducible first|exact HB.out|apply bA|apply bN|apply bD|refine bS ?_ (IsS59.ge HI209.out)|refine bS ?_ GE208.out)|exact HB.out))));have n2_:=Am (Kd.R_lower ho1 (below_size (by repeat (first|(with_reducible first|exact HB.out|apply bA|apply bN|apply bD|refine bS ?_ (IsS59.ge HI209.out)|refine bS ?_ GE208.out)|exact HB.out))));have n3_:=Am (hb);have n4_:=Am (hi);clear BK208;clear HB;clear HI209;have BK208:=n0_;have HO215:=n1_;have HO218:=n2_;have HB:=n3_;have HI209:=n4_;clear n0_ n1_ n2_ n3_ n4_;(try clear hb);(try clear hb2);(try clear hk);(try clear hi);(try clear ho0);(try clear ho1))|((with_reducible refine gate_dst (N:=6) rfl ?_);refine box_event ?hg (N:=6) ?hd (cs:=#[.slice none 0 0,.slice none 0 0,.int .i64 0,.int .i64 0,.int .i64 0]) (t:=26) ?hr ?_;(case hd => rfl);(case hg => rfl);(case hr => first|(go_simp;done)|(go_simp;rfl));intro gb224 hg w10 hbox hb;have n0_:=Am (Kd.R_below (by (with_reducible repeat (first|apply Kd.R_alloc|apply Kd.R_drewN|apply Kd.R_drew));exact HO215.out) hb);have n1_:=Am (Kd.R_below (by (with_reducible repeat (first|apply Kd.R_alloc|apply Kd.R_drewN|apply Kd.R_drew));exact HO218.out) hb);have n2_:=Am (blk_below (g:=gb208) (o:=.cells #[.slice none 0 0,.slice none 0 0,.int .i64 0,.int .i64 0,.int .i64 0] 26 (0,0)) (by (with_reducible repeat (first|refine kN ?_ _|refine kD ?_|refine kA ?_ _));exact BK208.out) hb);have n3_:=Am (IsS59.below (by repeat (first|(with_reducible first|exact HI209.out|apply IsS59.alloc|apply IsS59.drewN|apply IsS59.drew|apply IsS59.set_1|apply IsS59.set_2|refine IsS59.far ?_ NB209_208.out _)|exact HI209.out)) hb);have n4_:=Am (below_step (by repeat (first|(with_reducible first|exact HB.out|apply bA|apply bN|apply bD|refine bS ?_ (IsS59.ge HI209.out)|refine bS ?_ GE208.out)|exact HB.out)) hb);have n5_:=Am (hbox);have n6_:=Am ((by rw [hg];exact (below_size (by repeat (first|(with_reducible first|exact HB.out|apply bA|apply bN|apply bD|refine bS ?_ (IsS59.ge HI209.out)|refine bS ?_ GE208.out)|exact HB.out))) : w.heap.size ≤ gb224));have n7_:=Am ((by rw [hg];exact (below_size (by repeat (first|(with_reducible first|exact HB.out|apply bA|apply bN|apply bD|refine bS ?_ (IsS59.ge HI209.out)|refine bS ?_ GE208.out)|exact HB.out))) : w.heap.size ≤ gb224));have n8_:=Am ((by rw [hg];exact Nat.ne_of_lt (blk_lt (g:=gb208) (o:=.cells #[.slice none 0 0,.slice none 0 0,.int .i64 0,.int .i64 0,.int .i64 0] 26 (0,0)) (by (with_reducible repeat (first|refine kN ?_ _|refine kD ?_|refine kA ?_ _));exact BK208.out)) : gb208 ≠ gb224));have n9_:=Am ((by rw [hg];exact Nat.ne_of_gt (blk_lt (g:=gb208) (o:=.cells #[.slice none 0 0,.slice none 0 0,.int .i64 0,.int .i64 0,.int .i64 0] 26 (0,0)) (by (with_reducible repeat (first|refine kN ?_ _|refine kD ?_|refine kA ?_ _));exact BK208.out)) : gb224 ≠ gb208));have n10_:=Am ((by rw [hg];exact Nat.ne_of_lt (IsS59.lt (show IsS59 w _ gb209 l0 t222 t223 from by repeat (first|(with_reducible first|exact HI209.out|apply IsS59.alloc|apply IsS59.drewN|apply IsS59.drew|apply IsS59.set_1|apply IsS59.set_2|refine IsS59.far ?_ NB209_208.out _)|exact HI209.out))) : gb209 ≠ gb224));have n11_:=Am ((by rw [hg];exact Nat.ne_of_gt (IsS59.lt (show IsS59 w _ gb209 l0 t222 t223 from by repeat (first|(with_reducible first|exact HI209.out|apply IsS59.alloc|apply IsS59.drewN|apply IsS59.drew|apply IsS59.set_1|apply IsS59.set_2|refine IsS59.far ?_ NB209_208.out _)|exact HI209.out))) : gb224 ≠ gb209));clear HO215;clear HO218;clear BK208;clear HI209;clear HB;have HO215:=n0_;have HO218:=n1_;have BK208:=n2_;have HI209:=n3_;have HB:=n4_;have BK224:=n5_;have GW224:=n6_;have GE224:=n7_;have NB208_224:=n8_;have NB224_208:=n9_;have NB209_224:=n10_;have NB224_209:=n11_;clear n0_ n1_ n2_ n3_ n4_ n5_ n6_ n7_ n8_ n9_ n10_ n11_;clear hb hbox hg;obtain ⟨Ao11,co11,eo11⟩:=Kd.R_slice HO215.out;subst eo11;have hnb12:=NB224_208.out;have hnc12:=NB208_224.out;have hnb13:=NB224_209.out;have hnc13:=NB209_224.out;have hcz14_0 : w10.cell? ⟨gb224,0,none⟩ = some (.slice none 0 0):=(kC BK224.out 0).trans rfl;have hcz14_1 : w10.cell? ⟨gb224,1,none⟩ = some (.slice none 0 0):=(kC BK224.out 1).trans rfl;have hcz14_2 : w10.cell? ⟨gb224,2,none⟩ = some (.int .i64 0):=(kC BK224.out 2).trans rfl;have hcz14_3 : w10.cell? ⟨gb224,3,none⟩ = some (.int .i64 0):=(kC BK224.out 3).trans rfl;have hcz14_4 : w10.cell? ⟨gb224,4,none⟩ = some (.int .i64 0):=(kC BK224.out 4).trans rfl;have hfz14_0:=kF BK224.out 0;have hfz14_1:=kF BK224.out 1;have hfz14_2:=kF BK224.out 2;have hfz14_3:=kF BK224.out 3;have hfz14_4:=kF BK224.out 4;obtain ⟨Ao15,co15,eo15⟩:=Kd.R_slice HO218.out;subst eo15)|((with_reducible refine gate_callee (f:=32) rfl ?_);refine goesL_ (some 20) rfl rfl Try.func32 (by kernel_rfl) rfl #[.pointer (some ⟨gb209,0,none⟩),.int .i64 (wrap64 (t220 + 1))] rfl (by (try simp only [List.map_toArray,List.map_cons,List.map_nil]);first|done|rfl|(simp only [List.length_drop,List.length_take];rfl)) ?_;(with_reducible refine (spec_l6Cur_wide.calls gb209 l0 t222 t223 (wrap64 (t220 + 1)) t225 t226 t227 w _ ?side1 ?side2 A4.out).mono ?_);(case side1 => repeat (first|(with_reducible first|exact HI209.out|apply IsS59.alloc|apply IsS59.drewN|apply IsS59.drew|apply IsS59.set_1|apply IsS59.set_2|refine IsS59.far ?_ NB209_208.out _|refine IsS59.far ?_ NB209_224.out _)|exact HI209.out));(case side2 => repeat (first|(with_reducible first|exact HB.out|apply bA|apply bN|apply bD|refine bS ?_ (IsS59.ge HI209.out)|refine bS ?_ GE208.out|refine bS ?_ GE224.out)|exact HB.out));rintro e w16 ⟨rfl,hi,hb,hk⟩;refine ⟨_,rfl,?_⟩;have n0_:=Am (KeepBut.blk hk (g':=gb208) (o:=.cells #[.slice none 0 0,.slice none 0 0,.int .i64 0,.int .i64 0,.int .i64 0] 26 (0,0)) (by (with_reducible repeat (first|refine kN ?_ _|refine kD ?_|refine kA ?_ _));refine blk_far ?_ NB208_224.out _;(with_reducible repeat (first|refine kN ?_ _|refine kD ?_|refine kA ?_ _));refine blk_far ?_ NB208_224.out _;(with_reducible repeat (first|refine kN ?_ _|refine kD ?_|refine kA ?_ _));refine blk_far ?_ NB208_224.out _;(with_reducible repeat (first|refine kN ?_ _|refine kD ?_|refine kA ?_ _));refine blk_far ?_ NB208_224.out _;(with_reducible repeat (first|refine kN ?_ _|refine kD ?_|refine kA ?_ _));refine blk_far ?_ NB208_224.out _;(with_reducible repeat (first|refine kN ?_ _|refine kD ?_|refine kA ?_ _));exact BK208.out) NB208_209.out (by simp));have n1_:=Am (Kd.R_mono (Kd.R_keep (IsS59.apart (show IsS59 w _ gb209 l0 t222 t223 from by repeat (first|(with_reducible first|exact HI209.out|apply IsS59.alloc|apply IsS59.drewN|apply IsS59.drew|apply IsS59.set_1|apply IsS59.set_2|refine IsS59.far ?_ NB209_208.out _|refine IsS59.far ?_ NB209_224.out _)|exact HI209.out)) (by (with_reducible repeat (first|apply Kd.R_alloc|apply Kd.R_drewN|apply Kd.R_drew));exact (Kd.R_mono (Kd.R_far (p:=⟨gb224,4,none⟩) (Kd.R_far (p:=⟨gb224,3,none⟩) (Kd.R_far (p:=⟨gb224,2,none⟩) (Kd.R_far (p:=⟨gb224,1,none⟩) (Kd.R_far (p:=⟨gb224,0,none⟩) (Kd.R_types HO215.out BK224.out (by decide)) (fun _ hk => hk.2) (.slice Ao11 t213.length co11)) (fun _ hk => hk.2) (.slice Ao15 t216.length co15)) (fun _ hk => hk.2) (.int .i64 t219)) (fun _ hk => hk.2) (.int .i64 t220)) (fun _ hk => hk.2) (.int .i64 t221)) (fun _ h_ => h_.1))) (by decide)) hk (fun _ h => h.2)) (fun _ h => h.1));have n2_:=Am (Kd.R_mono (Kd.R_keep (IsS59.apart (show IsS59 w _ gb209 l0 t222 t223 from by repeat (first|(with_reducible first|exact HI209.out|apply IsS59.alloc|apply IsS59.drewN|apply IsS59.drew|apply IsS59.set_1|apply IsS59.set_2|refine IsS59.far ?_ NB209_208.out _|refine IsS59.far ?_ NB209_224.out _)|exact HI209.out)) (by (with_reducible repeat (first|apply Kd.R_alloc|apply Kd.R_drewN|apply Kd.R_drew));exact (Kd.R_mono (Kd.R_far (p:=⟨gb224,4,none⟩) (Kd.R_far (p:=⟨gb224,3,none⟩) (Kd.R_far (p:=⟨gb224,2,none⟩) (Kd.R_far (p:=⟨gb224,1,none⟩) (Kd.R_far (p:=⟨gb224,0,none⟩) (Kd.R_types HO218.out BK224.out (by decide)) (fun _ hk => hk.2) (.slice Ao11 t213.length co11)) (fun _ hk => hk.2) (.slice Ao15 t216.length co15)) (fun _ hk => hk.2) (.int .i64 t219)) (fun _ hk => hk.2) (.int .i64 t220)) (fun _ hk => hk.2) (.int .i64 t221)) (fun _ h_ => h_.1))) (by decide)) hk (fun _ h => h.2)) (fun _ h => h.1));have n3_:=Am (KeepBut.blk hk (g':=gb224) (o:=.cells #[.slice Ao11 t213.length co11,.slice Ao15 t216.length co15,.int .i64 t219,.int .i64 t220,.int .i64 t221] 26 (0,0)) (by (with_reducible repeat (first|refine kN ?_ _|refine kD ?_|refine kA ?_ _));refine blk_put (cs:=#[.slice Ao11 t213.length co11,.slice Ao15 t216.length co15,.int .i64 t219,.int .i64 t220,.int .i64 0]) ?_ 4 _ rfl;(with_reducible repeat (first|refine kN ?_ _|refine kD ?_|refine kA ?_ _));refine blk_put (cs:=#[.slice Ao11 t213.length co11,.slice Ao15 t216.length co15,.int .i64 t219,.int .i64 0,.int .i64 0]) ?_ 3 _ rfl;(with_reducible repeat (first|refine kN ?_ _|refine kD ?_|refine kA ?_ _));refine blk_put (cs:=#[.slice Ao11 t213.length co11,.slice Ao15 t216.length co15,.int .i64 0,.int .i64 0,.int .i64 0]) ?_ 2 _ rfl;(with_reducible repeat (first|refine kN ?_ _|refine kD ?_|refine kA ?_ _));refine blk_put (cs:=#[.slice Ao11 t213.length co11,.slice none 0 0,.int .i64 0,.int .i64 0,.int .i64 0]) ?_ 1 _ rfl;(with_reducible repeat (first|refine kN ?_ _|refine kD ?_|refine kA ?_ _));refine blk_put (cs:=#[.slice none 0 0,.slice none 0 0,.int .i64 0,.int .i64 0,.int .i64 0]) ?_ 0 _ rfl;(with_reducible repeat (first|refine kN ?_ _|refine kD ?_|refine kA ?_ _));exact BK224.out) NB224_209.out (by simp));have n4_:=Am (hb);have n5_:=Am (hi);clear BK208;clear HO215;clear HO218;clear BK224;clear HB;clear HI209;have BK208:=n0_;have HO215:=n1_;have HO218:=n2_;have BK224:=n3_;have HB:=n4_;have HI209:=n5_;clear n0_ n1_ n2_ n3_ n4_ n5_;(try clear hb);(try clear hb2);(try clear hk);(try clear hi)))
 have n0_:=Am (Kd.R_drew HO215.out)
 have n1_:=Am (Kd.R_drew HO218.out)
 have n2_:=Am (kD BK208.out)
 have n3_:=Am (kD BK224.out)
 have n4_:=Am (IsS59.drew HI209.out)
 have n5_:=Am (bD HB.out)
 clear HO215
 clear HO218
 clear BK208
 clear BK224
 clear HI209
 clear HB
 have HO215:=n0_
 have HO218:=n1_
 have BK208:=n2_
 have BK224:=n3_
 have HI209:=n4_
 have HB:=n5_
 clear n0_ n1_ n2_ n3_ n4_ n5_
 refine start_ (n:=7) (S:=fun w' => w'.cell? ⟨gb224,0,none⟩ = some (.slice Ao11 t213.length co11)∧w'.cell? ⟨gb224,1,none⟩ = some (.slice Ao15 t216.length co15)∧w'.cell? ⟨gb224,2,none⟩ = some (.int .i64 t219)∧w'.cell? ⟨gb224,3,none⟩ = some (.int .i64 t220)∧w'.cell? ⟨gb224,4,none⟩ = some (.int .i64 t221)) (ds:=[]) #[false,false,false,false,false,false,false] (by kernel_rfl) rfl rfl ⟨(kC BK224.out 0).trans rfl,(kC BK224.out 1).trans rfl,(kC BK224.out 2).trans rfl,(kC BK224.out 3).trans rfl,(kC BK224.out 4).trans rfl⟩ (fun hHeld => ?_)
 generalize w16.drew = w17 at HO215 HO218 BK208 BK224 HI209 HB hHeld ⊢
 refine pure_ (i:=1) (N:=some 22) (v:=?_) (a':=?_) #[false,true,false,false,false,false,false] rfl rfl (by kernel_rfl) (fun _ _ _ h => h) (Or.inl ⟨by rfl,?_⟩) ?_ ?_
 rotate_left
 ·intro w'
  go_simp
  with_reducible rfl
 rotate_left
 ·simp only [Act.put,pS]
  rfl
 refine pure_ (i:=2) (N:=some 23) (v:=?_) (a':=?_) #[false,true,true,false,false,false,false] rfl rfl (by kernel_rfl) (fun _ _ _ h => h) (Or.inl ⟨by rfl,?_⟩) ?_ ?_
 rotate_left
 ·intro w'
  go_simp
  with_reducible rfl
 rotate_left
 ·simp only [Act.put,pS]
  rfl
 refine take_ (i:=0) (N:=some 21) (v:=?_) (a':=?_) #[true,true,true,false,false,false,false] rfl rfl (by kernel_rfl) (fun _ _ _ h => h) (Or.inl ⟨by rfl,?_⟩) hHeld ?_ ?_
 rotate_left
 ·rintro w' ⟨s0,s1,s2,s3,s4⟩
  go_simp
  with_reducible rfl
 rotate_left
 ·simp only [Act.put,pS]
  rfl
 refine one_ (i:=3) (N:=some 24) #[true,true,true,true,false,false,false] rfl rfl (by kernel_rfl) (by decide) (fun K hK => ?_)
 refine goes_ Try.func33 (by kernel_rfl) rfl #[.pointer (some ⟨gb209,0,none⟩)] (by rfl) rfl rfl (by (try simp only [List.map_toArray,List.map_cons,List.map_nil]);first|done|rfl|(simp only [List.length_drop,List.length_take];rfl)) ?_
 with_reducible refine (spec_l6Cur_wants.calls k gb209 l0 t226 t227 t228 t231 t232 w _ ?side1 ?side2 A5.out).mono ?_
 (case side1 => repeat (first|(with_reducible first|exact HI209.out|apply IsS59.alloc|apply IsS59.drewN|apply IsS59.drew|apply IsS59.set_1|apply IsS59.set_2|refine IsS59.far ?_ NB209_208.out _|refine IsS59.far ?_ NB209_224.out _)|exact HI209.out))
 (case side2 => repeat (first|(with_reducible first|exact HB.out|apply bA|apply bN|apply bD|refine bS ?_ (IsS59.ge HI209.out)|refine bS ?_ GE208.out|refine bS ?_ GE224.out)|exact HB.out))
 rintro e w18 ⟨v229,rfl,ho0,hi,hb,hk⟩
 refine ⟨_,rfl,?_⟩
 have n0_:=Am (KeepBut.blk hk (g':=gb208) (o:=.cells #[.slice none 0 0,.slice none 0 0,.int .i64 0,.int .i64 0,.int .i64 0] 26 (0,0)) (by (with_reducible repeat (first|refine kN ?_ _|refine kD ?_|refine kA ?_ _));exact BK208.out) NB208_209.out (by simp))
 have n1_:=Am (Kd.R_mono (Kd.R_keep (IsS59.apart (show IsS59 w _ gb209 l0 t226 t227 from by repeat (first|(with_reducible first|exact HI209.out|apply IsS59.alloc|apply IsS59.drewN|apply IsS59.drew|apply IsS59.set_1|apply IsS59.set_2|refine IsS59.far ?_ NB209_208.out _|refine IsS59.far ?_ NB209_224.out _)|exact HI209.out)) (by (with_reducible repeat (first|apply Kd.R_alloc|apply Kd.R_drewN|apply Kd.R_drew));exact HO215.out) (by decide)) hk (fun _ h => h.2)) (fun _ h => h.1))
 have n2_:=Am (Kd.R_mono (Kd.R_keep (IsS59.apart (show IsS59 w _ gb209 l0 t226 t227 from by repeat (first|(with_reducible first|exact HI209.out|apply IsS59.alloc|apply IsS59.drewN|apply IsS59.drew|apply IsS59.set_1|apply IsS59.set_2|refine IsS59.far ?_ NB209_208.out _|refine IsS59.far ?_ NB209_224.out _)|exact HI209.out)) (by (with_reducible repeat (first|apply Kd.R_alloc|apply Kd.R_drewN|apply Kd.R_drew));exact HO218.out) (by decide)) hk (fun _ h => h.2)) (fun _ h => h.1))
 have n3_:=Am (KeepBut.blk hk (g':=gb224) (o:=.cells #[.slice Ao11 t213.length co11,.slice Ao15 t216.length co15,.int .i64 t219,.int .i64 t220,.int .i64 t221] 26 (0,0)) (by (with_reducible repeat (first|refine kN ?_ _|refine kD ?_|refine kA ?_ _));exact BK224.out) NB224_209.out (by simp))
 have n4_:=Am (Kd.R_lower ho0 (below_size (by repeat (first|(with_reducible first|exact HB.out|apply bA|apply bN|apply bD|refine bS ?_ (IsS59.ge HI209.out)|refine bS ?_ GE208.out|refine bS ?_ GE224.out)|exact HB.out))))
 have n5_:=Am (hb)
 have n6_:=Am (hi)
 clear BK208
 clear HO215
 clear HO218
 clear BK224
 clear HB
 clear HI209
 have BK208:=n0_
 have HO215:=n1_
 have HO218:=n2_
 have BK224:=n3_
 have HO230:=n4_
 have HB:=n5_
 have HI209:=n6_
 clear n0_ n1_ n2_ n3_ n4_ n5_ n6_
 (try clear hb)
 (try clear hb2)
 (try clear hk)
 (try clear hi)
 (try clear ho0)
 refine hK.out _ _ ⟨(kC BK224.out 0).trans rfl,(kC BK224.out 1).trans rfl,(kC BK224.out 2).trans rfl,(kC BK224.out 3).trans rfl,(kC BK224.out 4).trans rfl⟩ (fun hHeld => ?_)
 clear hK K
 refine norm_ (a':=?_) ?_ ?_
 rotate_left
 ·show Act.put _ (some 24) _ = _
  simp only [Act.put,pS]
  rfl
 refine one_ (i:=4) (N:=none) #[true,true,true,true,true,false,false] rfl rfl (by kernel_rfl) (by decide) (fun K hK => ?_)
 have hs19 : w18.cell? ⟨gb208,0,none⟩ = some (.slice none 0 0):=(kC BK208.out 0).trans rfl
 have hfs19:=kF BK208.out 0
 have hns19_1:=NB224_208.out
 have hms19_1:=NB208_224.out
 have hs20 : w18.cell? ⟨gb208,1,none⟩ = some (.slice none 0 0):=(kC BK208.out 1).trans rfl
 have hfs20:=kF BK208.out 1
 have hns20_1:=NB224_208.out
 have hms20_1:=NB208_224.out
 have hs21 : w18.cell? ⟨gb208,2,none⟩ = some (.int .i64 0):=(kC BK208.out 2).trans rfl
 have hfs21:=kF BK208.out 2
 have hns21_1:=NB224_208.out
 have hms21_1:=NB208_224.out
 have hs22 : w18.cell? ⟨gb208,3,none⟩ = some (.int .i64 0):=(kC BK208.out 3).trans rfl
 have hfs22:=kF BK208.out 3
 have hns22_1:=NB224_208.out
 have hms22_1:=NB208_224.out
 have hs23 : w18.cell? ⟨gb208,4,none⟩ = some (.int .i64 0):=(kC BK208.out 4).trans rfl
 have hfs23:=kF BK208.out 4
 have hns23_1:=NB224_208.out
 have hms23_1:=NB208_224.out
 refine skip_ (w1:=?_) (by rfl) rfl ?_ ?_
 rotate_left
 ·go_simp
  rfl
 refine hK.out _ _ ⟨((cell_far (p:=⟨gb208,_,none⟩) NB224_208.out _).trans (((cell_far (p:=⟨gb208,_,none⟩) NB224_208.out _).trans (((cell_far (p:=⟨gb208,_,none⟩) NB224_208.out _).trans (((cell_far (p:=⟨gb208,_,none⟩) NB224_208.out _).trans (((cell_far (p:=⟨gb208,_,none⟩) NB224_208.out _).trans (hHeld.1)))))))))),((cell_far (p:=⟨gb208,_,none⟩) NB224_208.out _).trans (((cell_far (p:=⟨gb208,_,none⟩) NB224_208.out _).trans (((cell_far (p:=⟨gb208,_,none⟩) NB224_208.out _).trans (((cell_far (p:=⟨gb208,_,none⟩) NB224_208.out _).trans (((cell_far (p:=⟨gb208,_,none⟩) NB224_208.out _).trans (hHeld.2.1)))))))))),((cell_far (p:=⟨gb208,_,none⟩) NB224_208.out _).trans (((cell_far (p:=⟨gb208,_,none⟩) NB224_208.out _).trans (((cell_far (p:=⟨gb208,_,none⟩) NB224_208.out _).trans (((cell_far (p:=⟨gb208,_,none⟩) NB224_208.out _).trans (((cell_far (p:=⟨gb208,_,none⟩) NB224_208.out _).trans (hHeld.2.2.1)))))))))),((cell_far (p:=⟨gb208,_,none⟩) NB224_208.out _).trans (((cell_far (p:=⟨gb208,_,none⟩) NB224_208.out _).trans (((cell_far (p:=⟨gb208,_,none⟩) NB224_208.out _).trans (((cell_far (p:=⟨gb208,_,none⟩) NB224_208.out _).trans (((cell_far (p:=⟨gb208,_,none⟩) NB224_208.out _).trans (hHeld.2.2.2.1)))))))))),((cell_far (p:=⟨gb208,_,none⟩) NB224_208.out _).trans (((cell_far (p:=⟨gb208,_,none⟩) NB224_208.out _).trans (((cell_far (p:=⟨gb208,_,none⟩) NB224_208.out _).trans (((cell_far (p:=⟨gb208,_,none⟩) NB224_208.out _).trans (((cell_far (p:=⟨gb208,_,none⟩) NB224_208.out _).trans (hHeld.2.2.2.2))))))))))⟩ (fun hHeld => ?_)
 clear hK K
 refine pure_ (i:=5) (N:=some 3) (v:=?_) (a':=?_) #[true,true,true,true,true,true,false] rfl rfl (by kernel_rfl) (fun _ _ _ h => h) (Or.inl ⟨by rfl,?_⟩) ?_ ?_
 rotate_left
 ·intro w'
  go_simp
  with_reducible rfl
 rotate_left
 ·simp only [Act.put,pS]
  rfl
 refine pure_ (i:=6) (N:=some 4) (v:=?_) (a':=?_) #[true,true,true,true,true,true,true] rfl rfl (by kernel_rfl) (fun _ _ _ h => h) (Or.inl ⟨by rfl,?_⟩) ?_ ?_
 rotate_left
 ·intro w'
  go_simp
  with_reducible rfl
 rotate_left
 ·simp only [Act.put,pS]
  rfl
 refine done_ (by kernel_rfl) ?_
 try go_wp2
 refine bodyPost_ret (results_ctt rfl _ _ gb208 26 #[.slice Ao11 t213.length co11,.slice Ao15 t216.length co15,.int .i64 t219,.int .i64 t220,.int .i64 t221] (0,0) _ rfl (by (with_reducible repeat (first|refine kN ?_ _|refine kD ?_|refine kA ?_ _));refine blk_put (cs:=#[.slice Ao11 t213.length co11,.slice Ao15 t216.length co15,.int .i64 t219,.int .i64 t220,.int .i64 0]) ?_ 4 _ rfl;(with_reducible repeat (first|refine kN ?_ _|refine kD ?_|refine kA ?_ _));refine blk_put (cs:=#[.slice Ao11 t213.length co11,.slice Ao15 t216.length co15,.int .i64 t219,.int .i64 0,.int .i64 0]) ?_ 3 _ rfl;(with_reducible repeat (first|refine kN ?_ _|refine kD ?_|refine kA ?_ _));refine blk_put (cs:=#[.slice Ao11 t213.length co11,.slice Ao15 t216.length co15,.int .i64 0,.int .i64 0,.int .i64 0]) ?_ 2 _ rfl;(with_reducible repeat (first|refine kN ?_ _|refine kD ?_|refine kA ?_ _));refine blk_put (cs:=#[.slice Ao11 t213.length co11,.slice none 0 0,.int .i64 0,.int .i64 0,.int .i64 0]) ?_ 1 _ rfl;(with_reducible repeat (first|refine kN ?_ _|refine kD ?_|refine kA ?_ _));refine blk_put (cs:=#[.slice none 0 0,.slice none 0 0,.int .i64 0,.int .i64 0,.int .i64 0]) ?_ 0 _ rfl;(with_reducible repeat (first|refine kN ?_ _|refine kD ?_|refine kA ?_ _));exact BK208.out) Try.underlying26 rfl (by kernel_rfl)) rfl ?_
 exact ⟨_,_,_,by first|rfl|(simp [errW_none,errW_some] <;> rfl)|(simp [*,errW_none,errW_some] <;> rfl),by (with_reducible repeat (first|apply Kd.R_alloc|apply Kd.R_drewN|apply Kd.R_drew));exact Kd.R_mono (Kd.R_far (p:=⟨gb208,4,none⟩) (Kd.R_far (p:=⟨gb208,3,none⟩) (Kd.R_far (p:=⟨gb208,2,none⟩) (Kd.R_far (p:=⟨gb208,1,none⟩) (Kd.R_far (p:=⟨gb208,0,none⟩) (Kd.R_types HO215.out BK208.out (by decide)) (fun _ hk => hk.2) (.slice Ao11 t213.length co11)) (fun _ hk => hk.2) (.slice Ao15 t216.length co15)) (fun _ hk => hk.2) (.int .i64 t219)) (fun _ hk => hk.2) (.int .i64 t220)) (fun _ hk => hk.2) (.int .i64 t221)) (fun _ hk => trivial),by (with_reducible repeat (first|apply Kd.R_alloc|apply Kd.R_drewN|apply Kd.R_drew));exact Kd.R_mono (Kd.R_far (p:=⟨gb208,4,none⟩) (Kd.R_far (p:=⟨gb208,3,none⟩) (Kd.R_far (p:=⟨gb208,2,none⟩) (Kd.R_far (p:=⟨gb208,1,none⟩) (Kd.R_far (p:=⟨gb208,0,none⟩) (Kd.R_types HO218.out BK208.out (by decide)) (fun _ hk => hk.2) (.slice Ao11 t213.length co11)) (fun _ hk => hk.2) (.slice Ao15 t216.length co15)) (fun _ hk => hk.2) (.int .i64 t219)) (fun _ hk => hk.2) (.int .i64 t220)) (fun _ hk => hk.2) (.int .i64 t221)) (fun _ hk => trivial),by (with_reducible repeat (first|apply Kd.R_alloc|apply Kd.R_drewN|apply Kd.R_drew));exact Kd.R_mono (Kd.R_far (p:=⟨gb208,4,none⟩) (Kd.R_far (p:=⟨gb208,3,none⟩) (Kd.R_far (p:=⟨gb208,2,none⟩) (Kd.R_far (p:=⟨gb208,1,none⟩) (Kd.R_far (p:=⟨gb208,0,none⟩) (Kd.R_types HO230.out BK208.out (by decide)) (fun _ hk => hk.2) (.slice Ao11 t213.length co11)) (fun _ hk => hk.2) (.slice Ao15 t216.length co15)) (fun _ hk => hk.2) (.int .i64 t219)) (fun _ hk => hk.2) (.int .i64 t220)) (fun _ hk => hk.2) (.int .i64 t221)) (fun _ hk => trivial),by repeat (first|(with_reducible first|exact HB.out|apply bA|apply bN|apply bD|refine bS ?_ (IsS59.ge HI209.out)|refine bS ?_ GE208.out|refine bS ?_ GE224.out)|exact HB.out)⟩

end Go.Proofs.Ytanjbdgmnecacaa.PA
