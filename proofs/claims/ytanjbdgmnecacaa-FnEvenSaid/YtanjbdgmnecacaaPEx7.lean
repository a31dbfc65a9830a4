-- Written by a program of this session (wip/print/myprint.py) over the kit's print, with contracts of its own; not a text of print.sh's.
import Derived.Test.YtanjbdgmnecacaaPEx0
import Derived.Test.YtanjbdgmnecacaaPEx6
namespace Go.Proofs.Ytanjbdgmnecacaa.PE
open Go.RowKit Go.Proofs.YtanjbdgmnecacaaW.PrintWords Go.Proofs.YtanjbdgmnecacaaW.PrintLast Go.Proofs.YtanjbdgmnecacaaW.PrintMore
attribute [local go_sem] max2_int min2_int max_two min_two   -- for this text's walks alone
set_option linter.unusedVariables false
set_option linter.unusedSimpArgs false

/-! ### spec_l4G_high: function 46 -/
def spec_l4G_high.f (s0_0 : List (S39)) (s0_1 : List (S45)) (s0_2 : Int) (s0_3 : Int) (s0_4 : Int) (s0_5 : Int) (s0_6 : Int) (s0_7 : Int) (s0_8 : List Int) (a1 : Int) : Option (Int × Int × Int × Int × Int × Int × Int):=if (wrap64 (a1 + s0_5)) > 60 then (some (60,s0_2,s0_3,s0_4,s0_5,s0_6,s0_7)) else (some (wrap64 (a1 + s0_5),s0_2,s0_3,s0_4,s0_5,s0_6,s0_7))
set_option maxHeartbeats 8000000 in
set_option maxRecDepth 100000 in
theorem spec_l4G_high.calls (g : Nat) (s0_0 : List (S39)) (s0_1 : List (S45)) (s0_2 : Int) (s0_3 : Int) (s0_4 : Int) (s0_5 : Int) (s0_6 : Int) (s0_7 : Int) (s0_8 : List Int) (a1 : Int) (r1 : Int) (r2 : Int) (r3 : Int) (r4 : Int) (r5 : Int) (r6 : Int) (r7 : Int) (w0 w : World) (hI : IsS72 w0 w g s0_0 s0_1 s0_2 s0_3 s0_4 s0_5 s0_6 s0_7 s0_8) (hB : Below w0.heap.size w0 w) (h : spec_l4G_high.f s0_0 s0_1 s0_2 s0_3 s0_4 s0_5 s0_6 s0_7 s0_8 a1 = some (r1,r2,r3,r4,r5,r6,r7)) :
  Calls Try.prog 46 #[.pointer (some ⟨g,0,none⟩),.int .i64 a1] w fun e w' => e = .returned (.int .i64 r1)∧IsS72 w0 w' g s0_0 s0_1 r2 r3 r4 r5 r6 r7 s0_8∧Below w0.heap.size w0 w'∧KeepBut w w' g none:=by
 have HI0:=Am hI
 have HK:=Am (KeepBut.refl w g none)
 have HL:=Am hB.size
 clear hI
 have HW0:=Am hB.size
 have HB:=Am hB
 clear hB
 have H : (if (wrap64 (a1 + s0_5)) > 60 then (some (60,s0_2,s0_3,s0_4,s0_5,s0_6,s0_7)) else (some (wrap64 (a1 + s0_5),s0_2,s0_3,s0_4,s0_5,s0_6,s0_7))) = some (r1,r2,r3,r4,r5,r6,r7):=h
 clear h
 by_cases c3 : (wrap64 (a1 + s0_5)) > 60
 ·rw [if_pos c3] at H
  have c3b0 : decide (60 < (wrap64 (a1 + s0_5))) = true:=decide_eq_true c3
  clear c3
  simp only [Option.some.injEq,Prod.mk.injEq] at H
  obtain ⟨rfl,rfl,rfl,rfl,rfl,rfl,rfl⟩:=H
  obtain ⟨ASz4_0,cSz4_0,ASz4_1,cSz4_1,ASz4_8,cSz4_8,HGz4,hgz4,HSz4_0,HSz4_1,HSz4_8⟩:=HI0.out
  have hcz4_0:=cellS72_0 HGz4
  have hcz4_1:=cellS72_1 HGz4
  have hcz4_2:=cellS72_2 HGz4
  have hcz4_3:=cellS72_3 HGz4
  have hcz4_4:=cellS72_4 HGz4
  have hcz4_5:=cellS72_5 HGz4
  have hcz4_6:=cellS72_6 HGz4
  have hcz4_7:=cellS72_7 HGz4
  have hcz4_8:=cellS72_8 HGz4
  have hfz4_2:=kF HGz4 2
  have hfz4_3:=kF HGz4 3
  have hfz4_4:=kF HGz4 4
  have hfz4_5:=kF HGz4 5
  have hfz4_6:=kF HGz4 6
  have hfz4_7:=kF HGz4 7
  clear HGz4 hgz4
  go_enter Try.func46,Try.ntmps46
  go_wp2
  go_ret
  exact ⟨by first|rfl|(simp [errW_none,errW_some] <;> rfl)|(simp [*,errW_none,errW_some] <;> rfl),by repeat (first|(with_reducible first|exact HI0.out|apply IsS72.alloc|apply IsS72.drewN|apply IsS72.drew|apply IsS72.set_2|apply IsS72.set_3|apply IsS72.set_4|apply IsS72.set_5|apply IsS72.set_6|apply IsS72.set_7)|exact HI0.out),by repeat (first|(with_reducible first|exact HB.out|apply bA|apply bN|apply bD|refine bS ?_ (IsS72.ge HI0.out))|exact HB.out),by repeat (first|(with_reducible first|exact HK.out|apply KeepBut.set_|apply keep_drewN|apply keep_drew|apply keep_alloc)|exact HK.out)⟩
 ·rw [if_neg c3] at H
  have c3b0 : decide (60 < (wrap64 (a1 + s0_5))) = false:=decide_eq_false c3
  clear c3
  simp only [Option.some.injEq,Prod.mk.injEq] at H
  obtain ⟨rfl,rfl,rfl,rfl,rfl,rfl,rfl⟩:=H
  obtain ⟨ASz5_0,cSz5_0,ASz5_1,cSz5_1,ASz5_8,cSz5_8,HGz5,hgz5,HSz5_0,HSz5_1,HSz5_8⟩:=HI0.out
  have hcz5_0:=cellS72_0 HGz5
  have hcz5_1:=cellS72_1 HGz5
  have hcz5_2:=cellS72_2 HGz5
  have hcz5_3:=cellS72_3 HGz5
  have hcz5_4:=cellS72_4 HGz5
  have hcz5_5:=cellS72_5 HGz5
  have hcz5_6:=cellS72_6 HGz5
  have hcz5_7:=cellS72_7 HGz5
  have hcz5_8:=cellS72_8 HGz5
  have hfz5_2:=kF HGz5 2
  have hfz5_3:=kF HGz5 3
  have hfz5_4:=kF HGz5 4
  have hfz5_5:=kF HGz5 5
  have hfz5_6:=kF HGz5 6
  have hfz5_7:=kF HGz5 7
  clear HGz5 hgz5
  go_enter Try.func46,Try.ntmps46
  go_wp2
  go_ret
  exact ⟨by first|rfl|(simp [errW_none,errW_some] <;> rfl)|(simp [*,errW_none,errW_some] <;> rfl),by repeat (first|(with_reducible first|exact HI0.out|apply IsS72.alloc|apply IsS72.drewN|apply IsS72.drew|apply IsS72.set_2|apply IsS72.set_3|apply IsS72.set_4|apply IsS72.set_5|apply IsS72.set_6|apply IsS72.set_7)|exact HI0.out),by repeat (first|(with_reducible first|exact HB.out|apply bA|apply bN|apply bD|refine bS ?_ (IsS72.ge HI0.out))|exact HB.out),by repeat (first|(with_reducible first|exact HK.out|apply KeepBut.set_|apply keep_drewN|apply keep_drew|apply keep_alloc)|exact HK.out)⟩

end Go.Proofs.Ytanjbdgmnecacaa.PE
