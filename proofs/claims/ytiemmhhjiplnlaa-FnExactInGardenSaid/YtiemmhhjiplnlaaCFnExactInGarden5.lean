/- The program's InGarden returns what the reference's InGarden returns, for all arguments. Conditions: none beyond the row's own reach. -/
import Derived.Test.YtiemmhhjiplnlaaCFnExactInGarden4
import Derived.Test.YtiemmhhjiplnlaaRows
namespace Go.Proofs.Ytiemmhhjiplnlaa.X
open Go.RowKit Go.Proofs.YtiemmhhjiplnlaaW.PrintWords Go.Proofs.YtiemmhhjiplnlaaW.PrintLast Go.Proofs.YtiemmhhjiplnlaaW.PrintMore
attribute [local go_sem] max2_int min2_int max_two min_two max_three min_three max_four min_four   -- for this text's walks alone
set_option linter.unusedVariables false
set_option linter.unusedSimpArgs false
open Go.Proofs.YtiemmhhjiplnlaaW.PrintWords renaming blk_drewN -> bDn
open Go.Proofs.YtiemmhhjiplnlaaW.PrintWords renaming blk_drew -> bDr
open Go.Proofs.YtiemmhhjiplnlaaW.PrintWords renaming blk_alloc -> bAl
open Go.Proofs.YtiemmhhjiplnlaaW.PrintWords renaming blk_frozen -> bFr
open Go.Proofs.YtiemmhhjiplnlaaW.PrintWords renaming blk_cell -> bCe
open Go.Proofs.YtiemmhhjiplnlaaW.PrintWords.Aside0 renaming mk -> aMk
open Go.World renaming block_lt_of_cell? -> wLt
open Go.Proofs.YtiemmhhjiplnlaaW.PrintWords renaming pw_below_drewN -> bwN
open Go.Proofs.YtiemmhhjiplnlaaW.PrintWords renaming below_drew1 -> bw1
open Go.Proofs.YtiemmhhjiplnlaaW.PrintWords renaming below_alloc -> bwA
section
/-! ### impl_InGarden: function 37 -/
def impl_InGarden.f (k : Nat) (a0_0 : Int) (a0_1 : Int) (a0_2 : Int) (a0_3 : ByteArray) (a0_4 : ByteArray) (a0_5 : Int) (l0_6 : List (S100)) (l0_7 : List (S54)) (a1 : Int) (a2 : Int) : Option (Bool × Int):=(impl_ConfigOK.f k a0_0 a0_1 a0_2 a0_3 a0_4 a0_5 l0_6 l0_7).bind fun t556 => (if t556 = true then ((impl_isAddress.f a1).bind fun t557 => (if t557 = true then ((impl_isPort.f a2).bind fun t558 => (if t558 = true then ((impl_Config_inGarden.f k a0_0 a0_1 a0_2 a0_3 a0_4 a0_5 l0_6 l0_7 a1 a2).bind fun t559 => (some (t559,0))) else (some (false,4)))) else (some (false,4)))) else (some (false,1)))
theorem impl_InGarden.mono : ∀ a0 a1 a2 a3 a4 a5 a6 a7 a8 a9 k,LeO (impl_InGarden.f k a0 a1 a2 a3 a4 a5 a6 a7 a8 a9) (impl_InGarden.f (k + 1) a0 a1 a2 a3 a4 a5 a6 a7 a8 a9):=by
 intro a0 a1 a2 a3 a4 a5 a6 a7 a8 a9 k
 unfold impl_InGarden.f
 repeat' first
   | (with_reducible exact impl_ConfigOK.mono ..)
   | (with_reducible exact impl_Config_inGarden.mono ..)
   | (with_reducible exact LeO.refl _)
   | (with_reducible exact LeO.none _)
   | (with_reducible refine LeO.ite ?_ ?_)
   | (with_reducible refine LeO.bind ?_ (fun _ => ?_))
   | exact impl_ConfigOK.mono ..
   | exact impl_Config_inGarden.mono ..
   | exact LeO.none _
   | refine LeO.ite ?_ ?_
   | refine LeO.bind ?_ (fun _ => ?_)
set_option maxHeartbeats 8000000 in
set_option maxRecDepth 100000 in
theorem impl_InGarden.calls (k : Nat) (a0_0 : Int) (a0_1 : Int) (a0_2 : Int) (a0_3 : ByteArray) (a0_4 : ByteArray) (a0_5 : Int) (A0_6 : Option Addr) (c0_6 : Nat) (l0_6 : List (S100)) (A0_7 : Option Addr) (c0_7 : Nat) (l0_7 : List (S54)) (a1 : Int) (a2 : Int) (r1 : Bool) (r2 : Int) (w : World) (hr0_6 : Kd.C k100 w A0_6 l0_6.length l0_6) (hc0_6 : l0_6.length ≤ c0_6) (hr0_7 : Kd.C k54 w A0_7 l0_7.length l0_7) (hc0_7 : l0_7.length ≤ c0_7) (h : impl_InGarden.f k a0_0 a0_1 a0_2 a0_3 a0_4 a0_5 l0_6 l0_7 a1 a2 = some (r1,r2)) :
  Calls Try.prog 37 #[.agg #[.int .i64 a0_0,.int .i64 a0_1,.int .i64 a0_2,.string a0_3,.string a0_4,.int .i64 a0_5,.slice A0_6 l0_6.length c0_6,.slice A0_7 l0_7.length c0_7],.int .i64 a1,.int .i64 a2] w fun e w' => e = .returned (.tuple #[.bool r1,.int .i64 r2]) ∧ Below w.heap.size w w':=by
 have hu70:=Try.underlying70
 have HRW0_6:=aMk hr0_6
 have HR0_6:=aMk hr0_6
 have HC0_6:=aMk hc0_6
 clear hr0_6 hc0_6
 have HRW0_7:=aMk hr0_7
 have HR0_7:=aMk hr0_7
 have HC0_7:=aMk hc0_7
 clear hr0_7 hc0_7
 have HB:=aMk (Below.refl w.heap.size w)
 have H : ((impl_ConfigOK.f k a0_0 a0_1 a0_2 a0_3 a0_4 a0_5 l0_6 l0_7).bind fun t556 => (if t556 = true then ((impl_isAddress.f a1).bind fun t557 => (if t557 = true then ((impl_isPort.f a2).bind fun t558 => (if t558 = true then ((impl_Config_inGarden.f k a0_0 a0_1 a0_2 a0_3 a0_4 a0_5 l0_6 l0_7 a1 a2).bind fun t559 => (some (t559,0))) else (some (false,4)))) else (some (false,4)))) else (some (false,1)))) = some (r1,r2):=h
 clear h
 replace H:=Option.bind_eq_some_iff.mp H
 obtain ⟨t556,A40,H⟩:=H
 replace H : (if t556 = true then ((impl_isAddress.f a1).bind fun t557 => (if t557 = true then ((impl_isPort.f a2).bind fun t558 => (if t558 = true then ((impl_Config_inGarden.f k a0_0 a0_1 a0_2 a0_3 a0_4 a0_5 l0_6 l0_7 a1 a2).bind fun t559 => (some (t559,0))) else (some (false,4)))) else (some (false,4)))) else (some (false,1))) = some (r1,r2):=H
 have A4:=aMk A40
 clear A40
 by_cases c5 : t556 = true
 ·subst c5
  have H1 : ((impl_isAddress.f a1).bind fun t557 => (if t557 = true then ((impl_isPort.f a2).bind fun t558 => (if t558 = true then ((impl_Config_inGarden.f k a0_0 a0_1 a0_2 a0_3 a0_4 a0_5 l0_6 l0_7 a1 a2).bind fun t559 => (some (t559,0))) else (some (false,4)))) else (some (false,4)))) = some (r1,r2):=by rw [if_pos rfl] at H;exact H
  clear H
  have H:=H1
  clear H1
  replace H:=Option.bind_eq_some_iff.mp H
  obtain ⟨t557,A60,H⟩:=H
  replace H : (if t557 = true then ((impl_isPort.f a2).bind fun t558 => (if t558 = true then ((impl_Config_inGarden.f k a0_0 a0_1 a0_2 a0_3 a0_4 a0_5 l0_6 l0_7 a1 a2).bind fun t559 => (some (t559,0))) else (some (false,4)))) else (some (false,4))) = some (r1,r2):=H
  have A6:=aMk A60
  clear A60
  by_cases c7 : t557 = true
  ·subst c7
   have H1 : ((impl_isPort.f a2).bind fun t558 => (if t558 = true then ((impl_Config_inGarden.f k a0_0 a0_1 a0_2 a0_3 a0_4 a0_5 l0_6 l0_7 a1 a2).bind fun t559 => (some (t559,0))) else (some (false,4)))) = some (r1,r2):=by rw [if_pos rfl] at H;exact H
   clear H
   have H:=H1
   clear H1
   replace H:=Option.bind_eq_some_iff.mp H
   obtain ⟨t558,A80,H⟩:=H
   replace H : (if t558 = true then ((impl_Config_inGarden.f k a0_0 a0_1 a0_2 a0_3 a0_4 a0_5 l0_6 l0_7 a1 a2).bind fun t559 => (some (t559,0))) else (some (false,4))) = some (r1,r2):=H
   have A8:=aMk A80
   clear A80
   by_cases c9 : t558 = true
   ·subst c9
    have H1 : ((impl_Config_inGarden.f k a0_0 a0_1 a0_2 a0_3 a0_4 a0_5 l0_6 l0_7 a1 a2).bind fun t559 => (some (t559,0))) = some (r1,r2):=by rw [if_pos rfl] at H;exact H
    clear H
    have H:=H1
    clear H1
    replace H:=Option.bind_eq_some_iff.mp H
    obtain ⟨t559,A100,H⟩:=H
    replace H : (some (t559,0)) = some (r1,r2):=H
    have A10:=aMk A100
    clear A100
    simp only [Option.some.injEq,Prod.mk.injEq] at H
    obtain ⟨rfl,rfl⟩:=H
    go_enter Try.func37,Try.ntmps37
    go_wp2_with (first|((with_reducible refine gate_dst (N:=3) rfl ?_);refine bxE (N:=3) (cs:=#[.int .i64 a0_0,.int .i64 a0_1,.int .i64 a0_2,.string a0_3,.string a0_4,.int .i64 a0_5,.slice A0_6 l0_6.length c0_6,.slice A0_7 l0_7.length c0_7]) (t:=70) ?_;intro gb555 hg w11 hbox hb;have n0_:=aMk (bSt hb);have n1_:=aMk ((show IsS70 w w11 gb555 a0_0 a0_1 a0_2 a0_3 a0_4 a0_5 l0_6 l0_7 from ⟨_,_,_,_,hbox,(by rw [hg];exact bSz : w.heap.size ≤ gb555),HRW0_6.out,HRW0_7.out⟩));clear HB;have HB:=n0_;have HI555:=n1_;clear n0_ n1_;have BX_:=hbox;clear hb hbox hg;have HGz12:=BX_;clear BX_;have hcz12_0:=cellS70_0 HGz12;have hcz12_1:=cellS70_1 HGz12;have hcz12_2:=cellS70_2 HGz12;have hcz12_3:=cellS70_3 HGz12;have hcz12_4:=cellS70_4 HGz12;have hcz12_5:=cellS70_5 HGz12;have hcz12_6:=cellS70_6 HGz12;have hcz12_7:=cellS70_7 HGz12;have hfz12_0:=bFr HGz12 0;have hfz12_1:=bFr HGz12 1;have hfz12_2:=bFr HGz12 2;have hfz12_3:=bFr HGz12 3;have hfz12_4:=bFr HGz12 4;have hfz12_5:=bFr HGz12 5;clear HGz12)|((with_reducible refine gate_callee (f:=34) rfl ?_);refine gLs 10 Try.func34 #[.agg #[.int .i64 a0_0,.int .i64 a0_1,.int .i64 a0_2,.string a0_3,.string a0_4,.int .i64 a0_5,.slice A0_6 l0_6.length c0_6,.slice A0_7 l0_7.length c0_7]] ?_;(with_reducible refine (impl_ConfigOK.calls k a0_0 a0_1 a0_2 a0_3 a0_4 a0_5 _ _ l0_6 _ _ l0_7 true _ ?side1 ?side2 ?side3 ?side4 A4.out).mono ?_);(case side1 => repeat (first|exact (Kd.C_below HR0_6.out HB.out)|(with_reducible refine Kd.C_alloc ?_ _)|(with_reducible refine Kd.C_drewN ?_ _)|(with_reducible refine Kd.C_drew ?_)));(case side2 => exact HC0_6.out);(case side3 => repeat (first|exact (Kd.C_below HR0_7.out HB.out)|(with_reducible refine Kd.C_alloc ?_ _)|(with_reducible refine Kd.C_drewN ?_ _)|(with_reducible refine Kd.C_drew ?_)));(case side4 => exact HC0_7.out);rintro e w13 ⟨rfl,hb⟩;refine ⟨_,rfl,?_⟩;have n0_:=aMk (IsS70.below (by repeat (first|(with_reducible first|exact HI555.out|apply IsS70.alloc|apply IsS70.drewN|apply IsS70.drew|apply IsS70.set_0|apply IsS70.set_1|apply IsS70.set_2|apply IsS70.set_3|apply IsS70.set_4|apply IsS70.set_5)|exact HI555.out)) hb);have n1_:=aMk (below_step (by repeat (first|(with_reducible first|exact HB.out|apply bwA|apply bwN|apply bw1|refine below_set ?_ (IsS70.ge HI555.out))|exact HB.out)) hb);clear HI555;clear HB;have HI555:=n0_;have HB:=n1_;clear n0_ n1_;(try clear hb);(try clear hb2);(try clear hk);(try clear hi))|((with_reducible refine gate_callee (f:=42) rfl ?_);refine gLs 14 Try.func42 #[.int .i64 a1] ?_;(with_reducible refine (impl_isAddress.calls a1 true _ A6.out).mono ?_);rintro e w' ⟨rfl,⟨nd,rfl⟩⟩;refine ⟨_,rfl,?_⟩)|(go_at_call 79;(with_reducible refine (impl_isPort.calls a2 true _ A8.out).mono ?_);rintro e w' ⟨rfl,⟨nd,rfl⟩⟩)|((with_reducible refine gate_callee (f:=80) rfl ?_);refine gLs 23 Try.func80 #[.pointer (some ⟨gb555,0,none⟩),.int .i64 a1,.int .i64 a2] ?_;(with_reducible refine (impl_Config_inGarden.calls k gb555 a0_0 a0_1 a0_2 a0_3 a0_4 a0_5 l0_6 l0_7 a1 a2 t559 w _ ?side1 ?side2 A10.out).mono ?_);(case side1 => repeat (first|(with_reducible first|exact HI555.out|apply IsS70.alloc|apply IsS70.drewN|apply IsS70.drew|apply IsS70.set_0|apply IsS70.set_1|apply IsS70.set_2|apply IsS70.set_3|apply IsS70.set_4|apply IsS70.set_5)|exact HI555.out));(case side2 => repeat (first|(with_reducible first|exact HB.out|apply bwA|apply bwN|apply bw1|refine below_set ?_ (IsS70.ge HI555.out))|exact HB.out));rintro e w14 ⟨rfl,hi,hb,hk⟩;refine ⟨_,rfl,?_⟩;have n0_:=aMk (hb);have n1_:=aMk (hi);clear HB;clear HI555;have HB:=n0_;have HI555:=n1_;clear n0_ n1_;(try clear hb);(try clear hb2);(try clear hk);(try clear hi)))
    go_ret2
    exact ⟨eRf,by repeat (first|(with_reducible first|exact HB.out|apply bwA|apply bwN|apply bw1|refine below_set ?_ (IsS70.ge HI555.out))|exact HB.out)⟩
   ·replace c9:=Bool.eq_false_iff.mpr c9
    subst c9
    have H1 : (some (false,4)) = some (r1,r2):=by rw [if_neg (show ¬ (false = true) by decide)] at H;exact H
    clear H
    have H:=H1
    clear H1
    simp only [Option.some.injEq,Prod.mk.injEq] at H
    obtain ⟨rfl,rfl⟩:=H
    go_enter Try.func37,Try.ntmps37
    go_wp2_with (first|((with_reducible refine gate_dst (N:=3) rfl ?_);refine bxE (N:=3) (cs:=#[.int .i64 a0_0,.int .i64 a0_1,.int .i64 a0_2,.string a0_3,.string a0_4,.int .i64 a0_5,.slice A0_6 l0_6.length c0_6,.slice A0_7 l0_7.length c0_7]) (t:=70) ?_;intro gb555 hg w15 hbox hb;have n0_:=aMk (bSt hb);have n1_:=aMk ((show IsS70 w w15 gb555 a0_0 a0_1 a0_2 a0_3 a0_4 a0_5 l0_6 l0_7 from ⟨_,_,_,_,hbox,(by rw [hg];exact bSz : w.heap.size ≤ gb555),HRW0_6.out,HRW0_7.out⟩));clear HB;have HB:=n0_;have HI555:=n1_;clear n0_ n1_;have BX_:=hbox;clear hb hbox hg;have HGz16:=BX_;clear BX_;have hcz16_0:=cellS70_0 HGz16;have hcz16_1:=cellS70_1 HGz16;have hcz16_2:=cellS70_2 HGz16;have hcz16_3:=cellS70_3 HGz16;have hcz16_4:=cellS70_4 HGz16;have hcz16_5:=cellS70_5 HGz16;have hcz16_6:=cellS70_6 HGz16;have hcz16_7:=cellS70_7 HGz16;have hfz16_0:=bFr HGz16 0;have hfz16_1:=bFr HGz16 1;have hfz16_2:=bFr HGz16 2;have hfz16_3:=bFr HGz16 3;have hfz16_4:=bFr HGz16 4;have hfz16_5:=bFr HGz16 5;clear HGz16)|((with_reducible refine gate_callee (f:=34) rfl ?_);refine gLs 10 Try.func34 #[.agg #[.int .i64 a0_0,.int .i64 a0_1,.int .i64 a0_2,.string a0_3,.string a0_4,.int .i64 a0_5,.slice A0_6 l0_6.length c0_6,.slice A0_7 l0_7.length c0_7]] ?_;(with_reducible refine (impl_ConfigOK.calls k a0_0 a0_1 a0_2 a0_3 a0_4 a0_5 _ _ l0_6 _ _ l0_7 true _ ?side1 ?side2 ?side3 ?side4 A4.out).mono ?_);(case side1 => repeat (first|exact (Kd.C_below HR0_6.out HB.out)|(with_reducible refine Kd.C_alloc ?_ _)|(with_reducible refine Kd.C_drewN ?_ _)|(with_reducible refine Kd.C_drew ?_)));(case side2 => exact HC0_6.out);(case side3 => repeat (first|exact (Kd.C_below HR0_7.out HB.out)|(with_reducible refine Kd.C_alloc ?_ _)|(with_reducible refine Kd.C_drewN ?_ _)|(with_reducible refine Kd.C_drew ?_)));(case side4 => exact HC0_7.out);rintro e w17 ⟨rfl,hb⟩;refine ⟨_,rfl,?_⟩;have n0_:=aMk (IsS70.below (by repeat (first|(with_reducible first|exact HI555.out|apply IsS70.alloc|apply IsS70.drewN|apply IsS70.drew|apply IsS70.set_0|apply IsS70.set_1|apply IsS70.set_2|apply IsS70.set_3|apply IsS70.set_4|apply IsS70.set_5)|exact HI555.out)) hb);have n1_:=aMk (below_step (by repeat (first|(with_reducible first|exact HB.out|apply bwA|apply bwN|apply bw1|refine below_set ?_ (IsS70.ge HI555.out))|exact HB.out)) hb);clear HI555;clear HB;have HI555:=n0_;have HB:=n1_;clear n0_ n1_;(try clear hb);(try clear hb2);(try clear hk);(try clear hi))|((with_reducible refine gate_callee (f:=42) rfl ?_);refine gLs 14 Try.func42 #[.int .i64 a1] ?_;(with_reducible refine (impl_isAddress.calls a1 true _ A6.out).mono ?_);rintro e w' ⟨rfl,⟨nd,rfl⟩⟩;refine ⟨_,rfl,?_⟩)|(go_at_call 79;(with_reducible refine (impl_isPort.calls a2 false _ A8.out).mono ?_);rintro e w' ⟨rfl,⟨nd,rfl⟩⟩))
    go_ret2
    exact ⟨eRf,by repeat (first|(with_reducible first|exact HB.out|apply bwA|apply bwN|apply bw1|refine below_set ?_ (IsS70.ge HI555.out))|exact HB.out)⟩
  ·replace c7:=Bool.eq_false_iff.mpr c7
   subst c7
   have H1 : (some (false,4)) = some (r1,r2):=by rw [if_neg (show ¬ (false = true) by decide)] at H;exact H
   clear H
   have H:=H1
   clear H1
   simp only [Option.some.injEq,Prod.mk.injEq] at H
   obtain ⟨rfl,rfl⟩:=H
   go_enter Try.func37,Try.ntmps37
   go_wp2_with (first|((with_reducible refine gate_dst (N:=3) rfl ?_);refine bxE (N:=3) (cs:=#[.int .i64 a0_0,.int .i64 a0_1,.int .i64 a0_2,.string a0_3,.string a0_4,.int .i64 a0_5,.slice A0_6 l0_6.length c0_6,.slice A0_7 l0_7.length c0_7]) (t:=70) ?_;intro gb555 hg w18 hbox hb;have n0_:=aMk (bSt hb);have n1_:=aMk ((show IsS70 w w18 gb555 a0_0 a0_1 a0_2 a0_3 a0_4 a0_5 l0_6 l0_7 from ⟨_,_,_,_,hbox,(by rw [hg];exact bSz : w.heap.size ≤ gb555),HRW0_6.out,HRW0_7.out⟩));clear HB;have HB:=n0_;have HI555:=n1_;clear n0_ n1_;have BX_:=hbox;clear hb hbox hg;have HGz19:=BX_;clear BX_;have hcz19_0:=cellS70_0 HGz19;have hcz19_1:=cellS70_1 HGz19;have hcz19_2:=cellS70_2 HGz19;have hcz19_3:=cellS70_3 HGz19;have hcz19_4:=cellS70_4 HGz19;have hcz19_5:=cellS70_5 HGz19;have hcz19_6:=cellS70_6 HGz19;have hcz19_7:=cellS70_7 HGz19;have hfz19_0:=bFr HGz19 0;have hfz19_1:=bFr HGz19 1;have hfz19_2:=bFr HGz19 2;have hfz19_3:=bFr HGz19 3;have hfz19_4:=bFr HGz19 4;have hfz19_5:=bFr HGz19 5;clear HGz19)|((with_reducible refine gate_callee (f:=34) rfl ?_);refine gLs 10 Try.func34 #[.agg #[.int .i64 a0_0,.int .i64 a0_1,.int .i64 a0_2,.string a0_3,.string a0_4,.int .i64 a0_5,.slice A0_6 l0_6.length c0_6,.slice A0_7 l0_7.length c0_7]] ?_;(with_reducible refine (impl_ConfigOK.calls k a0_0 a0_1 a0_2 a0_3 a0_4 a0_5 _ _ l0_6 _ _ l0_7 true _ ?side1 ?side2 ?side3 ?side4 A4.out).mono ?_);(case side1 => repeat (first|exact (Kd.C_below HR0_6.out HB.out)|(with_reducible refine Kd.C_alloc ?_ _)|(with_reducible refine Kd.C_drewN ?_ _)|(with_reducible refine Kd.C_drew ?_)));(case side2 => exact HC0_6.out);(case side3 => repeat (first|exact (Kd.C_below HR0_7.out HB.out)|(with_reducible refine Kd.C_alloc ?_ _)|(with_reducible refine Kd.C_drewN ?_ _)|(with_reducible refine Kd.C_drew ?_)));(case side4 => exact HC0_7.out);rintro e w20 ⟨rfl,hb⟩;refine ⟨_,rfl,?_⟩;have n0_:=aMk (IsS70.below (by repeat (first|(with_reducible first|exact HI555.out|apply IsS70.alloc|apply IsS70.drewN|apply IsS70.drew|apply IsS70.set_0|apply IsS70.set_1|apply IsS70.set_2|apply IsS70.set_3|apply IsS70.set_4|apply IsS70.set_5)|exact HI555.out)) hb);have n1_:=aMk (below_step (by repeat (first|(with_reducible first|exact HB.out|apply bwA|apply bwN|apply bw1|refine below_set ?_ (IsS70.ge HI555.out))|exact HB.out)) hb);clear HI555;clear HB;have HI555:=n0_;have HB:=n1_;clear n0_ n1_;(try clear hb);(try clear hb2);(try clear hk);(try clear hi))|((with_reducible refine gate_callee (f:=42) rfl ?_);refine gLs 14 Try.func42 #[.int .i64 a1] ?_;(with_reducible refine (impl_isAddress.calls a1 false _ A6.out).mono ?_);rintro e w' ⟨rfl,⟨nd,rfl⟩⟩;refine ⟨_,rfl,?_⟩))
   go_ret2
   exact ⟨eRf,by repeat (first|(with_reducible first|exact HB.out|apply bwA|apply bwN|apply bw1|refine below_set ?_ (IsS70.ge HI555.out))|exact HB.out)⟩
 ·replace c5:=Bool.eq_false_iff.mpr c5
  subst c5
  have H1 : (some (false,1)) = some (r1,r2):=by rw [if_neg (show ¬ (false = true) by decide)] at H;exact H
  clear H
  have H:=H1
  clear H1
  simp only [Option.some.injEq,Prod.mk.injEq] at H
  obtain ⟨rfl,rfl⟩:=H
  go_enter Try.func37,Try.ntmps37
  go_wp2_with (first|((with_reducible refine gate_dst (N:=3) rfl ?_);refine bxE (N:=3) (cs:=#[.int .i64 a0_0,.int .i64 a0_1,.int .i64 a0_2,.string a0_3,.string a0_4,.int .i64 a0_5,.slice A0_6 l0_6.length c0_6,.slice A0_7 l0_7.length c0_7]) (t:=70) ?_;intro gb555 hg w21 hbox hb;have n0_:=aMk (bSt hb);have n1_:=aMk ((show IsS70 w w21 gb555 a0_0 a0_1 a0_2 a0_3 a0_4 a0_5 l0_6 l0_7 from ⟨_,_,_,_,hbox,(by rw [hg];exact bSz : w.heap.size ≤ gb555),HRW0_6.out,HRW0_7.out⟩));clear HB;have HB:=n0_;have HI555:=n1_;clear n0_ n1_;have BX_:=hbox;clear hb hbox hg;have HGz22:=BX_;clear BX_;have hcz22_0:=cellS70_0 HGz22;have hcz22_1:=cellS70_1 HGz22;have hcz22_2:=cellS70_2 HGz22;have hcz22_3:=cellS70_3 HGz22;have hcz22_4:=cellS70_4 HGz22;have hcz22_5:=cellS70_5 HGz22;have hcz22_6:=cellS70_6 HGz22;have hcz22_7:=cellS70_7 HGz22;have hfz22_0:=bFr HGz22 0;have hfz22_1:=bFr HGz22 1;have hfz22_2:=bFr HGz22 2;have hfz22_3:=bFr HGz22 3;have hfz22_4:=bFr HGz22 4;have hfz22_5:=bFr HGz22 5;clear HGz22)|((with_reducible refine gate_callee (f:=34) rfl ?_);refine gLs 10 Try.func34 #[.agg #[.int .i64 a0_0,.int .i64 a0_1,.int .i64 a0_2,.string a0_3,.string a0_4,.int .i64 a0_5,.slice A0_6 l0_6.length c0_6,.slice A0_7 l0_7.length c0_7]] ?_;(with_reducible refine (impl_ConfigOK.calls k a0_0 a0_1 a0_2 a0_3 a0_4 a0_5 _ _ l0_6 _ _ l0_7 false _ ?side1 ?side2 ?side3 ?side4 A4.out).mono ?_);(case side1 => repeat (first|exact (Kd.C_below HR0_6.out HB.out)|(with_reducible refine Kd.C_alloc ?_ _)|(with_reducible refine Kd.C_drewN ?_ _)|(with_reducible refine Kd.C_drew ?_)));(case side2 => exact HC0_6.out);(case side3 => repeat (first|exact (Kd.C_below HR0_7.out HB.out)|(with_reducible refine Kd.C_alloc ?_ _)|(with_reducible refine Kd.C_drewN ?_ _)|(with_reducible refine Kd.C_drew ?_)));(case side4 => exact HC0_7.out);rintro e w23 ⟨rfl,hb⟩;refine ⟨_,rfl,?_⟩;have n0_:=aMk (IsS70.below (by repeat (first|(with_reducible first|exact HI555.out|apply IsS70.alloc|apply IsS70.drewN|apply IsS70.drew|apply IsS70.set_0|apply IsS70.set_1|apply IsS70.set_2|apply IsS70.set_3|apply IsS70.set_4|apply IsS70.set_5)|exact HI555.out)) hb);have n1_:=aMk (below_step (by repeat (first|(with_reducible first|exact HB.out|apply bwA|apply bwN|apply bw1|refine below_set ?_ (IsS70.ge HI555.out))|exact HB.out)) hb);clear HI555;clear HB;have HI555:=n0_;have HB:=n1_;clear n0_ n1_;(try clear hb);(try clear hb2);(try clear hk);(try clear hi)))
  go_ret2
  exact ⟨eRf,by repeat (first|(with_reducible first|exact HB.out|apply bwA|apply bwN|apply bw1|refine below_set ?_ (IsS70.ge HI555.out))|exact HB.out)⟩
end
section
/-! ### laws_FnExactInGarden: function 10 -/
def laws_FnExactInGarden.j0 : Nat → Bool → Int → Int → Int → ByteArray → ByteArray → Int → List (S116) → List (S49) → Int → Int → Int → ByteArray → ByteArray → Int → List (S100) → List (S54) → Option (Bool)
 | 0,_,_,_,_,_,_,_,_,_,_,_,_,_,_,_,_,_ => none
 | k + 1,x42,x561000,x561001,x561002,x561003,x561004,x561005,x561006,x561007,x589000,x589001,x589002,x589003,x589004,x589005,x589006,x589007 => if x42 = true then (some false) else ((laws_toConfig.f k x561000 x561001 x561002 x561003 x561004 x561005 x561006 x561007).bind fun bt591 => ((laws_eqConfig.f k x589000 x589001 x589002 x589003 x589004 x589005 x589006 x589007 bt591.1 bt591.2.1 bt591.2.2.1 bt591.2.2.2.1 bt591.2.2.2.2.1 bt591.2.2.2.2.2.1 bt591.2.2.2.2.2.2.1 bt591.2.2.2.2.2.2.2).bind fun t603 => (if t603 = true then (some true) else (some false))))
def laws_FnExactInGarden.f (k : Nat) (a0_0 : Int) (a0_1 : Int) (a0_2 : Int) (a0_3 : ByteArray) (a0_4 : ByteArray) (a0_5 : Int) (l0_6 : List (S116)) (l0_7 : List (S49)) (a1 : Int) (a2 : Int) : Option (Bool):=(laws_szConfig.f k a0_0 a0_1 a0_2 a0_3 a0_4 a0_5 l0_6 l0_7 1048576).bind fun t561 => (if t561 < 0 then (some true) else ((laws_toConfig.f k a0_0 a0_1 a0_2 a0_3 a0_4 a0_5 l0_6 l0_7).bind fun bt562 => ((spec_InGarden.f k bt562.1 bt562.2.1 bt562.2.2.1 bt562.2.2.2.1 bt562.2.2.2.2.1 bt562.2.2.2.2.2.1 bt562.2.2.2.2.2.2.1 bt562.2.2.2.2.2.2.2 a1 a2).bind fun bt574 => ((laws_toConfig.f k a0_0 a0_1 a0_2 a0_3 a0_4 a0_5 l0_6 l0_7).bind fun bt576 => ((impl_InGarden.f k bt576.1 bt576.2.1 bt576.2.2.1 bt576.2.2.2.1 bt576.2.2.2.2.1 bt576.2.2.2.2.2.1 bt576.2.2.2.2.2.2.1 bt576.2.2.2.2.2.2.2 a1 a2).bind fun bt589 => (if (bt589.1 != bt574.1) = true then (laws_FnExactInGarden.j0 k true a0_0 a0_1 a0_2 a0_3 a0_4 a0_5 l0_6 l0_7 bt576.1 bt576.2.1 bt576.2.2.1 bt576.2.2.2.1 bt576.2.2.2.2.1 bt576.2.2.2.2.2.1 bt576.2.2.2.2.2.2.1 bt576.2.2.2.2.2.2.2) else (laws_FnExactInGarden.j0 k (bt589.2 != bt574.2) a0_0 a0_1 a0_2 a0_3 a0_4 a0_5 l0_6 l0_7 bt576.1 bt576.2.1 bt576.2.2.1 bt576.2.2.2.1 bt576.2.2.2.2.1 bt576.2.2.2.2.2.1 bt576.2.2.2.2.2.2.1 bt576.2.2.2.2.2.2.2)))))))
theorem laws_FnExactInGarden.mono_l : ∀ k,(∀ y0 y1 y2 y3 y4 y5 y6 y7 y8 y9 y10 y11 y12 y13 y14 y15 y16,LeO (laws_FnExactInGarden.j0 k y0 y1 y2 y3 y4 y5 y6 y7 y8 y9 y10 y11 y12 y13 y14 y15 y16) (laws_FnExactInGarden.j0 (k + 1) y0 y1 y2 y3 y4 y5 y6 y7 y8 y9 y10 y11 y12 y13 y14 y15 y16))
 | 0 => fun _ _ _ _ _ _ _ _ _ _ _ _ _ _ _ _ _ r h => by simp [laws_FnExactInGarden.j0] at h
 | k + 1 => by
  have ih0:=laws_FnExactInGarden.mono_l k
  ·intro y0 y1 y2 y3 y4 y5 y6 y7 y8 y9 y10 y11 y12 y13 y14 y15 y16
   unfold laws_FnExactInGarden.j0
   repeat' first
   | (with_reducible exact ih0 _ _ _ _ _ _ _ _ _ _ _ _ _ _ _ _ _)
   | (with_reducible exact impl_InGarden.mono ..)
   | (with_reducible exact laws_eqConfig.mono ..)
   | (with_reducible exact laws_szConfig.mono ..)
   | (with_reducible exact laws_toConfig.mono ..)
   | (with_reducible exact spec_InGarden.mono ..)
   | (with_reducible exact LeO.refl _)
   | (with_reducible exact LeO.none _)
   | (with_reducible refine LeO.ite ?_ ?_)
   | (with_reducible refine LeO.bind ?_ (fun _ => ?_))
   | exact ih0 _ _ _ _ _ _ _ _ _ _ _ _ _ _ _ _ _
   | exact impl_InGarden.mono ..
   | exact laws_eqConfig.mono ..
   | exact laws_szConfig.mono ..
   | exact laws_toConfig.mono ..
   | exact spec_InGarden.mono ..
   | exact LeO.none _
   | refine LeO.ite ?_ ?_
   | refine LeO.bind ?_ (fun _ => ?_)
theorem laws_FnExactInGarden.mono : ∀ a0 a1 a2 a3 a4 a5 a6 a7 a8 a9 k,LeO (laws_FnExactInGarden.f k a0 a1 a2 a3 a4 a5 a6 a7 a8 a9) (laws_FnExactInGarden.f (k + 1) a0 a1 a2 a3 a4 a5 a6 a7 a8 a9):=by
 intro a0 a1 a2 a3 a4 a5 a6 a7 a8 a9 k
 have ih0:=laws_FnExactInGarden.mono_l k
 unfold laws_FnExactInGarden.f
 repeat' first
   | (with_reducible exact ih0 _ _ _ _ _ _ _ _ _ _ _ _ _ _ _ _ _)
   | (with_reducible exact impl_InGarden.mono ..)
   | (with_reducible exact laws_eqConfig.mono ..)
   | (with_reducible exact laws_szConfig.mono ..)
   | (with_reducible exact laws_toConfig.mono ..)
   | (with_reducible exact spec_InGarden.mono ..)
   | (with_reducible exact LeO.refl _)
   | (with_reducible exact LeO.none _)
   | (with_reducible refine LeO.ite ?_ ?_)
   | (with_reducible refine LeO.bind ?_ (fun _ => ?_))
   | exact ih0 _ _ _ _ _ _ _ _ _ _ _ _ _ _ _ _ _
   | exact impl_InGarden.mono ..
   | exact laws_eqConfig.mono ..
   | exact laws_szConfig.mono ..
   | exact laws_toConfig.mono ..
   | exact spec_InGarden.mono ..
   | exact LeO.none _
   | refine LeO.ite ?_ ?_
   | refine LeO.bind ?_ (fun _ => ?_)
set_option maxHeartbeats 8000000 in
set_option maxRecDepth 100000 in
theorem laws_FnExactInGarden.calls (k : Nat) (a0_0 : Int) (a0_1 : Int) (a0_2 : Int) (a0_3 : ByteArray) (a0_4 : ByteArray) (a0_5 : Int) (A0_6 : Option Addr) (c0_6 : Nat) (l0_6 : List (S116)) (A0_7 : Option Addr) (c0_7 : Nat) (l0_7 : List (S49)) (a1 : Int) (a2 : Int) (r : Bool) (w : World) (hr0_6 : Kd.C k116 w A0_6 l0_6.length l0_6) (hc0_6 : l0_6.length ≤ c0_6) (hr0_7 : Kd.C k49 w A0_7 l0_7.length l0_7) (hc0_7 : l0_7.length ≤ c0_7) (h : laws_FnExactInGarden.f k a0_0 a0_1 a0_2 a0_3 a0_4 a0_5 l0_6 l0_7 a1 a2 = some r) :
  Calls Try.prog 10 #[.agg #[.int .i64 a0_0,.int .i64 a0_1,.int .i64 a0_2,.string a0_3,.string a0_4,.int .i64 a0_5,.slice A0_6 l0_6.length c0_6,.slice A0_7 l0_7.length c0_7],.int .i64 a1,.int .i64 a2] w fun e w' => e = .returned (.bool r) ∧ Below w.heap.size w w':=by
 have hu64:=Try.underlying64
 have hu70:=Try.underlying70
 have HR0_6:=aMk hr0_6
 have HC0_6:=aMk hc0_6
 clear hr0_6 hc0_6
 have HR0_7:=aMk hr0_7
 have HC0_7:=aMk hc0_7
 clear hr0_7 hc0_7
 have HB:=aMk (Below.refl w.heap.size w)
 have H : ((laws_szConfig.f k a0_0 a0_1 a0_2 a0_3 a0_4 a0_5 l0_6 l0_7 1048576).bind fun t561 => (if t561 < 0 then (some true) else ((laws_toConfig.f k a0_0 a0_1 a0_2 a0_3 a0_4 a0_5 l0_6 l0_7).bind fun bt562 => ((spec_InGarden.f k bt562.1 bt562.2.1 bt562.2.2.1 bt562.2.2.2.1 bt562.2.2.2.2.1 bt562.2.2.2.2.2.1 bt562.2.2.2.2.2.2.1 bt562.2.2.2.2.2.2.2 a1 a2).bind fun bt574 => ((laws_toConfig.f k a0_0 a0_1 a0_2 a0_3 a0_4 a0_5 l0_6 l0_7).bind fun bt576 => ((impl_InGarden.f k bt576.1 bt576.2.1 bt576.2.2.1 bt576.2.2.2.1 bt576.2.2.2.2.1 bt576.2.2.2.2.2.1 bt576.2.2.2.2.2.2.1 bt576.2.2.2.2.2.2.2 a1 a2).bind fun bt589 => (if (bt589.1 != bt574.1) = true then (laws_FnExactInGarden.j0 k true a0_0 a0_1 a0_2 a0_3 a0_4 a0_5 l0_6 l0_7 bt576.1 bt576.2.1 bt576.2.2.1 bt576.2.2.2.1 bt576.2.2.2.2.1 bt576.2.2.2.2.2.1 bt576.2.2.2.2.2.2.1 bt576.2.2.2.2.2.2.2) else (laws_FnExactInGarden.j0 k (bt589.2 != bt574.2) a0_0 a0_1 a0_2 a0_3 a0_4 a0_5 l0_6 l0_7 bt576.1 bt576.2.1 bt576.2.2.1 bt576.2.2.2.1 bt576.2.2.2.2.1 bt576.2.2.2.2.2.1 bt576.2.2.2.2.2.2.1 bt576.2.2.2.2.2.2.2)))))))) = some r:=h
 clear h
 replace H:=Option.bind_eq_some_iff.mp H
 obtain ⟨t561,A40,H⟩:=H
 replace H : (if t561 < 0 then (some true) else ((laws_toConfig.f k a0_0 a0_1 a0_2 a0_3 a0_4 a0_5 l0_6 l0_7).bind fun bt562 => ((spec_InGarden.f k bt562.1 bt562.2.1 bt562.2.2.1 bt562.2.2.2.1 bt562.2.2.2.2.1 bt562.2.2.2.2.2.1 bt562.2.2.2.2.2.2.1 bt562.2.2.2.2.2.2.2 a1 a2).bind fun bt574 => ((laws_toConfig.f k a0_0 a0_1 a0_2 a0_3 a0_4 a0_5 l0_6 l0_7).bind fun bt576 => ((impl_InGarden.f k bt576.1 bt576.2.1 bt576.2.2.1 bt576.2.2.2.1 bt576.2.2.2.2.1 bt576.2.2.2.2.2.1 bt576.2.2.2.2.2.2.1 bt576.2.2.2.2.2.2.2 a1 a2).bind fun bt589 => (if (bt589.1 != bt574.1) = true then (laws_FnExactInGarden.j0 k true a0_0 a0_1 a0_2 a0_3 a0_4 a0_5 l0_6 l0_7 bt576.1 bt576.2.1 bt576.2.2.1 bt576.2.2.2.1 bt576.2.2.2.2.1 bt576.2.2.2.2.2.1 bt576.2.2.2.2.2.2.1 bt576.2.2.2.2.2.2.2) else (laws_FnExactInGarden.j0 k (bt589.2 != bt574.2) a0_0 a0_1 a0_2 a0_3 a0_4 a0_5 l0_6 l0_7 bt576.1 bt576.2.1 bt576.2.2.1 bt576.2.2.2.1 bt576.2.2.2.2.1 bt576.2.2.2.2.2.1 bt576.2.2.2.2.2.2.1 bt576.2.2.2.2.2.2.2))))))) = some r:=H
 have A4:=aMk A40
 clear A40
 by_cases c5 : t561 < 0
 ·rw [if_pos c5] at H
  have c5b0 : decide (t561 < 0) = true:=decide_eq_true c5
  clear c5
  obtain rfl:=Option.some.inj H
  go_enter Try.func10,Try.ntmps10
  go_wp2_with (first|((with_reducible refine gate_dst (N:=3) rfl ?_);refine bxE (N:=3) (cs:=#[.int .i64 a0_0,.int .i64 a0_1,.int .i64 a0_2,.string a0_3,.string a0_4,.int .i64 a0_5,.slice A0_6 l0_6.length c0_6,.slice A0_7 l0_7.length c0_7]) (t:=64) ?_;intro gb560 hg w6 hbox hb;have n0_:=aMk (bSt hb);have n1_:=aMk (hbox);have n2_:=aMk ((by rw [hg];exact bSz : w.heap.size ≤ gb560));have n3_:=aMk ((by rw [hg];exact bSz : w.heap.size ≤ gb560));clear HB;have HB:=n0_;have BK560:=n1_;have GW560:=n2_;have GE560:=n3_;clear n0_ n1_ n2_ n3_;clear hb hbox hg;obtain ⟨hcz7_0,hcz7_1,hcz7_2,hcz7_3,hcz7_4,hcz7_5,hcz7_6,hcz7_7,hfz7_0,hfz7_1,hfz7_2,hfz7_3,hfz7_4,hfz7_5,hfz7_6,hfz7_7⟩:=bC8 BK560.out)|((with_reducible refine gate_callee (f:=31) rfl ?_);refine gLs 15 Try.func31 #[.agg #[.int .i64 a0_0,.int .i64 a0_1,.int .i64 a0_2,.string a0_3,.string a0_4,.int .i64 a0_5,.slice A0_6 l0_6.length c0_6,.slice A0_7 l0_7.length c0_7],.int .i64 1048576] ?_;(with_reducible refine (laws_szConfig.calls k a0_0 a0_1 a0_2 a0_3 a0_4 a0_5 _ _ l0_6 _ _ l0_7 1048576 t561 _ ?side1 ?side2 ?side3 ?side4 A4.out).mono ?_);(case side1 => repeat (first|exact (Kd.C_below HR0_6.out HB.out)|(with_reducible refine Kd.C_alloc ?_ _)|(with_reducible refine Kd.C_drewN ?_ _)|(with_reducible refine Kd.C_drew ?_)));(case side2 => exact HC0_6.out);(case side3 => repeat (first|exact (Kd.C_below HR0_7.out HB.out)|(with_reducible refine Kd.C_alloc ?_ _)|(with_reducible refine Kd.C_drewN ?_ _)|(with_reducible refine Kd.C_drew ?_)));(case side4 => exact HC0_7.out);rintro e w8 ⟨rfl,hb⟩;refine ⟨_,rfl,?_⟩;have n0_:=aMk (bkB BK560.out hb);have n1_:=aMk (below_step (by repeat (first|(with_reducible first|exact HB.out|apply bwA|apply bwN|apply bw1|refine below_set ?_ GE560.out)|exact HB.out)) hb);clear BK560;clear HB;have BK560:=n0_;have HB:=n1_;clear n0_ n1_;(try clear hb);(try clear hb2);(try clear hk);(try clear hi)))
  go_ret
  exact ⟨eRf,by repeat (first|(with_reducible first|exact HB.out|apply bwA|apply bwN|apply bw1|refine below_set ?_ GE560.out)|exact HB.out)⟩
 ·rw [if_neg c5] at H
  have c5b0 : decide (t561 < 0) = false:=decide_eq_false c5
  clear c5
  replace H:=Option.bind_eq_some_iff.mp H
  obtain ⟨⟨t562,t563,t564,t565,t566,t567,t568,t571⟩,A90,H⟩:=H
  replace H : ((spec_InGarden.f k t562 t563 t564 t565 t566 t567 t568 t571 a1 a2).bind fun bt574 => ((laws_toConfig.f k a0_0 a0_1 a0_2 a0_3 a0_4 a0_5 l0_6 l0_7).bind fun bt576 => ((impl_InGarden.f k bt576.1 bt576.2.1 bt576.2.2.1 bt576.2.2.2.1 bt576.2.2.2.2.1 bt576.2.2.2.2.2.1 bt576.2.2.2.2.2.2.1 bt576.2.2.2.2.2.2.2 a1 a2).bind fun bt589 => (if (bt589.1 != bt574.1) = true then (laws_FnExactInGarden.j0 k true a0_0 a0_1 a0_2 a0_3 a0_4 a0_5 l0_6 l0_7 bt576.1 bt576.2.1 bt576.2.2.1 bt576.2.2.2.1 bt576.2.2.2.2.1 bt576.2.2.2.2.2.1 bt576.2.2.2.2.2.2.1 bt576.2.2.2.2.2.2.2) else (laws_FnExactInGarden.j0 k (bt589.2 != bt574.2) a0_0 a0_1 a0_2 a0_3 a0_4 a0_5 l0_6 l0_7 bt576.1 bt576.2.1 bt576.2.2.1 bt576.2.2.2.1 bt576.2.2.2.2.1 bt576.2.2.2.2.2.1 bt576.2.2.2.2.2.2.1 bt576.2.2.2.2.2.2.2))))) = some r:=H
  have A9:=aMk A90
  clear A90
  replace H:=Option.bind_eq_some_iff.mp H
  obtain ⟨⟨t574,t575⟩,A100,H⟩:=H
  replace H : ((laws_toConfig.f k a0_0 a0_1 a0_2 a0_3 a0_4 a0_5 l0_6 l0_7).bind fun bt576 => ((impl_InGarden.f k bt576.1 bt576.2.1 bt576.2.2.1 bt576.2.2.2.1 bt576.2.2.2.2.1 bt576.2.2.2.2.2.1 bt576.2.2.2.2.2.2.1 bt576.2.2.2.2.2.2.2 a1 a2).bind fun bt589 => (if (bt589.1 != t574) = true then (laws_FnExactInGarden.j0 k true a0_0 a0_1 a0_2 a0_3 a0_4 a0_5 l0_6 l0_7 bt576.1 bt576.2.1 bt576.2.2.1 bt576.2.2.2.1 bt576.2.2.2.2.1 bt576.2.2.2.2.2.1 bt576.2.2.2.2.2.2.1 bt576.2.2.2.2.2.2.2) else (laws_FnExactInGarden.j0 k (bt589.2 != t575) a0_0 a0_1 a0_2 a0_3 a0_4 a0_5 l0_6 l0_7 bt576.1 bt576.2.1 bt576.2.2.1 bt576.2.2.2.1 bt576.2.2.2.2.1 bt576.2.2.2.2.2.1 bt576.2.2.2.2.2.2.1 bt576.2.2.2.2.2.2.2)))) = some r:=H
  have A10:=aMk A100
  clear A100
  replace H:=Option.bind_eq_some_iff.mp H
  obtain ⟨⟨t576,t577,t578,t579,t580,t581,t582,t585⟩,A110,H⟩:=H
  replace H : ((impl_InGarden.f k t576 t577 t578 t579 t580 t581 t582 t585 a1 a2).bind fun bt589 => (if (bt589.1 != t574) = true then (laws_FnExactInGarden.j0 k true a0_0 a0_1 a0_2 a0_3 a0_4 a0_5 l0_6 l0_7 t576 t577 t578 t579 t580 t581 t582 t585) else (laws_FnExactInGarden.j0 k (bt589.2 != t575) a0_0 a0_1 a0_2 a0_3 a0_4 a0_5 l0_6 l0_7 t576 t577 t578 t579 t580 t581 t582 t585))) = some r:=H
  have A11:=aMk A110
  clear A110
  replace H:=Option.bind_eq_some_iff.mp H
  obtain ⟨⟨t589,t590⟩,A120,H⟩:=H
  replace H : (if (t589 != t574) = true then (laws_FnExactInGarden.j0 k true a0_0 a0_1 a0_2 a0_3 a0_4 a0_5 l0_6 l0_7 t576 t577 t578 t579 t580 t581 t582 t585) else (laws_FnExactInGarden.j0 k (t590 != t575) a0_0 a0_1 a0_2 a0_3 a0_4 a0_5 l0_6 l0_7 t576 t577 t578 t579 t580 t581 t582 t585)) = some r:=H
  have A12:=aMk A120
  clear A120
  have HC13:=aMk H
  clear H
  go_enter Try.func10,Try.ntmps10
  go_upto_region 8 with (first|((with_reducible refine gate_dst (N:=3) rfl ?_);refine bxE (N:=3) (cs:=#[.int .i64 a0_0,.int .i64 a0_1,.int .i64 a0_2,.string a0_3,.string a0_4,.int .i64 a0_5,.slice A0_6 l0_6.length c0_6,.slice A0_7 l0_7.length c0_7]) (t:=64) ?_;intro gb560 hg w14 hbox hb;have n0_:=aMk (bSt hb);have n1_:=aMk (hbox);have n2_:=aMk ((by rw [hg];exact bSz : w.heap.size ≤ gb560));have n3_:=aMk ((by rw [hg];exact bSz : w.heap.size ≤ gb560));clear HB;have HB:=n0_;have BK560:=n1_;have GW560:=n2_;have GE560:=n3_;clear n0_ n1_ n2_ n3_;clear hb hbox hg;obtain ⟨hcz15_0,hcz15_1,hcz15_2,hcz15_3,hcz15_4,hcz15_5,hcz15_6,hcz15_7,hfz15_0,hfz15_1,hfz15_2,hfz15_3,hfz15_4,hfz15_5,hfz15_6,hfz15_7⟩:=bC8 BK560.out)|((with_reducible refine gate_callee (f:=31) rfl ?_);refine gLs 15 Try.func31 #[.agg #[.int .i64 a0_0,.int .i64 a0_1,.int .i64 a0_2,.string a0_3,.string a0_4,.int .i64 a0_5,.slice A0_6 l0_6.length c0_6,.slice A0_7 l0_7.length c0_7],.int .i64 1048576] ?_;(with_reducible refine (laws_szConfig.calls k a0_0 a0_1 a0_2 a0_3 a0_4 a0_5 _ _ l0_6 _ _ l0_7 1048576 t561 _ ?side1 ?side2 ?side3 ?side4 A4.out).mono ?_);(case side1 => repeat (first|exact (Kd.C_below HR0_6.out HB.out)|(with_reducible refine Kd.C_alloc ?_ _)|(with_reducible refine Kd.C_drewN ?_ _)|(with_reducible refine Kd.C_drew ?_)));(case side2 => exact HC0_6.out);(case side3 => repeat (first|exact (Kd.C_below HR0_7.out HB.out)|(with_reducible refine Kd.C_alloc ?_ _)|(with_reducible refine Kd.C_drewN ?_ _)|(with_reducible refine Kd.C_drew ?_)));(case side4 => exact HC0_7.out);rintro e w16 ⟨rfl,hb⟩;refine ⟨_,rfl,?_⟩;have n0_:=aMk (bkB BK560.out hb);have n1_:=aMk (below_step (by repeat (first|(with_reducible first|exact HB.out|apply bwA|apply bwN|apply bw1|refine below_set ?_ GE560.out)|exact HB.out)) hb);clear BK560;clear HB;have BK560:=n0_;have HB:=n1_;clear n0_ n1_;(try clear hb);(try clear hb2);(try clear hk);(try clear hi);obtain ⟨hcz17_0,hcz17_1,hcz17_2,hcz17_3,hcz17_4,hcz17_5,hcz17_6,hcz17_7,hfz17_0,hfz17_1,hfz17_2,hfz17_3,hfz17_4,hfz17_5,hfz17_6,hfz17_7⟩:=bC8 BK560.out)|((with_reducible refine gate_callee (f:=33) rfl ?_);refine gLs 20 Try.func33 #[.agg #[.int .i64 a0_0,.int .i64 a0_1,.int .i64 a0_2,.string a0_3,.string a0_4,.int .i64 a0_5,.slice A0_6 l0_6.length c0_6,.slice A0_7 l0_7.length c0_7]] ?_;(with_reducible refine (laws_toConfig.calls k a0_0 a0_1 a0_2 a0_3 a0_4 a0_5 _ _ l0_6 _ _ l0_7 t562 t563 t564 t565 t566 t567 t568 t571 _ ?side1 ?side2 ?side3 ?side4 A9.out).mono ?_);(case side1 => repeat (first|exact (Kd.C_below HR0_6.out HB.out)|(with_reducible refine Kd.C_alloc ?_ _)|(with_reducible refine Kd.C_drewN ?_ _)|(with_reducible refine Kd.C_drew ?_)));(case side2 => exact HC0_6.out);(case side3 => repeat (first|exact (Kd.C_below HR0_7.out HB.out)|(with_reducible refine Kd.C_alloc ?_ _)|(with_reducible refine Kd.C_drewN ?_ _)|(with_reducible refine Kd.C_drew ?_)));(case side4 => exact HC0_7.out);rintro e w18 ⟨v569,v572,rfl,ho0,ho1,hb⟩;refine ⟨_,rfl,?_⟩;have n0_:=aMk (Kd.R_lower ho0 (below_size (by repeat (first|(with_reducible first|exact HB.out|apply bwA|apply bwN|apply bw1|refine below_set ?_ GE560.out)|exact HB.out))));have n1_:=aMk (Kd.S_lower ho1 (below_size (by repeat (first|(with_reducible first|exact HB.out|apply bwA|apply bwN|apply bw1|refine below_set ?_ GE560.out)|exact HB.out))));have n2_:=aMk (bkB BK560.out hb);have n3_:=aMk (below_step (by repeat (first|(with_reducible first|exact HB.out|apply bwA|apply bwN|apply bw1|refine below_set ?_ GE560.out)|exact HB.out)) hb);clear BK560;clear HB;have HO570:=n0_;have HO573:=n1_;have BK560:=n2_;have HB:=n3_;clear n0_ n1_ n2_ n3_;(try clear hb);(try clear hb2);(try clear hk);(try clear hi);(try clear ho0);(try clear ho1);obtain ⟨Ao19,co19,eo19⟩:=Kd.R_slice HO570.out;subst eo19;obtain ⟨Ao20,co20,eo20⟩:=Kd.S_slice HO573.out;subst eo20)|((with_reducible refine gate_callee (f:=36) rfl ?_);refine gLs 23 Try.func36 #[.agg #[.int .i64 t562,.int .i64 t563,.int .i64 t564,.string t565,.string t566,.int .i64 t567,.slice Ao19 t568.length co19,.slice Ao20 t571.length co20],.int .i64 a1,.int .i64 a2] ?_;(with_reducible refine (spec_InGarden.calls k t562 t563 t564 t565 t566 t567 _ _ t568 _ _ t571 a1 a2 t574 t575 _ ?side1 ?side2 ?side3 ?side4 A10.out).mono ?_);(case side1 => repeat (first|exact (Kd.R_reads' HO570.out).2.2|(with_reducible refine Kd.C_alloc ?_ _)|(with_reducible refine Kd.C_drewN ?_ _)|(with_reducible refine Kd.C_drew ?_)));(case side2 => exact (Kd.R_reads' HO570.out).2.1);(case side3 => repeat (first|exact (Kd.S_reads' HO573.out).2.2|(with_reducible refine Kd.C_alloc ?_ _)|(with_reducible refine Kd.C_drewN ?_ _)|(with_reducible refine Kd.C_drew ?_)));(case side4 => exact (Kd.S_reads' HO573.out).2.1);rintro e w21 ⟨rfl,hb⟩;refine ⟨_,rfl,?_⟩;have n0_:=aMk (Kd.R_below (by (with_reducible repeat (first|apply Kd.R_alloc|apply Kd.R_drewN|apply Kd.R_drew));exact HO570.out) hb);have n1_:=aMk (Kd.S_below (by (with_reducible repeat (first|apply Kd.S_alloc|apply Kd.S_drewN|apply Kd.S_drew));exact HO573.out) hb);have n2_:=aMk (bkB BK560.out hb);have n3_:=aMk (below_step (by repeat (first|(with_reducible first|exact HB.out|apply bwA|apply bwN|apply bw1|refine below_set ?_ GE560.out)|exact HB.out)) hb);clear HO570;clear HO573;clear BK560;clear HB;have HO570:=n0_;have HO573:=n1_;have BK560:=n2_;have HB:=n3_;clear n0_ n1_ n2_ n3_;(try clear hb);(try clear hb2);(try clear hk);(try clear hi);obtain ⟨hcz22_0,hcz22_1,hcz22_2,hcz22_3,hcz22_4,hcz22_5,hcz22_6,hcz22_7,hfz22_0,hfz22_1,hfz22_2,hfz22_3,hfz22_4,hfz22_5,hfz22_6,hfz22_7⟩:=bC8 BK560.out)|((with_reducible refine gate_callee (f:=33) rfl ?_);refine gLs 27 Try.func33 #[.agg #[.int .i64 a0_0,.int .i64 a0_1,.int .i64 a0_2,.string a0_3,.string a0_4,.int .i64 a0_5,.slice A0_6 l0_6.length c0_6,.slice A0_7 l0_7.length c0_7]] ?_;(with_reducible refine (laws_toConfig.calls k a0_0 a0_1 a0_2 a0_3 a0_4 a0_5 _ _ l0_6 _ _ l0_7 t576 t577 t578 t579 t580 t581 t582 t585 _ ?side1 ?side2 ?side3 ?side4 A11.out).mono ?_);(case side1 => repeat (first|exact (Kd.C_below HR0_6.out HB.out)|(with_reducible refine Kd.C_alloc ?_ _)|(with_reducible refine Kd.C_drewN ?_ _)|(with_reducible refine Kd.C_drew ?_)));(case side2 => exact HC0_6.out);(case side3 => repeat (first|exact (Kd.C_below HR0_7.out HB.out)|(with_reducible refine Kd.C_alloc ?_ _)|(with_reducible refine Kd.C_drewN ?_ _)|(with_reducible refine Kd.C_drew ?_)));(case side4 => exact HC0_7.out);rintro e w23 ⟨v583,v586,rfl,ho0,ho1,hb⟩;refine ⟨_,rfl,?_⟩;have n0_:=aMk (Kd.R_elder' (by (with_reducible repeat (first|apply Kd.R_alloc|apply Kd.R_drewN|apply Kd.R_drew));exact HO570.out) (Kd.R_base ho0) hb);have n1_:=aMk (Kd.S_elder' (by (with_reducible repeat (first|apply Kd.S_alloc|apply Kd.S_drewN|apply Kd.S_drew));exact HO573.out) (Kd.S_base ho1) hb);have n2_:=aMk (Kd.R_lower (Kd.R_new' ho0 (Kd.R_lt (by (with_reducible repeat (first|apply Kd.R_alloc|apply Kd.R_drewN|apply Kd.R_drew));exact HO570.out))) (below_size (by repeat (first|(with_reducible first|exact HB.out|apply bwA|apply bwN|apply bw1|refine below_set ?_ GE560.out)|exact HB.out))));have n3_:=aMk (Kd.S_lower (Kd.S_new' ho1 (Kd.S_lt (by (with_reducible repeat (first|apply Kd.S_alloc|apply Kd.S_drewN|apply Kd.S_drew));exact HO573.out))) (below_size (by repeat (first|(with_reducible first|exact HB.out|apply bwA|apply bwN|apply bw1|refine below_set ?_ GE560.out)|exact HB.out))));have n4_:=aMk (bkB BK560.out hb);have n5_:=aMk (below_step (by repeat (first|(with_reducible first|exact HB.out|apply bwA|apply bwN|apply bw1|refine below_set ?_ GE560.out)|exact HB.out)) hb);clear HO570;clear HO573;clear BK560;clear HB;have HO570:=n0_;have HO573:=n1_;have HO584:=n2_;have HO587:=n3_;have BK560:=n4_;have HB:=n5_;clear n0_ n1_ n2_ n3_ n4_ n5_;(try clear hb);(try clear hb2);(try clear hk);(try clear hi);(try clear ho0);(try clear ho1))|((with_reducible refine gate_dst (N:=10) rfl ?_);refine bxE (N:=10) (cs:=#[.int .i64 0,.int .i64 0,.int .i64 0,.string (⟨#[]⟩ : ByteArray),.string (⟨#[]⟩ : ByteArray),.int .i64 0,.slice none 0 0,.slice none 0 0]) (t:=70) ?_;intro gb588 hg w24 hbox hb;have n0_:=aMk (Kd.R_below (by (with_reducible repeat (first|apply Kd.R_alloc|apply Kd.R_drewN|apply Kd.R_drew));exact HO570.out) hb);have n1_:=aMk (Kd.S_below (by (with_reducible repeat (first|apply Kd.S_alloc|apply Kd.S_drewN|apply Kd.S_drew));exact HO573.out) hb);have n2_:=aMk (Kd.R_below (by (with_reducible repeat (first|apply Kd.R_alloc|apply Kd.R_drewN|apply Kd.R_drew));exact HO584.out) hb);have n3_:=aMk (Kd.S_below (by (with_reducible repeat (first|apply Kd.S_alloc|apply Kd.S_drewN|apply Kd.S_drew));exact HO587.out) hb);have n4_:=aMk (bkB BK560.out hb);have n5_:=aMk (below_step (by repeat (first|(with_reducible first|exact HB.out|apply bwA|apply bwN|apply bw1|refine below_set ?_ GE560.out)|exact HB.out)) hb);have n6_:=aMk (hbox);have n7_:=aMk ((by rw [hg];exact (below_size (by repeat (first|(with_reducible first|exact HB.out|apply bwA|apply bwN|apply bw1|refine below_set ?_ GE560.out)|exact HB.out))) : w.heap.size ≤ gb588));have n8_:=aMk ((by rw [hg];exact (below_size (by repeat (first|(with_reducible first|exact HB.out|apply bwA|apply bwN|apply bw1|refine below_set ?_ GE560.out)|exact HB.out))) : w.heap.size ≤ gb588));have n9_:=aMk ((bkL BK560.out hg : gb560 ≠ gb588));have n10_:=aMk ((bkG BK560.out hg : gb588 ≠ gb560));clear HO570;clear HO573;clear HO584;clear HO587;clear BK560;clear HB;have HO570:=n0_;have HO573:=n1_;have HO584:=n2_;have HO587:=n3_;have BK560:=n4_;have HB:=n5_;have BK588:=n6_;have GW588:=n7_;have GE588:=n8_;have NB560_588:=n9_;have NB588_560:=n10_;clear n0_ n1_ n2_ n3_ n4_ n5_ n6_ n7_ n8_ n9_ n10_;clear hb hbox hg;have hnb25:=NB588_560.out;have hnc25:=NB560_588.out;obtain ⟨hcz26_0,hcz26_1,hcz26_2,hcz26_3,hcz26_4,hcz26_5,hcz26_6,hcz26_7,hfz26_0,hfz26_1,hfz26_2,hfz26_3,hfz26_4,hfz26_5,hfz26_6,hfz26_7⟩:=bC8 BK588.out;obtain ⟨Ao27,co27,eo27⟩:=Kd.R_slice HO584.out;subst eo27;obtain ⟨Ao28,co28,eo28⟩:=Kd.S_slice HO587.out;subst eo28)|((with_reducible refine gate_callee (f:=37) rfl ?_);refine gLs 32 Try.func37 #[.agg #[.int .i64 t576,.int .i64 t577,.int .i64 t578,.string t579,.string t580,.int .i64 t581,.slice Ao27 t582.length co27,.slice Ao28 t585.length co28],.int .i64 a1,.int .i64 a2] ?_;(with_reducible refine (impl_InGarden.calls k t576 t577 t578 t579 t580 t581 _ _ t582 _ _ t585 a1 a2 t589 t590 _ ?side1 ?side2 ?side3 ?side4 A12.out).mono ?_);(case side1 => refine (Kd.R_reads' (e:=100) (base:=w.heap.size) (ok:=fun k_ => (True ∧ some k_ ≠ (.slice Ao19 t568.length co19 : Value).ownBlock)) (n:=t582.length) (c:=co27) ?_).2.2;exact (by (with_reducible repeat (first|apply Kd.R_alloc|apply Kd.R_drewN|apply Kd.R_drew));exact (Kd.R_mono (Kd.R_far (p:=⟨gb588,7,none⟩) (Kd.R_far (p:=⟨gb588,6,none⟩) (Kd.R_far (p:=⟨gb588,5,none⟩) (Kd.R_far (p:=⟨gb588,4,none⟩) (Kd.R_far (p:=⟨gb588,3,none⟩) (Kd.R_far (p:=⟨gb588,2,none⟩) (Kd.R_far (p:=⟨gb588,1,none⟩) (Kd.R_far (p:=⟨gb588,0,none⟩) (Kd.R_types HO584.out BK588.out (by decide)) (fun _ hk => hk.2) (.int .i64 t576)) (fun _ hk => hk.2) (.int .i64 t577)) (fun _ hk => hk.2) (.int .i64 t578)) (fun _ hk => hk.2) (.string t579)) (fun _ hk => hk.2) (.string t580)) (fun _ hk => hk.2) (.int .i64 t581)) (fun _ hk => hk.2) (.slice Ao27 t582.length co27)) (fun _ hk => hk.2) (.slice Ao28 t585.length co28)) (fun _ h_ => h_.1))));(case side2 => exact (Kd.R_reads' HO584.out).2.1);(case side3 => refine (Kd.S_reads' (e:=54) (base:=w.heap.size) (ok:=fun k_ => (True ∧ some k_ ≠ (.slice Ao20 t571.length co20 : Value).ownBlock)) (n:=t585.length) (c:=co28) ?_).2.2;exact (by (with_reducible repeat (first|apply Kd.S_alloc|apply Kd.S_drewN|apply Kd.S_drew));exact (Kd.S_mono (Kd.S_far (p:=⟨gb588,7,none⟩) (Kd.S_far (p:=⟨gb588,6,none⟩) (Kd.S_far (p:=⟨gb588,5,none⟩) (Kd.S_far (p:=⟨gb588,4,none⟩) (Kd.S_far (p:=⟨gb588,3,none⟩) (Kd.S_far (p:=⟨gb588,2,none⟩) (Kd.S_far (p:=⟨gb588,1,none⟩) (Kd.S_far (p:=⟨gb588,0,none⟩) (Kd.S_types HO587.out BK588.out (by decide)) (fun _ hk => hk.2) (.int .i64 t576)) (fun _ hk => hk.2) (.int .i64 t577)) (fun _ hk => hk.2) (.int .i64 t578)) (fun _ hk => hk.2) (.string t579)) (fun _ hk => hk.2) (.string t580)) (fun _ hk => hk.2) (.int .i64 t581)) (fun _ hk => hk.2) (.slice Ao27 t582.length co27)) (fun _ hk => hk.2) (.slice Ao28 t585.length co28)) (fun _ h_ => h_.1))));(case side4 => exact (Kd.S_reads' HO587.out).2.1);rintro e w29 ⟨rfl,hb⟩;refine ⟨_,rfl,?_⟩;have n0_:=aMk (Kd.R_below (by (with_reducible repeat (first|apply Kd.R_alloc|apply Kd.R_drewN|apply Kd.R_drew));exact (Kd.R_mono (Kd.R_far (p:=⟨gb588,7,none⟩) (Kd.R_far (p:=⟨gb588,6,none⟩) (Kd.R_far (p:=⟨gb588,5,none⟩) (Kd.R_far (p:=⟨gb588,4,none⟩) (Kd.R_far (p:=⟨gb588,3,none⟩) (Kd.R_far (p:=⟨gb588,2,none⟩) (Kd.R_far (p:=⟨gb588,1,none⟩) (Kd.R_far (p:=⟨gb588,0,none⟩) (Kd.R_types HO570.out BK588.out (by decide)) (fun _ hk => hk.2) (.int .i64 t576)) (fun _ hk => hk.2) (.int .i64 t577)) (fun _ hk => hk.2) (.int .i64 t578)) (fun _ hk => hk.2) (.string t579)) (fun _ hk => hk.2) (.string t580)) (fun _ hk => hk.2) (.int .i64 t581)) (fun _ hk => hk.2) (.slice Ao27 t582.length co27)) (fun _ hk => hk.2) (.slice Ao28 t585.length co28)) (fun _ h_ => h_.1))) hb);have n1_:=aMk (Kd.S_below (by (with_reducible repeat (first|apply Kd.S_alloc|apply Kd.S_drewN|apply Kd.S_drew));exact (Kd.S_mono (Kd.S_far (p:=⟨gb588,7,none⟩) (Kd.S_far (p:=⟨gb588,6,none⟩) (Kd.S_far (p:=⟨gb588,5,none⟩) (Kd.S_far (p:=⟨gb588,4,none⟩) (Kd.S_far (p:=⟨gb588,3,none⟩) (Kd.S_far (p:=⟨gb588,2,none⟩) (Kd.S_far (p:=⟨gb588,1,none⟩) (Kd.S_far (p:=⟨gb588,0,none⟩) (Kd.S_types HO573.out BK588.out (by decide)) (fun _ hk => hk.2) (.int .i64 t576)) (fun _ hk => hk.2) (.int .i64 t577)) (fun _ hk => hk.2) (.int .i64 t578)) (fun _ hk => hk.2) (.string t579)) (fun _ hk => hk.2) (.string t580)) (fun _ hk => hk.2) (.int .i64 t581)) (fun _ hk => hk.2) (.slice Ao27 t582.length co27)) (fun _ hk => hk.2) (.slice Ao28 t585.length co28)) (fun _ h_ => h_.1))) hb);have n2_:=aMk (Kd.R_below (by (with_reducible repeat (first|apply Kd.R_alloc|apply Kd.R_drewN|apply Kd.R_drew));exact (Kd.R_mono (Kd.R_far (p:=⟨gb588,7,none⟩) (Kd.R_far (p:=⟨gb588,6,none⟩) (Kd.R_far (p:=⟨gb588,5,none⟩) (Kd.R_far (p:=⟨gb588,4,none⟩) (Kd.R_far (p:=⟨gb588,3,none⟩) (Kd.R_far (p:=⟨gb588,2,none⟩) (Kd.R_far (p:=⟨gb588,1,none⟩) (Kd.R_far (p:=⟨gb588,0,none⟩) (Kd.R_types HO584.out BK588.out (by decide)) (fun _ hk => hk.2) (.int .i64 t576)) (fun _ hk => hk.2) (.int .i64 t577)) (fun _ hk => hk.2) (.int .i64 t578)) (fun _ hk => hk.2) (.string t579)) (fun _ hk => hk.2) (.string t580)) (fun _ hk => hk.2) (.int .i64 t581)) (fun _ hk => hk.2) (.slice Ao27 t582.length co27)) (fun _ hk => hk.2) (.slice Ao28 t585.length co28)) (fun _ h_ => h_.1))) hb);have n3_:=aMk (Kd.S_below (by (with_reducible repeat (first|apply Kd.S_alloc|apply Kd.S_drewN|apply Kd.S_drew));exact (Kd.S_mono (Kd.S_far (p:=⟨gb588,7,none⟩) (Kd.S_far (p:=⟨gb588,6,none⟩) (Kd.S_far (p:=⟨gb588,5,none⟩) (Kd.S_far (p:=⟨gb588,4,none⟩) (Kd.S_far (p:=⟨gb588,3,none⟩) (Kd.S_far (p:=⟨gb588,2,none⟩) (Kd.S_far (p:=⟨gb588,1,none⟩) (Kd.S_far (p:=⟨gb588,0,none⟩) (Kd.S_types HO587.out BK588.out (by decide)) (fun _ hk => hk.2) (.int .i64 t576)) (fun _ hk => hk.2) (.int .i64 t577)) (fun _ hk => hk.2) (.int .i64 t578)) (fun _ hk => hk.2) (.string t579)) (fun _ hk => hk.2) (.string t580)) (fun _ hk => hk.2) (.int .i64 t581)) (fun _ hk => hk.2) (.slice Ao27 t582.length co27)) (fun _ hk => hk.2) (.slice Ao28 t585.length co28)) (fun _ h_ => h_.1))) hb);have n4_:=aMk (blk_below (g:=gb560) (o:=.cells #[.int .i64 a0_0,.int .i64 a0_1,.int .i64 a0_2,.string a0_3,.string a0_4,.int .i64 a0_5,.slice A0_6 l0_6.length c0_6,.slice A0_7 l0_7.length c0_7] 64 (0,0)) (by (with_reducible repeat (first|refine bDn ?_ _|refine bDr ?_|refine bAl ?_ _));refine blk_far ?_ NB560_588.out _;(with_reducible repeat (first|refine bDn ?_ _|refine bDr ?_|refine bAl ?_ _));refine blk_far ?_ NB560_588.out _;(with_reducible repeat (first|refine bDn ?_ _|refine bDr ?_|refine bAl ?_ _));refine blk_far ?_ NB560_588.out _;(with_reducible repeat (first|refine bDn ?_ _|refine bDr ?_|refine bAl ?_ _));refine blk_far ?_ NB560_588.out _;(with_reducible repeat (first|refine bDn ?_ _|refine bDr ?_|refine bAl ?_ _));refine blk_far ?_ NB560_588.out _;(with_reducible repeat (first|refine bDn ?_ _|refine bDr ?_|refine bAl ?_ _));refine blk_far ?_ NB560_588.out _;(with_reducible repeat (first|refine bDn ?_ _|refine bDr ?_|refine bAl ?_ _));refine blk_far ?_ NB560_588.out _;(with_reducible repeat (first|refine bDn ?_ _|refine bDr ?_|refine bAl ?_ _));refine blk_far ?_ NB560_588.out _;(with_reducible repeat (first|refine bDn ?_ _|refine bDr ?_|refine bAl ?_ _));exact BK560.out) hb);have n5_:=aMk (blk_below (g:=gb588) (o:=.cells #[.int .i64 t576,.int .i64 t577,.int .i64 t578,.string t579,.string t580,.int .i64 t581,.slice Ao27 t582.length co27,.slice Ao28 t585.length co28] 70 (0,0)) (by (with_reducible repeat (first|refine bDn ?_ _|refine bDr ?_|refine bAl ?_ _));refine blk_put (cs:=#[.int .i64 t576,.int .i64 t577,.int .i64 t578,.string t579,.string t580,.int .i64 t581,.slice Ao27 t582.length co27,.slice none 0 0]) ?_ 7 _ rfl;(with_reducible repeat (first|refine bDn ?_ _|refine bDr ?_|refine bAl ?_ _));refine blk_put (cs:=#[.int .i64 t576,.int .i64 t577,.int .i64 t578,.string t579,.string t580,.int .i64 t581,.slice none 0 0,.slice none 0 0]) ?_ 6 _ rfl;(with_reducible repeat (first|refine bDn ?_ _|refine bDr ?_|refine bAl ?_ _));refine blk_put (cs:=#[.int .i64 t576,.int .i64 t577,.int .i64 t578,.string t579,.string t580,.int .i64 0,.slice none 0 0,.slice none 0 0]) ?_ 5 _ rfl;(with_reducible repeat (first|refine bDn ?_ _|refine bDr ?_|refine bAl ?_ _));refine blk_put (cs:=#[.int .i64 t576,.int .i64 t577,.int .i64 t578,.string t579,.string (⟨#[]⟩ : ByteArray),.int .i64 0,.slice none 0 0,.slice none 0 0]) ?_ 4 _ rfl;(with_reducible repeat (first|refine bDn ?_ _|refine bDr ?_|refine bAl ?_ _));refine blk_put (cs:=#[.int .i64 t576,.int .i64 t577,.int .i64 t578,.string (⟨#[]⟩ : ByteArray),.string (⟨#[]⟩ : ByteArray),.int .i64 0,.slice none 0 0,.slice none 0 0]) ?_ 3 _ rfl;(with_reducible repeat (first|refine bDn ?_ _|refine bDr ?_|refine bAl ?_ _));refine blk_put (cs:=#[.int .i64 t576,.int .i64 t577,.int .i64 0,.string (⟨#[]⟩ : ByteArray),.string (⟨#[]⟩ : ByteArray),.int .i64 0,.slice none 0 0,.slice none 0 0]) ?_ 2 _ rfl;(with_reducible repeat (first|refine bDn ?_ _|refine bDr ?_|refine bAl ?_ _));refine blk_put (cs:=#[.int .i64 t576,.int .i64 0,.int .i64 0,.string (⟨#[]⟩ : ByteArray),.string (⟨#[]⟩ : ByteArray),.int .i64 0,.slice none 0 0,.slice none 0 0]) ?_ 1 _ rfl;(with_reducible repeat (first|refine bDn ?_ _|refine bDr ?_|refine bAl ?_ _));refine blk_put (cs:=#[.int .i64 0,.int .i64 0,.int .i64 0,.string (⟨#[]⟩ : ByteArray),.string (⟨#[]⟩ : ByteArray),.int .i64 0,.slice none 0 0,.slice none 0 0]) ?_ 0 _ rfl;(with_reducible repeat (first|refine bDn ?_ _|refine bDr ?_|refine bAl ?_ _));exact BK588.out) hb);have n6_:=aMk (below_step (by repeat (first|(with_reducible first|exact HB.out|apply bwA|apply bwN|apply bw1|refine below_set ?_ GE560.out|refine below_set ?_ GE588.out)|exact HB.out)) hb);clear HO570;clear HO573;clear HO584;clear HO587;clear BK560;clear BK588;clear HB;have HO570:=n0_;have HO573:=n1_;have HO584:=n2_;have HO587:=n3_;have BK560:=n4_;have BK588:=n5_;have HB:=n6_;clear n0_ n1_ n2_ n3_ n4_ n5_ n6_;(try clear hb);(try clear hb2);(try clear hk);(try clear hi)))
  (try simp only [Act.put,List.setIfInBounds_toArray,List.set_cons_zero,List.set_cons_succ])
  go_cut [42] (fun v42 wc => ∃ (kq : Nat) (x42_12 : Bool),v42 = .bool x42_12 ∧ Aside0 (laws_FnExactInGarden.j0 kq x42_12 a0_0 a0_1 a0_2 a0_3 a0_4 a0_5 l0_6 l0_7 t576 t577 t578 t579 t580 t581 t582 t585 = some r) ∧ Aside0 (kq ≤ k) ∧ Aside0 (Kd.R k100 100 wc w.heap.size (fun _ => True) (.slice Ao27 t582.length co27) t582) ∧ Aside0 (Kd.S k54 54 wc w.heap.size (fun _ => True) (.slice Ao28 t585.length co28) t585) ∧ Aside0 (wc.heap[gb560]? = some (.cells #[.int .i64 a0_0,.int .i64 a0_1,.int .i64 a0_2,.string a0_3,.string a0_4,.int .i64 a0_5,(.slice A0_6 l0_6.length c0_6),(.slice A0_7 l0_7.length c0_7)] 64 (0,0))) ∧ Aside0 (wc.heap[gb588]? = some (.cells #[.int .i64 t576,.int .i64 t577,.int .i64 t578,.string t579,.string t580,.int .i64 t581,(.slice Ao27 t582.length co27),(.slice Ao28 t585.length co28)] 70 (0,0))) ∧ Aside0 (Below w.heap.size w wc))
  case first =>
   have H:=HC13.out
   clear HC13
   by_cases c30 : (t589 != t574) = true
   ·rw [if_pos c30] at H
    have c30b0 : (t589 != t574) = true:=c30
    (try (have c30b1 : decide (t589 = t574) = false:=by simpa using c30))
    (try (have c30b2 : (t589 == t574) = false:=by simpa using c30))
    (try (have c30b3 : ¬ (t589 = t574):=by simpa using c30))
    clear c30
    (first|rw [c30b0]|(simp only [i64_w,i32_w];rw [c30b0]) | skip)
    have H':=aMk H
    clear H
    go_wp2
    go_meet
    case rel => exact ⟨_,(true),(by first | rfl|(simp;done)|(simp [*];done)|(simp [ne_nil_b];done)|(simp [ne_nil_b, *];done)),H',⟨by first | omega|exact Nat.le_refl _⟩,⟨by (with_reducible repeat (first|apply Kd.R_alloc|apply Kd.R_drewN|apply Kd.R_drew));exact Kd.R_mono HO584.out (fun _ hk => trivial)⟩,⟨by (with_reducible repeat (first|apply Kd.S_alloc|apply Kd.S_drewN|apply Kd.S_drew));exact Kd.S_mono HO587.out (fun _ hk => trivial)⟩,⟨by (with_reducible repeat (first|refine bDn ?_ _|refine bDr ?_|refine bAl ?_ _));exact BK560.out⟩,⟨by (with_reducible repeat (first|refine bDn ?_ _|refine bDr ?_|refine bAl ?_ _));exact BK588.out⟩,⟨by repeat (first|(with_reducible first|exact HB.out|apply bwA|apply bwN|apply bw1|refine below_set ?_ GE560.out|refine below_set ?_ GE588.out)|exact HB.out)⟩⟩
   ·rw [if_neg c30] at H
    have c30b0 : (t589 != t574) = false:=by simpa using c30
    (try (have c30b1 : decide (t589 = t574) = true:=by simpa using c30))
    (try (have c30b2 : (t589 == t574) = true:=by simpa using c30))
    clear c30
    (first|rw [c30b0]|(simp only [i64_w,i32_w];rw [c30b0]) | skip)
    have H':=aMk H
    clear H
    go_wp2
    go_meet
    case rel => exact ⟨_,((t590 != t575)),(by first | rfl|(simp;done)|(simp [*];done)|(simp [ne_nil_b];done)|(simp [ne_nil_b, *];done)),H',⟨by first | omega|exact Nat.le_refl _⟩,⟨by (with_reducible repeat (first|apply Kd.R_alloc|apply Kd.R_drewN|apply Kd.R_drew));exact Kd.R_mono HO584.out (fun _ hk => trivial)⟩,⟨by (with_reducible repeat (first|apply Kd.S_alloc|apply Kd.S_drewN|apply Kd.S_drew));exact Kd.S_mono HO587.out (fun _ hk => trivial)⟩,⟨by (with_reducible repeat (first|refine bDn ?_ _|refine bDr ?_|refine bAl ?_ _));exact BK560.out⟩,⟨by (with_reducible repeat (first|refine bDn ?_ _|refine bDr ?_|refine bAl ?_ _));exact BK588.out⟩,⟨by repeat (first|(with_reducible first|exact HB.out|apply bwA|apply bwN|apply bw1|refine below_set ?_ GE560.out|refine below_set ?_ GE588.out)|exact HB.out)⟩⟩
  case rest =>
   clear HC13
   try clear c1
   try clear c2
   try clear p2
   try clear c3
   try clear c5
   try clear c5b0
   try clear c10
   try clear c25
   try clear c30
   try clear c30b0
   try clear c30b1
   try clear c30b2
   try clear hcz15_0
   try clear hcz15_1
   try clear hcz15_2
   try clear hcz15_3
   try clear hcz15_4
   try clear hcz15_5
   try clear hcz15_6
   try clear hcz15_7
   try clear hcz17_0
   try clear hcz17_1
   try clear hcz17_2
   try clear hcz17_3
   try clear hcz17_4
   try clear hcz17_5
   try clear hcz17_6
   try clear hcz17_7
   try clear hcz22_0
   try clear hcz22_1
   try clear hcz22_2
   try clear hcz22_3
   try clear hcz22_4
   try clear hcz22_5
   try clear hcz22_6
   try clear hcz22_7
   try clear hcz26_0
   try clear hcz26_1
   try clear hcz26_2
   try clear hcz26_3
   try clear hcz26_4
   try clear hcz26_5
   try clear hcz26_6
   try clear hcz26_7
   try clear hcz7_0
   try clear hcz7_1
   try clear hcz7_2
   try clear hcz7_3
   try clear hcz7_4
   try clear hcz7_5
   try clear hcz7_6
   try clear hcz7_7
   try clear hfz15_0
   try clear hfz15_1
   try clear hfz15_2
   try clear hfz15_3
   try clear hfz15_4
   try clear hfz15_5
   try clear hfz15_6
   try clear hfz15_7
   try clear hfz17_0
   try clear hfz17_1
   try clear hfz17_2
   try clear hfz17_3
   try clear hfz17_4
   try clear hfz17_5
   try clear hfz17_6
   try clear hfz17_7
   try clear hfz22_0
   try clear hfz22_1
   try clear hfz22_2
   try clear hfz22_3
   try clear hfz22_4
   try clear hfz22_5
   try clear hfz22_6
   try clear hfz22_7
   try clear hfz26_0
   try clear hfz26_1
   try clear hfz26_2
   try clear hfz26_3
   try clear hfz26_4
   try clear hfz26_5
   try clear hfz26_6
   try clear hfz26_7
   try clear hfz7_0
   try clear hfz7_1
   try clear hfz7_2
   try clear hfz7_3
   try clear hfz7_4
   try clear hfz7_5
   try clear hfz7_6
   try clear hfz7_7
   obtain ⟨kq,x42_12,rfl,HA,HJ12,HO_589006,HO_589007,BK560,BK588,HB⟩:=hcut
   cases kq with
   | zero => exact absurd HA.out (by simp [laws_FnExactInGarden.j0])
   | succ kj12 =>
    have H:=HA.out
    clear HA
    simp only [laws_FnExactInGarden.j0] at H
    by_cases c31 : x42_12 = true
    ·subst c31
     have H1 : (some false) = some r:=by rw [if_pos rfl] at H;exact H
     clear H
     have H:=H1
     clear H1
     obtain rfl:=Option.some.inj H
     go_wp2
     go_ret
     exact ⟨eRf,by repeat (first|(with_reducible first|exact HB.out|apply bwA|apply bwN|apply bw1|refine below_set ?_ GE560.out|refine below_set ?_ GE588.out)|exact HB.out)⟩
    ·replace c31:=Bool.eq_false_iff.mpr c31
     subst c31
     have H1 : ((laws_toConfig.f kj12 a0_0 a0_1 a0_2 a0_3 a0_4 a0_5 l0_6 l0_7).bind fun bt591 => ((laws_eqConfig.f kj12 t576 t577 t578 t579 t580 t581 t582 t585 bt591.1 bt591.2.1 bt591.2.2.1 bt591.2.2.2.1 bt591.2.2.2.2.1 bt591.2.2.2.2.2.1 bt591.2.2.2.2.2.2.1 bt591.2.2.2.2.2.2.2).bind fun t603 => (if t603 = true then (some true) else (some false)))) = some r:=by rw [if_neg (show ¬ (false = true) by decide)] at H;exact H
     clear H
     have H:=H1
     clear H1
     replace H:=Option.bind_eq_some_iff.mp H
     obtain ⟨⟨t591,t592,t593,t594,t595,t596,t597,t600⟩,A320,H⟩:=H
     replace H : ((laws_eqConfig.f kj12 t576 t577 t578 t579 t580 t581 t582 t585 t591 t592 t593 t594 t595 t596 t597 t600).bind fun t603 => (if t603 = true then (some true) else (some false))) = some r:=H
     have A32:=aMk A320
     clear A320
     replace H:=Option.bind_eq_some_iff.mp H
     obtain ⟨t603,A330,H⟩:=H
     replace H : (if t603 = true then (some true) else (some false)) = some r:=H
     have A33:=aMk A330
     clear A330
     by_cases c34 : t603 = true
     ·subst c34
      have H1 : (some true) = some r:=by rw [if_pos rfl] at H;exact H
      clear H
      have H:=H1
      clear H1
      obtain rfl:=Option.some.inj H
      try go_wp2
      have n0_:=aMk (Kd.R_drew HO_589006.out)
      have n1_:=aMk (Kd.S_drew HO_589007.out)
      have n2_:=aMk (bDr BK560.out)
      have n3_:=aMk (bDr BK588.out)
      have n4_:=aMk (bw1 HB.out)
      clear HO_589006
      clear HO_589007
      clear BK560
      clear BK588
      clear HB
      have HO_589006:=n0_
      have HO_589007:=n1_
      have BK560:=n2_
      have BK588:=n3_
      have HB:=n4_
      clear n0_ n1_ n2_ n3_ n4_
      refine start_ (n:=5) (S:=fun w' => w'.cell? ⟨gb588,0,none⟩ = some (.int .i64 t576) ∧ w'.cell? ⟨gb588,1,none⟩ = some (.int .i64 t577) ∧ w'.cell? ⟨gb588,2,none⟩ = some (.int .i64 t578) ∧ w'.cell? ⟨gb588,3,none⟩ = some (.string t579) ∧ w'.cell? ⟨gb588,4,none⟩ = some (.string t580) ∧ w'.cell? ⟨gb588,5,none⟩ = some (.int .i64 t581) ∧ w'.cell? ⟨gb588,6,none⟩ = some (.slice Ao27 t582.length co27) ∧ w'.cell? ⟨gb588,7,none⟩ = some (.slice Ao28 t585.length co28) ∧ w'.cell? ⟨gb560,0,none⟩ = some (.int .i64 a0_0) ∧ w'.cell? ⟨gb560,1,none⟩ = some (.int .i64 a0_1) ∧ w'.cell? ⟨gb560,2,none⟩ = some (.int .i64 a0_2) ∧ w'.cell? ⟨gb560,3,none⟩ = some (.string a0_3) ∧ w'.cell? ⟨gb560,4,none⟩ = some (.string a0_4) ∧ w'.cell? ⟨gb560,5,none⟩ = some (.int .i64 a0_5) ∧ w'.cell? ⟨gb560,6,none⟩ = some (.slice A0_6 l0_6.length c0_6) ∧ w'.cell? ⟨gb560,7,none⟩ = some (.slice A0_7 l0_7.length c0_7)) (ds:=[]) #[false,false,false,false,false] (by kernel_rfl) rfl rfl ⟨(bCe BK588.out 0).trans rfl,(bCe BK588.out 1).trans rfl,(bCe BK588.out 2).trans rfl,(bCe BK588.out 3).trans rfl,(bCe BK588.out 4).trans rfl,(bCe BK588.out 5).trans rfl,(bCe BK588.out 6).trans rfl,(bCe BK588.out 7).trans rfl,(bCe BK560.out 0).trans rfl,(bCe BK560.out 1).trans rfl,(bCe BK560.out 2).trans rfl,(bCe BK560.out 3).trans rfl,(bCe BK560.out 4).trans rfl,(bCe BK560.out 5).trans rfl,(bCe BK560.out 6).trans rfl,(bCe BK560.out 7).trans rfl⟩ (fun hHeld => ?_)
      generalize wc.drew = w35 at HO_589006 HO_589007 BK560 BK588 HB hHeld ⊢
      refine take_ (i:=0) (N:=some 43) (v:=?_) (a':=?_) #[true,false,false,false,false] rfl rfl (by kernel_rfl) (fun _ _ _ h => h) (Or.inl ⟨by rfl,?_⟩) hHeld ?_ ?_
      rotate_left
      ·rintro w' ⟨s0,s1,s2,s3,s4,s5,s6,s7,s8,s9,s10,s11,s12,s13,s14,s15⟩
       go_simp
       with_reducible rfl
      rotate_left
      ·simp only [Act.put,List.setIfInBounds_toArray,List.set_cons_zero,List.set_cons_succ,i64_w,i32_w]
       rfl
      refine take_ (i:=1) (N:=some 44) (v:=?_) (a':=?_) #[true,true,false,false,false] rfl rfl (by kernel_rfl) (fun _ _ _ h => h) (Or.inl ⟨by rfl,?_⟩) hHeld ?_ ?_
      rotate_left
      ·rintro w' ⟨s0,s1,s2,s3,s4,s5,s6,s7,s8,s9,s10,s11,s12,s13,s14,s15⟩
       go_simp
       with_reducible rfl
      rotate_left
      ·simp only [Act.put,List.setIfInBounds_toArray,List.set_cons_zero,List.set_cons_succ,i64_w,i32_w]
       rfl
      refine one_ (i:=2) (N:=some 45) #[true,true,true,false,false] rfl rfl (by kernel_rfl) (by decide) (fun K hK => ?_)
      refine goes_ Try.func33 (by kernel_rfl) rfl #[.agg #[.int .i64 a0_0,.int .i64 a0_1,.int .i64 a0_2,.string a0_3,.string a0_4,.int .i64 a0_5,.slice A0_6 l0_6.length c0_6,.slice A0_7 l0_7.length c0_7]] (by rfl) rfl rfl (by (try simp only [List.map_toArray,List.map_cons,List.map_nil]);first | done | rfl|(simp only [List.length_drop,List.length_take];rfl)) ?_
      with_reducible refine (laws_toConfig.calls kj12 a0_0 a0_1 a0_2 a0_3 a0_4 a0_5 _ _ l0_6 _ _ l0_7 t591 t592 t593 t594 t595 t596 t597 t600 _ ?side1 ?side2 ?side3 ?side4 A32.out).mono ?_
      (case side1 => repeat (first|exact (Kd.C_below HR0_6.out HB.out)|(with_reducible refine Kd.C_alloc ?_ _)|(with_reducible refine Kd.C_drewN ?_ _)|(with_reducible refine Kd.C_drew ?_)))
      (case side2 => exact HC0_6.out)
      (case side3 => repeat (first|exact (Kd.C_below HR0_7.out HB.out)|(with_reducible refine Kd.C_alloc ?_ _)|(with_reducible refine Kd.C_drewN ?_ _)|(with_reducible refine Kd.C_drew ?_)))
      (case side4 => exact HC0_7.out)
      rintro e w36 ⟨v598,v601,rfl,ho0,ho1,hb⟩
      refine ⟨_,rfl,?_⟩
      have n0_:=aMk (Kd.R_elder' (by (with_reducible repeat (first|apply Kd.R_alloc|apply Kd.R_drewN|apply Kd.R_drew));exact HO_589006.out) (Kd.R_base ho0) hb)
      have n1_:=aMk (Kd.S_elder' (by (with_reducible repeat (first|apply Kd.S_alloc|apply Kd.S_drewN|apply Kd.S_drew));exact HO_589007.out) (Kd.S_base ho1) hb)
      have n2_:=aMk (Kd.R_lower (Kd.R_new' ho0 (Kd.R_lt (by (with_reducible repeat (first|apply Kd.R_alloc|apply Kd.R_drewN|apply Kd.R_drew));exact HO_589006.out))) (below_size (by repeat (first|(with_reducible first|exact HB.out|apply bwA|apply bwN|apply bw1|refine below_set ?_ GE560.out|refine below_set ?_ GE588.out)|exact HB.out))))
      have n3_:=aMk (Kd.S_lower (Kd.S_new' ho1 (Kd.S_lt (by (with_reducible repeat (first|apply Kd.S_alloc|apply Kd.S_drewN|apply Kd.S_drew));exact HO_589007.out))) (below_size (by repeat (first|(with_reducible first|exact HB.out|apply bwA|apply bwN|apply bw1|refine below_set ?_ GE560.out|refine below_set ?_ GE588.out)|exact HB.out))))
      have n4_:=aMk (bkB BK560.out hb)
      have n5_:=aMk (bkB BK588.out hb)
      have n6_:=aMk (below_step (by repeat (first|(with_reducible first|exact HB.out|apply bwA|apply bwN|apply bw1|refine below_set ?_ GE560.out|refine below_set ?_ GE588.out)|exact HB.out)) hb)
      clear HO_589006
      clear HO_589007
      clear BK560
      clear BK588
      clear HB
      have HO_589006:=n0_
      have HO_589007:=n1_
      have HO599:=n2_
      have HO602:=n3_
      have BK560:=n4_
      have BK588:=n5_
      have HB:=n6_
      clear n0_ n1_ n2_ n3_ n4_ n5_ n6_
      (try clear hb)
      (try clear hb2)
      (try clear hk)
      (try clear hi)
      (try clear ho0)
      (try clear ho1)
      obtain ⟨Ao37,co37,eo37⟩:=Kd.R_slice HO599.out
      (first|subst eo37|(injection eo37 with f1_ f2_ f3_;have f4_:=f1_.symm;have f5_:=f3_.symm;clear f1_ f2_ f3_;subst f4_;subst f5_))
      obtain ⟨Ao38,co38,eo38⟩:=Kd.S_slice HO602.out
      (first|subst eo38|(injection eo38 with f1_ f2_ f3_;have f4_:=f1_.symm;have f5_:=f3_.symm;clear f1_ f2_ f3_;subst f4_;subst f5_))
      refine hK.out _ _ ⟨(bCe BK588.out 0).trans rfl,(bCe BK588.out 1).trans rfl,(bCe BK588.out 2).trans rfl,(bCe BK588.out 3).trans rfl,(bCe BK588.out 4).trans rfl,(bCe BK588.out 5).trans rfl,(bCe BK588.out 6).trans rfl,(bCe BK588.out 7).trans rfl,(bCe BK560.out 0).trans rfl,(bCe BK560.out 1).trans rfl,(bCe BK560.out 2).trans rfl,(bCe BK560.out 3).trans rfl,(bCe BK560.out 4).trans rfl,(bCe BK560.out 5).trans rfl,(bCe BK560.out 6).trans rfl,(bCe BK560.out 7).trans rfl⟩ (fun hHeld => ?_)
      clear hK K
      refine norm_ (a':=?_) ?_ ?_
      rotate_left
      ·show Act.put _ (some 45) _ = _
       simp only [Act.put,List.setIfInBounds_toArray,List.set_cons_zero,List.set_cons_succ,i64_w,i32_w]
       rfl
      refine one_ (i:=3) (N:=some 46) #[true,true,true,true,false] rfl rfl (by kernel_rfl) (by decide) (fun K hK => ?_)
      refine goes_ Try.func35 (by kernel_rfl) rfl #[.agg #[.int .i64 t576,.int .i64 t577,.int .i64 t578,.string t579,.string t580,.int .i64 t581,.slice Ao27 t582.length co27,.slice Ao28 t585.length co28],.agg #[.int .i64 t591,.int .i64 t592,.int .i64 t593,.string t594,.string t595,.int .i64 t596,.slice Ao37 t597.length co37,.slice Ao38 t600.length co38]] (by rfl) rfl rfl (by (try simp only [List.map_toArray,List.map_cons,List.map_nil]);first | done | rfl|(simp only [List.length_drop,List.length_take];rfl)) ?_
      with_reducible refine (laws_eqConfig.calls kj12 t576 t577 t578 t579 t580 t581 _ _ t582 _ _ t585 t591 t592 t593 t594 t595 t596 _ _ t597 _ _ t600 true _ ?side1 ?side2 ?side3 ?side4 ?side5 ?side6 ?side7 ?side8 A33.out).mono ?_
      (case side1 => repeat (first|exact (Kd.R_reads' HO_589006.out).2.2|(with_reducible refine Kd.C_alloc ?_ _)|(with_reducible refine Kd.C_drewN ?_ _)|(with_reducible refine Kd.C_drew ?_)))
      (case side2 => exact (Kd.R_reads' HO_589006.out).2.1)
      (case side3 => repeat (first|exact (Kd.S_reads' HO_589007.out).2.2|(with_reducible refine Kd.C_alloc ?_ _)|(with_reducible refine Kd.C_drewN ?_ _)|(with_reducible refine Kd.C_drew ?_)))
      (case side4 => exact (Kd.S_reads' HO_589007.out).2.1)
      (case side5 => repeat (first|exact (Kd.R_reads' HO599.out).2.2|(with_reducible refine Kd.C_alloc ?_ _)|(with_reducible refine Kd.C_drewN ?_ _)|(with_reducible refine Kd.C_drew ?_)))
      (case side6 => exact (Kd.R_reads' HO599.out).2.1)
      (case side7 => repeat (first|exact (Kd.S_reads' HO602.out).2.2|(with_reducible refine Kd.C_alloc ?_ _)|(with_reducible refine Kd.C_drewN ?_ _)|(with_reducible refine Kd.C_drew ?_)))
      (case side8 => exact (Kd.S_reads' HO602.out).2.1)
      rintro e w39 ⟨rfl,hb⟩
      refine ⟨_,rfl,?_⟩
      have n0_:=aMk (Kd.R_below (by (with_reducible repeat (first|apply Kd.R_alloc|apply Kd.R_drewN|apply Kd.R_drew));exact HO_589006.out) hb)
      have n1_:=aMk (Kd.S_below (by (with_reducible repeat (first|apply Kd.S_alloc|apply Kd.S_drewN|apply Kd.S_drew));exact HO_589007.out) hb)
      have n2_:=aMk (Kd.R_below (by (with_reducible repeat (first|apply Kd.R_alloc|apply Kd.R_drewN|apply Kd.R_drew));exact HO599.out) hb)
      have n3_:=aMk (Kd.S_below (by (with_reducible repeat (first|apply Kd.S_alloc|apply Kd.S_drewN|apply Kd.S_drew));exact HO602.out) hb)
      have n4_:=aMk (bkB BK560.out hb)
      have n5_:=aMk (bkB BK588.out hb)
      have n6_:=aMk (below_step (by repeat (first|(with_reducible first|exact HB.out|apply bwA|apply bwN|apply bw1|refine below_set ?_ GE560.out|refine below_set ?_ GE588.out)|exact HB.out)) hb)
      clear HO_589006
      clear HO_589007
      clear HO599
      clear HO602
      clear BK560
      clear BK588
      clear HB
      have HO_589006:=n0_
      have HO_589007:=n1_
      have HO599:=n2_
      have HO602:=n3_
      have BK560:=n4_
      have BK588:=n5_
      have HB:=n6_
      clear n0_ n1_ n2_ n3_ n4_ n5_ n6_
      (try clear hb)
      (try clear hb2)
      (try clear hk)
      (try clear hi)
      refine hK.out _ _ ⟨(bCe BK588.out 0).trans rfl,(bCe BK588.out 1).trans rfl,(bCe BK588.out 2).trans rfl,(bCe BK588.out 3).trans rfl,(bCe BK588.out 4).trans rfl,(bCe BK588.out 5).trans rfl,(bCe BK588.out 6).trans rfl,(bCe BK588.out 7).trans rfl,(bCe BK560.out 0).trans rfl,(bCe BK560.out 1).trans rfl,(bCe BK560.out 2).trans rfl,(bCe BK560.out 3).trans rfl,(bCe BK560.out 4).trans rfl,(bCe BK560.out 5).trans rfl,(bCe BK560.out 6).trans rfl,(bCe BK560.out 7).trans rfl⟩ (fun hHeld => ?_)
      clear hK K
      refine norm_ (a':=?_) ?_ ?_
      rotate_left
      ·show Act.put _ (some 46) _ = _
       simp only [Act.put,List.setIfInBounds_toArray,List.set_cons_zero,List.set_cons_succ,i64_w,i32_w]
       rfl
      refine pure_ (i:=4) (N:=some 47) (v:=?_) (a':=?_) #[true,true,true,true,true] rfl rfl (by kernel_rfl) (fun _ _ _ h => h) (Or.inl ⟨by rfl,?_⟩) ?_ ?_
      rotate_left
      ·intro w'
       go_simp
       with_reducible rfl
      rotate_left
      ·simp only [Act.put,List.setIfInBounds_toArray,List.set_cons_zero,List.set_cons_succ,i64_w,i32_w]
       rfl
      refine done_ (by kernel_rfl) ?_
      try go_wp2
      go_ret
      exact ⟨eRf,by repeat (first|(with_reducible first|exact HB.out|apply bwA|apply bwN|apply bw1|refine below_set ?_ GE560.out|refine below_set ?_ GE588.out)|exact HB.out)⟩
     ·replace c34:=Bool.eq_false_iff.mpr c34
      subst c34
      have H1 : (some false) = some r:=by rw [if_neg (show ¬ (false = true) by decide)] at H;exact H
      clear H
      have H:=H1
      clear H1
      obtain rfl:=Option.some.inj H
      try go_wp2
      have n0_:=aMk (Kd.R_drew HO_589006.out)
      have n1_:=aMk (Kd.S_drew HO_589007.out)
      have n2_:=aMk (bDr BK560.out)
      have n3_:=aMk (bDr BK588.out)
      have n4_:=aMk (bw1 HB.out)
      clear HO_589006
      clear HO_589007
      clear BK560
      clear BK588
      clear HB
      have HO_589006:=n0_
      have HO_589007:=n1_
      have BK560:=n2_
      have BK588:=n3_
      have HB:=n4_
      clear n0_ n1_ n2_ n3_ n4_
      refine start_ (n:=5) (S:=fun w' => w'.cell? ⟨gb588,0,none⟩ = some (.int .i64 t576) ∧ w'.cell? ⟨gb588,1,none⟩ = some (.int .i64 t577) ∧ w'.cell? ⟨gb588,2,none⟩ = some (.int .i64 t578) ∧ w'.cell? ⟨gb588,3,none⟩ = some (.string t579) ∧ w'.cell? ⟨gb588,4,none⟩ = some (.string t580) ∧ w'.cell? ⟨gb588,5,none⟩ = some (.int .i64 t581) ∧ w'.cell? ⟨gb588,6,none⟩ = some (.slice Ao27 t582.length co27) ∧ w'.cell? ⟨gb588,7,none⟩ = some (.slice Ao28 t585.length co28) ∧ w'.cell? ⟨gb560,0,none⟩ = some (.int .i64 a0_0) ∧ w'.cell? ⟨gb560,1,none⟩ = some (.int .i64 a0_1) ∧ w'.cell? ⟨gb560,2,none⟩ = some (.int .i64 a0_2) ∧ w'.cell? ⟨gb560,3,none⟩ = some (.string a0_3) ∧ w'.cell? ⟨gb560,4,none⟩ = some (.string a0_4) ∧ w'.cell? ⟨gb560,5,none⟩ = some (.int .i64 a0_5) ∧ w'.cell? ⟨gb560,6,none⟩ = some (.slice A0_6 l0_6.length c0_6) ∧ w'.cell? ⟨gb560,7,none⟩ = some (.slice A0_7 l0_7.length c0_7)) (ds:=[]) #[false,false,false,false,false] (by kernel_rfl) rfl rfl ⟨(bCe BK588.out 0).trans rfl,(bCe BK588.out 1).trans rfl,(bCe BK588.out 2).trans rfl,(bCe BK588.out 3).trans rfl,(bCe BK588.out 4).trans rfl,(bCe BK588.out 5).trans rfl,(bCe BK588.out 6).trans rfl,(bCe BK588.out 7).trans rfl,(bCe BK560.out 0).trans rfl,(bCe BK560.out 1).trans rfl,(bCe BK560.out 2).trans rfl,(bCe BK560.out 3).trans rfl,(bCe BK560.out 4).trans rfl,(bCe BK560.out 5).trans rfl,(bCe BK560.out 6).trans rfl,(bCe BK560.out 7).trans rfl⟩ (fun hHeld => ?_)
      generalize wc.drew = w40 at HO_589006 HO_589007 BK560 BK588 HB hHeld ⊢
      refine take_ (i:=0) (N:=some 43) (v:=?_) (a':=?_) #[true,false,false,false,false] rfl rfl (by kernel_rfl) (fun _ _ _ h => h) (Or.inl ⟨by rfl,?_⟩) hHeld ?_ ?_
      rotate_left
      ·rintro w' ⟨s0,s1,s2,s3,s4,s5,s6,s7,s8,s9,s10,s11,s12,s13,s14,s15⟩
       go_simp
       with_reducible rfl
      rotate_left
      ·simp only [Act.put,List.setIfInBounds_toArray,List.set_cons_zero,List.set_cons_succ,i64_w,i32_w]
       rfl
      refine take_ (i:=1) (N:=some 44) (v:=?_) (a':=?_) #[true,true,false,false,false] rfl rfl (by kernel_rfl) (fun _ _ _ h => h) (Or.inl ⟨by rfl,?_⟩) hHeld ?_ ?_
      rotate_left
      ·rintro w' ⟨s0,s1,s2,s3,s4,s5,s6,s7,s8,s9,s10,s11,s12,s13,s14,s15⟩
       go_simp
       with_reducible rfl
      rotate_left
      ·simp only [Act.put,List.setIfInBounds_toArray,List.set_cons_zero,List.set_cons_succ,i64_w,i32_w]
       rfl
      refine one_ (i:=2) (N:=some 45) #[true,true,true,false,false] rfl rfl (by kernel_rfl) (by decide) (fun K hK => ?_)
      refine goes_ Try.func33 (by kernel_rfl) rfl #[.agg #[.int .i64 a0_0,.int .i64 a0_1,.int .i64 a0_2,.string a0_3,.string a0_4,.int .i64 a0_5,.slice A0_6 l0_6.length c0_6,.slice A0_7 l0_7.length c0_7]] (by rfl) rfl rfl (by (try simp only [List.map_toArray,List.map_cons,List.map_nil]);first | done | rfl|(simp only [List.length_drop,List.length_take];rfl)) ?_
      with_reducible refine (laws_toConfig.calls kj12 a0_0 a0_1 a0_2 a0_3 a0_4 a0_5 _ _ l0_6 _ _ l0_7 t591 t592 t593 t594 t595 t596 t597 t600 _ ?side1 ?side2 ?side3 ?side4 A32.out).mono ?_
      (case side1 => repeat (first|exact (Kd.C_below HR0_6.out HB.out)|(with_reducible refine Kd.C_alloc ?_ _)|(with_reducible refine Kd.C_drewN ?_ _)|(with_reducible refine Kd.C_drew ?_)))
      (case side2 => exact HC0_6.out)
      (case side3 => repeat (first|exact (Kd.C_below HR0_7.out HB.out)|(with_reducible refine Kd.C_alloc ?_ _)|(with_reducible refine Kd.C_drewN ?_ _)|(with_reducible refine Kd.C_drew ?_)))
      (case side4 => exact HC0_7.out)
      rintro e w41 ⟨v598,v601,rfl,ho0,ho1,hb⟩
      refine ⟨_,rfl,?_⟩
      have n0_:=aMk (Kd.R_elder' (by (with_reducible repeat (first|apply Kd.R_alloc|apply Kd.R_drewN|apply Kd.R_drew));exact HO_589006.out) (Kd.R_base ho0) hb)
      have n1_:=aMk (Kd.S_elder' (by (with_reducible repeat (first|apply Kd.S_alloc|apply Kd.S_drewN|apply Kd.S_drew));exact HO_589007.out) (Kd.S_base ho1) hb)
      have n2_:=aMk (Kd.R_lower (Kd.R_new' ho0 (Kd.R_lt (by (with_reducible repeat (first|apply Kd.R_alloc|apply Kd.R_drewN|apply Kd.R_drew));exact HO_589006.out))) (below_size (by repeat (first|(with_reducible first|exact HB.out|apply bwA|apply bwN|apply bw1|refine below_set ?_ GE560.out|refine below_set ?_ GE588.out)|exact HB.out))))
      have n3_:=aMk (Kd.S_lower (Kd.S_new' ho1 (Kd.S_lt (by (with_reducible repeat (first|apply Kd.S_alloc|apply Kd.S_drewN|apply Kd.S_drew));exact HO_589007.out))) (below_size (by repeat (first|(with_reducible first|exact HB.out|apply bwA|apply bwN|apply bw1|refine below_set ?_ GE560.out|refine below_set ?_ GE588.out)|exact HB.out))))
      have n4_:=aMk (bkB BK560.out hb)
      have n5_:=aMk (bkB BK588.out hb)
      have n6_:=aMk (below_step (by repeat (first|(with_reducible first|exact HB.out|apply bwA|apply bwN|apply bw1|refine below_set ?_ GE560.out|refine below_set ?_ GE588.out)|exact HB.out)) hb)
      clear HO_589006
      clear HO_589007
      clear BK560
      clear BK588
      clear HB
      have HO_589006:=n0_
      have HO_589007:=n1_
      have HO599:=n2_
      have HO602:=n3_
      have BK560:=n4_
      have BK588:=n5_
      have HB:=n6_
      clear n0_ n1_ n2_ n3_ n4_ n5_ n6_
      (try clear hb)
      (try clear hb2)
      (try clear hk)
      (try clear hi)
      (try clear ho0)
      (try clear ho1)
      obtain ⟨Ao42,co42,eo42⟩:=Kd.R_slice HO599.out
      (first|subst eo42|(injection eo42 with f1_ f2_ f3_;have f4_:=f1_.symm;have f5_:=f3_.symm;clear f1_ f2_ f3_;subst f4_;subst f5_))
      obtain ⟨Ao43,co43,eo43⟩:=Kd.S_slice HO602.out
      (first|subst eo43|(injection eo43 with f1_ f2_ f3_;have f4_:=f1_.symm;have f5_:=f3_.symm;clear f1_ f2_ f3_;subst f4_;subst f5_))
      refine hK.out _ _ ⟨(bCe BK588.out 0).trans rfl,(bCe BK588.out 1).trans rfl,(bCe BK588.out 2).trans rfl,(bCe BK588.out 3).trans rfl,(bCe BK588.out 4).trans rfl,(bCe BK588.out 5).trans rfl,(bCe BK588.out 6).trans rfl,(bCe BK588.out 7).trans rfl,(bCe BK560.out 0).trans rfl,(bCe BK560.out 1).trans rfl,(bCe BK560.out 2).trans rfl,(bCe BK560.out 3).trans rfl,(bCe BK560.out 4).trans rfl,(bCe BK560.out 5).trans rfl,(bCe BK560.out 6).trans rfl,(bCe BK560.out 7).trans rfl⟩ (fun hHeld => ?_)
      clear hK K
      refine norm_ (a':=?_) ?_ ?_
      rotate_left
      ·show Act.put _ (some 45) _ = _
       simp only [Act.put,List.setIfInBounds_toArray,List.set_cons_zero,List.set_cons_succ,i64_w,i32_w]
       rfl
      refine one_ (i:=3) (N:=some 46) #[true,true,true,true,false] rfl rfl (by kernel_rfl) (by decide) (fun K hK => ?_)
      refine goes_ Try.func35 (by kernel_rfl) rfl #[.agg #[.int .i64 t576,.int .i64 t577,.int .i64 t578,.string t579,.string t580,.int .i64 t581,.slice Ao27 t582.length co27,.slice Ao28 t585.length co28],.agg #[.int .i64 t591,.int .i64 t592,.int .i64 t593,.string t594,.string t595,.int .i64 t596,.slice Ao42 t597.length co42,.slice Ao43 t600.length co43]] (by rfl) rfl rfl (by (try simp only [List.map_toArray,List.map_cons,List.map_nil]);first | done | rfl|(simp only [List.length_drop,List.length_take];rfl)) ?_
      with_reducible refine (laws_eqConfig.calls kj12 t576 t577 t578 t579 t580 t581 _ _ t582 _ _ t585 t591 t592 t593 t594 t595 t596 _ _ t597 _ _ t600 false _ ?side1 ?side2 ?side3 ?side4 ?side5 ?side6 ?side7 ?side8 A33.out).mono ?_
      (case side1 => repeat (first|exact (Kd.R_reads' HO_589006.out).2.2|(with_reducible refine Kd.C_alloc ?_ _)|(with_reducible refine Kd.C_drewN ?_ _)|(with_reducible refine Kd.C_drew ?_)))
      (case side2 => exact (Kd.R_reads' HO_589006.out).2.1)
      (case side3 => repeat (first|exact (Kd.S_reads' HO_589007.out).2.2|(with_reducible refine Kd.C_alloc ?_ _)|(with_reducible refine Kd.C_drewN ?_ _)|(with_reducible refine Kd.C_drew ?_)))
      (case side4 => exact (Kd.S_reads' HO_589007.out).2.1)
      (case side5 => repeat (first|exact (Kd.R_reads' HO599.out).2.2|(with_reducible refine Kd.C_alloc ?_ _)|(with_reducible refine Kd.C_drewN ?_ _)|(with_reducible refine Kd.C_drew ?_)))
      (case side6 => exact (Kd.R_reads' HO599.out).2.1)
      (case side7 => repeat (first|exact (Kd.S_reads' HO602.out).2.2|(with_reducible refine Kd.C_alloc ?_ _)|(with_reducible refine Kd.C_drewN ?_ _)|(with_reducible refine Kd.C_drew ?_)))
      (case side8 => exact (Kd.S_reads' HO602.out).2.1)
      rintro e w44 ⟨rfl,hb⟩
      refine ⟨_,rfl,?_⟩
      have n0_:=aMk (Kd.R_below (by (with_reducible repeat (first|apply Kd.R_alloc|apply Kd.R_drewN|apply Kd.R_drew));exact HO_589006.out) hb)
      have n1_:=aMk (Kd.S_below (by (with_reducible repeat (first|apply Kd.S_alloc|apply Kd.S_drewN|apply Kd.S_drew));exact HO_589007.out) hb)
      have n2_:=aMk (Kd.R_below (by (with_reducible repeat (first|apply Kd.R_alloc|apply Kd.R_drewN|apply Kd.R_drew));exact HO599.out) hb)
      have n3_:=aMk (Kd.S_below (by (with_reducible repeat (first|apply Kd.S_alloc|apply Kd.S_drewN|apply Kd.S_drew));exact HO602.out) hb)
      have n4_:=aMk (bkB BK560.out hb)
      have n5_:=aMk (bkB BK588.out hb)
      have n6_:=aMk (below_step (by repeat (first|(with_reducible first|exact HB.out|apply bwA|apply bwN|apply bw1|refine below_set ?_ GE560.out|refine below_set ?_ GE588.out)|exact HB.out)) hb)
      clear HO_589006
      clear HO_589007
      clear HO599
      clear HO602
      clear BK560
      clear BK588
      clear HB
      have HO_589006:=n0_
      have HO_589007:=n1_
      have HO599:=n2_
      have HO602:=n3_
      have BK560:=n4_
      have BK588:=n5_
      have HB:=n6_
      clear n0_ n1_ n2_ n3_ n4_ n5_ n6_
      (try clear hb)
      (try clear hb2)
      (try clear hk)
      (try clear hi)
      refine hK.out _ _ ⟨(bCe BK588.out 0).trans rfl,(bCe BK588.out 1).trans rfl,(bCe BK588.out 2).trans rfl,(bCe BK588.out 3).trans rfl,(bCe BK588.out 4).trans rfl,(bCe BK588.out 5).trans rfl,(bCe BK588.out 6).trans rfl,(bCe BK588.out 7).trans rfl,(bCe BK560.out 0).trans rfl,(bCe BK560.out 1).trans rfl,(bCe BK560.out 2).trans rfl,(bCe BK560.out 3).trans rfl,(bCe BK560.out 4).trans rfl,(bCe BK560.out 5).trans rfl,(bCe BK560.out 6).trans rfl,(bCe BK560.out 7).trans rfl⟩ (fun hHeld => ?_)
      clear hK K
      refine norm_ (a':=?_) ?_ ?_
      rotate_left
      ·show Act.put _ (some 46) _ = _
       simp only [Act.put,List.setIfInBounds_toArray,List.set_cons_zero,List.set_cons_succ,i64_w,i32_w]
       rfl
      refine pure_ (i:=4) (N:=some 47) (v:=?_) (a':=?_) #[true,true,true,true,true] rfl rfl (by kernel_rfl) (fun _ _ _ h => h) (Or.inl ⟨by rfl,?_⟩) ?_ ?_
      rotate_left
      ·intro w'
       go_simp
       with_reducible rfl
      rotate_left
      ·simp only [Act.put,List.setIfInBounds_toArray,List.set_cons_zero,List.set_cons_succ,i64_w,i32_w]
       rfl
      refine done_ (by kernel_rfl) ?_
      try go_wp2
      go_ret
      exact ⟨eRf,by repeat (first|(with_reducible first|exact HB.out|apply bwA|apply bwN|apply bw1|refine below_set ?_ GE560.out|refine below_set ?_ GE588.out)|exact HB.out)⟩
end
section
-- IMPORT Derived.Laws.BitsLemmas
-- IMPORT Derived.OpenShut
theorem wrap_id {n : Int} (h0 : -9223372036854775808 ≤ n) (h1 : n ≤ 9223372036854775807) : wrap64 n = n:=by
 unfold wrap64;omega
end
section
-- NEEDS spec.l01In impl.within
theorem l01In_eq (a b c : Int) : spec_l01In.f a b c = some (decide (b ≤ a ∧ a ≤ c)):=by unfold spec_l01In.f;grind
theorem within_eq (a b c : Int) : impl_within.f a b c = some (decide (b ≤ a ∧ a ≤ c)):=by unfold impl_within.f;grind
end
section
-- NEEDS spec.l00Letter spec.l00Digit impl.isLetter impl.isDigit
def letb (c : Int) : Bool:=decide (97 ≤ c ∧ c ≤ 122) || (decide (65 ≤ c ∧ c ≤ 90) || decide (c = 95))
def digb (c : Int) : Bool:=decide (48 ≤ c ∧ c ≤ 57)
theorem spec_letter (c : Int) : spec_l00Letter.f c = some (letb c):=by unfold spec_l00Letter.f letb;grind
theorem spec_digit (c : Int) : spec_l00Digit.f c = some (digb c):=by unfold spec_l00Digit.f digb;grind
theorem impl_letter (c : Int) : impl_isLetter.f c = some (letb c):=by unfold impl_isLetter.f letb;grind
theorem impl_digit (c : Int) : impl_isDigit.f c = some (digb c):=by unfold impl_isDigit.f digb;grind
end
section
-- NEEDS spec.NameOK impl.NameOK
def wordFrom (a : ByteArray) : Nat → Nat → Bool
 | _,0 => true
 | i,d + 1 => (letb (bt a i) || digb (bt a i)) && wordFrom a (i + 1) d
def nameb (a : ByteArray) : Bool:=decide (1 ≤ a.size ∧ a.size ≤ 40) && (letb (bt a 0) && wordFrom a 1 (a.size - 1))
theorem spec_word_run (a : ByteArray) (hs : a.size ≤ 40) : ∀ (d i : Nat),i + d = a.size → ∀ k,d + 1 ≤ k → spec_l00Word.l0 k a (i : Int) = some (wordFrom a i d)
 | 0,i,h,k,hk => by
  obtain ⟨k,rfl⟩ : ∃ z,k = z + 1:=⟨k - 1,by omega⟩
  rw [spec_l00Word.l0,if_neg (by omega)];rfl
 | d + 1,i,h,k,hk => by
  obtain ⟨k,rfl⟩ : ∃ z,k = z + 1:=⟨k - 1,by omega⟩
  have ih:=spec_word_run a hs d (i + 1) (by omega) k (by omega)
  rw [spec_l00Word.l0,if_pos (by omega),if_pos (by omega),spec_letter,Option.bind_some,spec_digit,Option.bind_some,wrap_id (by omega) (by omega),show (i : Int) + 1 = ((i + 1 : Nat) : Int) by omega,ih,wordFrom]
  cases letb (bt a i) <;> cases digb (bt a i) <;> simp
theorem impl_word_run (a : ByteArray) (hs : a.size ≤ 40) : ∀ (d i : Nat),i + d = a.size → ∀ k,d + 1 ≤ k → impl_NameOK.l0 k a (a.size : Int) (i : Int) = some (wordFrom a i d)
 | 0,i,h,k,hk => by
  obtain ⟨k,rfl⟩ : ∃ z,k = z + 1:=⟨k - 1,by omega⟩
  rw [impl_NameOK.l0,if_neg (by omega)];rfl
 | d + 1,i,h,k,hk => by
  obtain ⟨k,rfl⟩ : ∃ z,k = z + 1:=⟨k - 1,by omega⟩
  have ih:=impl_word_run a hs d (i + 1) (by omega) k (by omega)
  rw [impl_NameOK.l0,if_pos (by omega),if_pos (by omega),if_pos (by omega),impl_letter,Option.bind_some,impl_digit,Option.bind_some,wrap_id (by omega) (by omega),show (i : Int) + 1 = ((i + 1 : Nat) : Int) by omega,ih,wordFrom]
  cases letb (bt a i) <;> cases digb (bt a i) <;> simp
theorem spec_Name_ev (a : ByteArray) (k : Nat) (hk : a.size + 2 ≤ k) : spec_NameOK.f k a = some (nameb a):=by
 obtain ⟨k,rfl⟩ : ∃ z,k = z + 1:=⟨k - 1,by omega⟩
 unfold spec_NameOK.f spec_l00Word.f nameb
 by_cases h1 : (a.size : Int) < 1
 ·rw [if_pos h1,decide_eq_false (by omega)];simp [spec_l00Word.j0]
 ·by_cases h2 : (a.size : Int) > 40
  ·rw [if_neg h1,if_pos h2,decide_eq_false (by omega)];simp [spec_l00Word.j0]
  ·have e:=spec_word_run a (by omega) (a.size - 1) 1 (by omega) k (by omega)
   rw [if_neg h1,if_neg h2,if_pos (by omega),decide_eq_true (by omega),spec_letter,Option.bind_some,spec_l00Word.j0]
   rw [show ((1 : Nat) : Int) = 1 from rfl] at e
   rw [e]
   cases letb (bt a 0) <;> simp
theorem letb_digb {c : Int} (h : digb c = true) : letb c = false:=by
 simp only [digb,decide_eq_true_eq] at h
 simp only [letb]
 rw [decide_eq_false (by omega),decide_eq_false (by omega),decide_eq_false (by omega)];rfl
theorem impl_Name_ev (a : ByteArray) (k : Nat) (hk : a.size + 2 ≤ k) : impl_NameOK.f k a = some (nameb a):=by
 obtain ⟨k,rfl⟩ : ∃ z,k = z + 1:=⟨k - 1,by omega⟩
 unfold impl_NameOK.f nameb
 rw [within_eq,Option.bind_some]
 by_cases h1 : 1 ≤ a.size ∧ a.size ≤ 40
 ·have e:=impl_word_run a (by omega) a.size 0 (by omega) k (by omega)
  have ew : wordFrom a 0 a.size = ((letb (bt a 0) || digb (bt a 0)) && wordFrom a 1 (a.size - 1)):=by
   obtain ⟨n,hn⟩ : ∃ n,a.size = n + 1:=⟨a.size - 1,by omega⟩
   rw [hn];rfl
  rw [decide_eq_true (by omega),if_pos rfl,if_pos (by omega),impl_digit,Option.bind_some,impl_NameOK.j0,decide_eq_true h1]
  rw [show ((0 : Nat) : Int) = 0 from rfl] at e
  rw [e,ew]
  cases hd : digb (bt a 0)
  ·simp
  ·simp [letb_digb hd]
 ·rw [decide_eq_false (by omega),if_neg (by decide),decide_eq_false h1];simp [impl_NameOK.j0]
end
section
-- NEEDS spec.l07Range impl.rangeOK
def rangeb (lo hi : Int) : Bool:=decide (0 ≤ lo ∧ lo ≤ 65535) && decide (lo ≤ hi ∧ hi ≤ 65535)
theorem spec_range_eq (lo hi : Int) : spec_l07Range.f lo hi = some (rangeb lo hi):=by
 simp only [spec_l07Range.f,l01In_eq,Option.bind_some,rangeb]
 by_cases h : 0 ≤ lo ∧ lo ≤ 65535
 ·rw [decide_eq_true h];rfl
 ·rw [decide_eq_false h];rfl
theorem impl_range_eq (lo hi : Int) : impl_rangeOK.f lo hi = some (rangeb lo hi):=by
 simp only [impl_rangeOK.f,within_eq,Option.bind_some,rangeb]
 by_cases h : 0 ≤ lo ∧ lo ≤ hi
 ·rw [decide_eq_true h,if_pos rfl,← Bool.decide_and]
  congr 1;exact decide_eq_decide.2 (by omega)
 ·rw [decide_eq_false h,if_neg (by decide),← Bool.decide_and,decide_eq_false (by omega)]
end
section
-- NEEDS spec.l01Ip impl.isAddress
theorem l01Ip_eq (a : Int) : spec_l01Ip.f a = some (decide (0 ≤ a ∧ a ≤ 4294967295)):=by simp only [spec_l01Ip.f,l01In_eq,Option.bind_some]
theorem isAddress_eq (a : Int) : impl_isAddress.f a = some (decide (0 ≤ a ∧ a ≤ 4294967295)):=by simp only [impl_isAddress.f,within_eq,Option.bind_some]
end
section
-- NEEDS spec.NetOK impl.NetOK spec.l05Has (impl.Net).has
-- IMPORT Derived.Laws.Bits64
theorem wrapu_id {n : Int} (h0 : 0 ≤ n) (h1 : n ≤ 9223372036854775807) : IntKind.u64.wrap n = n:=by
 rw [IntKind.wrap_u64];omega
def netb (ip b : Int) : Bool:=decide (0 ≤ ip ∧ ip ≤ 4294967295) && (decide (0 ≤ b ∧ b ≤ 32) && (Go.bits .and .i64 ip (wrap64 ((shl .i64 1 (32 - b)) - 1)) == 0))
theorem net_ite (p q x : Bool) : (if p = true then (if q = true then some x else some false) else some false) = some (p && (q && x)):=by cases p <;> cases q <;> rfl
theorem spec_NetOK_eq (ip b : Int) : spec_NetOK.f ip b = some (netb ip b):=by
 simp only [spec_NetOK.f,l01Ip_eq,l01In_eq,Option.bind_some]
 by_cases h : 0 ≤ b ∧ b ≤ 32
 ·rw [wrap_id (n:=32 - b) (by omega) (by omega),wrapu_id (by omega) (by omega),if_pos (show 0 ≤ 32 - b by omega),net_ite];rfl
 ·rw [decide_eq_false h];simp [netb,h]
theorem impl_NetOK_eq (ip b : Int) : impl_NetOK.f ip b = some (netb ip b):=by
 simp only [impl_NetOK.f,isAddress_eq,within_eq,Option.bind_some]
 by_cases h : 0 ≤ b ∧ b ≤ 32
 ·rw [wrap_id (n:=32 - b) (by omega) (by omega),if_pos (show 0 ≤ 32 - b by omega),net_ite];rfl
 ·rw [decide_eq_false h];simp [netb,h]
theorem netb_bits {ip b : Int} (h : netb ip b = true) : 0 ≤ b ∧ b ≤ 32:=by
 simp only [netb,Bool.and_eq_true,decide_eq_true_eq] at h;exact h.2.1
def hasb (b ip a : Int) : Bool:=(shr .i64 ip (32 - b)) == (shr .i64 a (32 - b))
theorem spec_has_eq {ip b : Int} (h : netb ip b = true) (a : Int) : spec_l05Has.f ip b a = some (hasb b ip a):=by
 have:=netb_bits h
 simp only [spec_l05Has.f]
 rw [wrap_id (n:=32 - b) (by omega) (by omega),wrapu_id (by omega) (by omega),if_pos (show 0 ≤ 32 - b by omega)];rfl
theorem impl_has_eq {ip b : Int} (h : netb ip b = true) (a : Int) : impl_Net_has.f ip b a = some (hasb b ip a):=by
 have:=netb_bits h
 simp only [impl_Net_has.f]
 rw [wrap_id (n:=32 - b) (by omega) (by omega),if_pos (show 0 ≤ 32 - b by omega)];rfl
end
section
-- NEEDS spec.RuleOK impl.RuleOK
def ruleb (p ip b lo hi : Int) : Bool:=decide (p = 0 ∨ p = 1 ∨ p = 6 ∨ p = 17) && (netb ip b && rangeb lo hi)
theorem spec_RuleOK_eq (p ip b lo hi : Int) (w : Bool) : spec_RuleOK.f p ip b lo hi w = some (ruleb p ip b lo hi):=by
 simp only [spec_RuleOK.f,spec_NetOK_eq,spec_range_eq,Option.bind_some,ruleb]
 by_cases h0 : p = 0
 ·rw [if_pos h0];simp only [h0];cases netb ip b <;> simp
 by_cases h1 : p = 1
 ·rw [if_neg h0,if_pos h1];simp only [h1];cases netb ip b <;> simp
 by_cases h2 : p = 6
 ·rw [if_neg h0,if_neg h1,if_pos h2];simp only [h2];cases netb ip b <;> simp
 by_cases h3 : p = 17
 ·rw [if_neg h0,if_neg h1,if_neg h2,if_pos h3];simp only [h3];cases netb ip b <;> simp
 rw [if_neg h0,if_neg h1,if_neg h2,if_neg h3,decide_eq_false (by omega)];rfl
theorem contains4 (k : Nat) (p : Int) : slices_Contains_int_int.f (k + 5) [0,1,6,17] p = some (decide (p = 0 ∨ p = 1 ∨ p = 6 ∨ p = 17)):=by
 have w1 : wrap64 (0 + 1) = 1:=by rw [wrap_id (by omega) (by omega)];rfl
 have w2 : wrap64 (1 + 1) = 2:=by rw [wrap_id (by omega) (by omega)];rfl
 have w3 : wrap64 (2 + 1) = 3:=by rw [wrap_id (by omega) (by omega)];rfl
 have w4 : wrap64 (3 + 1) = 4:=by rw [wrap_id (by omega) (by omega)];rfl
 have r0 : rd [0,1,6,17] 0 = 0:=by decide
 have r1 : rd [0,1,6,17] 1 = 1:=by decide
 have r2 : rd [0,1,6,17] 2 = 6:=by decide
 have r3 : rd [0,1,6,17] 3 = 17:=by decide
 have l : ((([0,1,6,17] : List Int).length : Nat) : Int) = 4:=by decide
 simp only [slices_Contains_int_int.f,slices_Index_int_int.f,slices_Index_int_int.l0,l,w1,w2,w3,w4,r0,r1,r2,r3]
 by_cases h0 : p = 0
 ·simp [h0]
 by_cases h1 : p = 1
 ·simp [h1]
 by_cases h2 : p = 6
 ·simp [h2]
 by_cases h3 : p = 17
 ·simp [h3]
 simp [h0,h1,h2,h3]
theorem impl_RuleOK_eq (k : Nat) (p ip b lo hi : Int) (w : Bool) : impl_RuleOK.f (k + 5) p ip b lo hi w = some (ruleb p ip b lo hi):=by
 simp only [impl_RuleOK.f,contains4,impl_NetOK_eq,impl_range_eq,Option.bind_some,ruleb]
 cases decide (p = 0 ∨ p = 1 ∨ p = 6 ∨ p = 17) <;> cases netb ip b <;> simp
end
section
def fst_T36 (q : S36 → Bool) (l : List S36) : Nat → Int → Int
 | 0,_ => -1
 | d + 1,i => if q (rd_T36 l i) = true then i else fst_T36 q l d (i + 1)
def any_T36 (q : S36 → Bool) (l : List S36) : Nat → Int → Bool
 | 0,_ => false
 | d + 1,i => q (rd_T36 l i) || any_T36 q l d (i + 1)
theorem fst_any_T36 (q : S36 → Bool) (l : List S36) : ∀ (d : Nat) (i : Int),0 ≤ i → decide (0 ≤ fst_T36 q l d i) = any_T36 q l d i
 | 0,i,_ => by simp [fst_T36,any_T36]
 | d + 1,i,h => by
  rw [fst_T36,any_T36]
  cases e : q (rd_T36 l i)
  ·rw [if_neg (by simp),fst_any_T36 q l d (i + 1) (by omega),Bool.false_or]
  ·rw [if_pos rfl,decide_eq_true h,Bool.true_or]
theorem idxP36_ev (q : S36 → Bool) (l : List S36) (hx : (l.length : Int) ≤ 1152921504606846976) (p : S36 → Option Bool) (hp : ∀ x,p x = some (q x)) : ∀ (d : Nat) (i : Int),0 ≤ i → (l.length : Int) - i = d → ∀ k,d + 1 ≤ k → idxP36 p l k i = some (fst_T36 q l d i)
 | 0,i,h0,hd,k,hk => by
  obtain ⟨k,rfl⟩ : ∃ z,k = z + 1:=⟨k - 1,by omega⟩
  rw [idxP36,if_neg (by omega)];rfl
 | d + 1,i,h0,hd,k,hk => by
  obtain ⟨k,rfl⟩ : ∃ z,k = z + 1:=⟨k - 1,by omega⟩
  rw [idxP36,if_pos (by omega),if_pos h0,hp,Option.bind_some,fst_T36,wrap_id (by omega) (by omega),idxP36_ev q l hx p hp d (i + 1) (by omega) (by omega) k (by omega)]
  cases q (rd_T36 l i) <;> simp
theorem containsP36_ev (q : S36 → Bool) (l : List S36) (hx : (l.length : Int) ≤ 1152921504606846976) (p : S36 → Option Bool) (hp : ∀ x,p x = some (q x)) (k : Nat) (hk : l.length + 1 ≤ k) :
  ((idxP36 p l k 0).bind fun t => some (decide (0 ≤ t))) = some (any_T36 q l l.length 0):=by
 rw [idxP36_ev q l hx p hp l.length 0 (by omega) (by omega) k hk,Option.bind_some,fst_any_T36 q l _ 0 (by omega)]
end
section
-- NEEDS impl.RoleOK spec.RoleOK
def badRule (x : S36) : Bool:=!ruleb x.f0 x.f1.f0 x.f1.f1 x.f2.f0 x.f2.f1
def roleb (a : ByteArray) (l : List S36) (q m z : Int) : Bool :=
 nameb a && (decide ((a.size : Int) ≤ 8) && (decide ((l.length : Int) ≤ 8) && (decide (1 ≤ q ∧ q ≤ 1000000) && (decide (1 ≤ m ∧ m ≤ 1000) && (decide (1 ≤ z ∧ z ≤ 1000) && !any_T36 badRule l l.length 0)))))
theorem impl_rules_ev (l : List S36) (hx : (l.length : Int) ≤ 1152921504606846976) (k : Nat) (hk : l.length + 5 ≤ k) : impl_Rule_58.f k l = some (any_T36 badRule l l.length 0):=by
 unfold impl_Rule_58.f
 refine containsP36_ev badRule l hx _ (fun x => ?_) k (by omega)
 obtain ⟨k,rfl⟩ : ∃ z,k = z + 5:=⟨k - 5,by omega⟩
 simp only [impl_RoleOK_1.f,impl_RuleOK_eq k,Option.bind_some,badRule]
theorem spec_rules_run (a : ByteArray) (l : List S36) (q m z : Int) (hx : (l.length : Int) ≤ 1152921504606846976) : ∀ (d : Nat) (i : Int),0 ≤ i → (l.length : Int) - i = d → ∀ k,d + 1 ≤ k → spec_RoleOK.l0 k i a l q m z = some (!any_T36 badRule l d i)
 | 0,i,h0,hd,k,hk => by
  obtain ⟨k,rfl⟩ : ∃ z,k = z + 1:=⟨k - 1,by omega⟩
  rw [spec_RoleOK.l0,if_neg (by omega)];rfl
 | d + 1,i,h0,hd,k,hk => by
  obtain ⟨k,rfl⟩ : ∃ z,k = z + 1:=⟨k - 1,by omega⟩
  rw [spec_RoleOK.l0,if_pos (by omega),if_pos h0,spec_RuleOK_eq,Option.bind_some,any_T36,wrap_id (by omega) (by omega),spec_rules_run a l q m z hx d (i + 1) (by omega) (by omega) k (by omega)]
  unfold badRule
  generalize ruleb _ _ _ _ _ = u
  cases u <;> simp
theorem spec_role_j (k : Nat) (x : Bool) (a : ByteArray) (l : List S36) (q m z : Int) (hx : (l.length : Int) ≤ 1152921504606846976) (hk : l.length + 2 ≤ k) : spec_RoleOK.j0 k x a l q m z = some (!x && !any_T36 badRule l l.length 0):=by
 obtain ⟨k,rfl⟩ : ∃ z,k = z + 1:=⟨k - 1,by omega⟩
 rw [spec_RoleOK.j0,spec_rules_run a l q m z hx l.length 0 (by omega) (by omega) k (by omega)]
 cases x <;> simp
theorem spec_Role_ev (a : ByteArray) (l : List S36) (q m z : Int) (hx : (l.length : Int) ≤ 1152921504606846976) (k : Nat) (hk : a.size + l.length + 5 ≤ k) : spec_RoleOK.f k a l q m z = some (roleb a l q m z):=by
 have j:=fun x => spec_role_j k x a l q m z hx (by omega)
 simp only [spec_RoleOK.f,spec_Name_ev a k (by omega),l01In_eq,Option.bind_some,j,roleb]
 cases nameb a
 ·simp
 by_cases h1 : (a.size : Int) ≤ 8
 ·rw [if_pos rfl,if_neg (by omega),decide_eq_true h1]
  by_cases h2 : (l.length : Int) ≤ 8
  ·rw [if_neg (by omega),decide_eq_true h2]
   cases decide (1 ≤ q ∧ q ≤ 1000000) <;> cases decide (1 ≤ m ∧ m ≤ 1000) <;> cases decide (1 ≤ z ∧ z ≤ 1000) <;> simp
  ·rw [if_pos (by omega),decide_eq_false h2];simp
 ·rw [if_pos rfl,if_pos (by omega),decide_eq_false h1];simp
theorem impl_role_j (k : Nat) (x : Bool) (a : ByteArray) (l : List S36) (q m z : Int) (hk : 1 ≤ k) : impl_RoleOK.j0 k x a l q m z = some (!x && (decide (1 ≤ q ∧ q ≤ 1000000) && (decide (1 ≤ m ∧ m ≤ 1000) && decide (1 ≤ z ∧ z ≤ 1000)))):=by
 obtain ⟨k,rfl⟩ : ∃ z,k = z + 1:=⟨k - 1,by omega⟩
 simp only [impl_RoleOK.j0,within_eq,Option.bind_some]
 cases x <;> cases decide (1 ≤ q ∧ q ≤ 1000000) <;> cases decide (1 ≤ m ∧ m ≤ 1000) <;> simp
theorem impl_Role_ev (a : ByteArray) (l : List S36) (q m z : Int) (hx : (l.length : Int) ≤ 1152921504606846976) (k : Nat) (hk : a.size + l.length + 5 ≤ k) : impl_RoleOK.f k a l q m z = some (roleb a l q m z):=by
 have j:=fun x => impl_role_j k x a l q m z (by omega)
 simp only [impl_RoleOK.f,impl_shortName.f,impl_Name_ev a k (by omega),Option.bind_some,j,roleb,impl_rules_ev l hx k (by omega)]
 cases nameb a
 ·simp
 by_cases h1 : (a.size : Int) ≤ 8
 ·rw [if_pos rfl,decide_eq_true h1,Option.bind_some,if_pos rfl]
  by_cases h2 : (l.length : Int) ≤ 8
  ·rw [if_neg (by omega),decide_eq_true h2]
   cases any_T36 badRule l l.length 0 <;> simp
  ·rw [if_pos (by omega),decide_eq_false h2];simp
 ·rw [if_pos rfl,decide_eq_false h1,Option.bind_some,if_neg (by decide)];simp
end
section
def fst_T100 (q : S100 → Bool) (l : List S100) : Nat → Int → Int
 | 0,_ => -1
 | d + 1,i => if q (rd_T100 l i) = true then i else fst_T100 q l d (i + 1)
def any_T100 (q : S100 → Bool) (l : List S100) : Nat → Int → Bool
 | 0,_ => false
 | d + 1,i => q (rd_T100 l i) || any_T100 q l d (i + 1)
theorem fst_any_T100 (q : S100 → Bool) (l : List S100) : ∀ (d : Nat) (i : Int),0 ≤ i → decide (0 ≤ fst_T100 q l d i) = any_T100 q l d i
 | 0,i,_ => by simp [fst_T100,any_T100]
 | d + 1,i,h => by
  rw [fst_T100,any_T100]
  cases e : q (rd_T100 l i)
  ·rw [if_neg (by simp),fst_any_T100 q l d (i + 1) (by omega),Bool.false_or]
  ·rw [if_pos rfl,decide_eq_true h,Bool.true_or]
theorem any_false_T100 (q : S100 → Bool) (l : List S100) : ∀ (d : Nat) (i : Int),any_T100 q l d i = false → ∀ j : Int,i ≤ j → j < i + d → q (rd_T100 l j) = false
 | 0,i,_,j,h1,h2 => by omega
 | d + 1,i,h,j,h1,h2 => by
  rw [any_T100,Bool.or_eq_false_iff] at h
  by_cases e : j = i
  ·rw [e];exact h.1
  ·exact any_false_T100 q l d (i + 1) h.2 j (by omega) (by omega)
theorem idxP100_ev (q : S100 → Bool) (l : List S100) (hx : (l.length : Int) ≤ 1152921504606846976) (p : S100 → Option Bool) (hp : ∀ x,p x = some (q x)) : ∀ (d : Nat) (i : Int),0 ≤ i → (l.length : Int) - i = d → ∀ k,d + 1 ≤ k → idxP100 p l k i = some (fst_T100 q l d i)
 | 0,i,h0,hd,k,hk => by
  obtain ⟨k,rfl⟩ : ∃ z,k = z + 1:=⟨k - 1,by omega⟩
  rw [idxP100,if_neg (by omega)];rfl
 | d + 1,i,h0,hd,k,hk => by
  obtain ⟨k,rfl⟩ : ∃ z,k = z + 1:=⟨k - 1,by omega⟩
  rw [idxP100,if_pos (by omega),if_pos h0,hp,Option.bind_some,fst_T100,wrap_id (by omega) (by omega),idxP100_ev q l hx p hp d (i + 1) (by omega) (by omega) k (by omega)]
  cases q (rd_T100 l i) <;> simp
theorem containsP100_ev (q : S100 → Bool) (l : List S100) (hx : (l.length : Int) ≤ 1152921504606846976) (p : S100 → Option Bool) (hp : ∀ x,p x = some (q x)) (k : Nat) (hk : l.length + 1 ≤ k) :
  ((idxP100 p l k 0).bind fun t => some (decide (0 ≤ t))) = some (any_T100 q l l.length 0):=by
 rw [idxP100_ev q l hx p hp l.length 0 (by omega) (by omega) k hk,Option.bind_some,fst_any_T100 q l _ 0 (by omega)]
theorem idxP100_evr (q : S100 → Bool) (l : List S100) (hx : (l.length : Int) ≤ 1152921504606846976) (p : S100 → Option Bool) : ∀ (d : Nat) (i : Int),0 ≤ i → (l.length : Int) - i = d → (∀ j : Int,i ≤ j → j < l.length → p (rd_T100 l j) = some (q (rd_T100 l j))) → ∀ k,d + 1 ≤ k → idxP100 p l k i = some (fst_T100 q l d i)
 | 0,i,h0,hd,hp,k,hk => by
  obtain ⟨k,rfl⟩ : ∃ z,k = z + 1:=⟨k - 1,by omega⟩
  rw [idxP100,if_neg (by omega)];rfl
 | d + 1,i,h0,hd,hp,k,hk => by
  obtain ⟨k,rfl⟩ : ∃ z,k = z + 1:=⟨k - 1,by omega⟩
  rw [idxP100,if_pos (by omega),if_pos h0,hp i (by omega) (by omega),Option.bind_some,fst_T100,wrap_id (by omega) (by omega),idxP100_evr q l hx p d (i + 1) (by omega) (by omega) (fun j h1 h2 => hp j (by omega) h2) k (by omega)]
  cases q (rd_T100 l i) <;> simp
end
section
-- NEEDS impl.ConfigOK spec.ConfigOK
def badPlace (x : S100) : Bool:=!netb x.f0.f0 x.f0.f1 || !rangeb x.f1.f0 x.f1.f1
def rolesFrom (l : List S54) : Nat → Int → Bool
 | 0,_ => true
 | d + 1,i => roleb (rd_T54 l i).f0 (rd_T54 l i).f1 (rd_T54 l i).f2 (rd_T54 l i).f3 (rd_T54 l i).f4 && ((decide (i ≤ 0) || Op.bytesLess ((rd_T54 l (i - 1)).f0).toList ((rd_T54 l i).f0).toList) && rolesFrom l d (i + 1))
def configb (ip b gate : Int) (gm wm : ByteArray) (res : Int) (g : List S100) (l : List S54) : Bool :=
 netb ip b && (decide (0 ≤ gate ∧ gate ≤ 4294967295) && (hasb b ip gate && (((gm.size : Int) == 6) && (((wm.size : Int) == 6) && (decide (0 ≤ res ∧ res ≤ 4294967295) && (!hasb b ip res && (decide ((g.length : Int) ≤ 8) && (decide (1 ≤ (l.length : Int) ∧ (l.length : Int) ≤ 4) && (!any_T100 badPlace g g.length 0 && rolesFrom l l.length 0)))))))))
theorem impl_places_ev (g : List S100) (hx : (g.length : Int) ≤ 1152921504606846976) (k : Nat) (hk : g.length + 1 ≤ k) : impl_Place_74.f k g = some (any_T100 badPlace g g.length 0):=by
 unfold impl_Place_74.f
 refine containsP100_ev badPlace g hx _ (fun x => ?_) k hk
 simp only [impl_ConfigOK_1.f,impl_NetOK_eq,impl_range_eq,Option.bind_some,badPlace]
 cases netb x.f0.f0 x.f0.f1 <;> simp
/-- The roles' bound: no name and no list of rules is longer. -/
def Slim (l : List S54) (M : Nat) : Prop:=∀ j : Int,(rd_T54 l j).f0.size + (rd_T54 l j).f1.length ≤ M
theorem spec_roles_run (ip b gate : Int) (gm wm : ByteArray) (res : Int) (g : List S100) (l : List S54) (hx : (l.length : Int) ≤ 1152921504606846976) (M : Nat) (hs : Slim l M) (hM : M ≤ 1152921504606846976) :
  ∀ (d : Nat) (i : Int),0 ≤ i → (l.length : Int) - i = d → ∀ k,d + M + 6 ≤ k → spec_ConfigOK.l1 k i ip b gate gm wm res g l = some (rolesFrom l d i)
 | 0,i,h0,hd,k,hk => by
  obtain ⟨k,rfl⟩ : ∃ z,k = z + 1:=⟨k - 1,by omega⟩
  rw [spec_ConfigOK.l1,if_neg (by omega)];rfl
 | d + 1,i,h0,hd,k,hk => by
  obtain ⟨k,rfl⟩ : ∃ z,k = z + 1:=⟨k - 1,by omega⟩
  have hj:=hs i
  have ih:=spec_roles_run ip b gate gm wm res g l hx M hs hM d (i + 1) (by omega) (by omega) k (by omega)
  rw [spec_ConfigOK.l1,if_pos (by omega),if_pos h0,spec_Role_ev _ _ _ _ _ (by omega) k (by omega),Option.bind_some,rolesFrom,wrap_id (n:=i + 1) (by omega) (by omega),wrap_id (n:=i - 1) (by omega) (by omega),ih]
  generalize roleb _ _ _ _ _ = u
  cases u
  ·simp
  by_cases hi : i > 0
  ·rw [if_pos rfl,if_pos hi,if_pos (by omega),if_pos (by omega),decide_eq_false (show ¬ i ≤ 0 by omega)]
   cases Op.bytesLess ((rd_T54 l (i - 1)).f0).toList ((rd_T54 l i).f0).toList <;> simp
  ·rw [if_pos rfl,if_neg hi,decide_eq_true (show i ≤ 0 by omega)];simp
theorem impl_roles_run (ip b gate : Int) (gm wm : ByteArray) (res : Int) (g : List S100) (l : List S54) (hx : (l.length : Int) ≤ 1152921504606846976) (M : Nat) (hs : Slim l M) (hM : M ≤ 1152921504606846976) :
  ∀ (d : Nat) (i : Int),0 ≤ i → (l.length : Int) - i = d → ∀ k,d + M + 6 ≤ k → impl_ConfigOK.l0 k l (l.length : Int) i ip b gate gm wm res g l = some (rolesFrom l d i)
 | 0,i,h0,hd,k,hk => by
  obtain ⟨k,rfl⟩ : ∃ z,k = z + 1:=⟨k - 1,by omega⟩
  rw [impl_ConfigOK.l0,if_neg (by omega)];rfl
 | d + 1,i,h0,hd,k,hk => by
  obtain ⟨k,rfl⟩ : ∃ z,k = z + 1:=⟨k - 1,by omega⟩
  have hj:=hs i
  have ih:=impl_roles_run ip b gate gm wm res g l hx M hs hM d (i + 1) (by omega) (by omega) k (by omega)
  rw [impl_ConfigOK.l0,if_pos (by omega),if_pos h0,if_pos (by omega),impl_Role_ev _ _ _ _ _ (by omega) k (by omega),Option.bind_some,rolesFrom,wrap_id (n:=i + 1) (by omega) (by omega),wrap_id (n:=i - 1) (by omega) (by omega),ih]
  generalize roleb _ _ _ _ _ = u
  cases u
  ·simp
  by_cases hi : i > 0
  ·rw [if_pos rfl,if_pos hi,if_pos (by omega),if_pos (by omega),decide_eq_false (show ¬ i ≤ 0 by omega)]
   cases Op.bytesLess ((rd_T54 l (i - 1)).f0).toList ((rd_T54 l i).f0).toList <;> simp
  ·rw [if_pos rfl,if_neg hi,decide_eq_true (show i ≤ 0 by omega)];simp
theorem spec_places_run (ip b gate : Int) (gm wm : ByteArray) (res : Int) (g : List S100) (l : List S54) (hx : (g.length : Int) ≤ 1152921504606846976) (R : Bool) (K : Nat) (hR : ∀ k,K ≤ k → spec_ConfigOK.l1 k 0 ip b gate gm wm res g l = some R) :
  ∀ (d : Nat) (i : Int),0 ≤ i → (g.length : Int) - i = d → ∀ k,d + K + 1 ≤ k → spec_ConfigOK.l0 k i ip b gate gm wm res g l = some (!any_T100 badPlace g d i && R)
 | 0,i,h0,hd,k,hk => by
  obtain ⟨k,rfl⟩ : ∃ z,k = z + 1:=⟨k - 1,by omega⟩
  rw [spec_ConfigOK.l0,if_neg (by omega),hR k (by omega)];rfl
 | d + 1,i,h0,hd,k,hk => by
  obtain ⟨k,rfl⟩ : ∃ z,k = z + 1:=⟨k - 1,by omega⟩
  have ih:=spec_places_run ip b gate gm wm res g l hx R K hR d (i + 1) (by omega) (by omega) k (by omega)
  rw [spec_ConfigOK.l0,if_pos (by omega),if_pos h0,spec_NetOK_eq,Option.bind_some,spec_range_eq,Option.bind_some,wrap_id (by omega) (by omega),ih,any_T100,badPlace]
  cases netb (rd_T100 g i).f0.f0 (rd_T100 g i).f0.f1 <;> cases rangeb (rd_T100 g i).f1.f0 (rd_T100 g i).f1.f1 <;> simp
theorem spec_cfg_j (ip b gate : Int) (gm wm : ByteArray) (res : Int) (g : List S100) (l : List S54) (hx : (l.length : Int) ≤ 1152921504606846976) (hg : (g.length : Int) ≤ 1152921504606846976) (M : Nat) (hs : Slim l M) (hM : M ≤ 1152921504606846976) (x : Bool) (k : Nat) (hk : g.length + l.length + M + 8 ≤ k) :
  spec_ConfigOK.j0 k x ip b gate gm wm res g l = some (!x && (!any_T100 badPlace g g.length 0 && rolesFrom l l.length 0)):=by
 obtain ⟨k,rfl⟩ : ∃ z,k = z + 1:=⟨k - 1,by omega⟩
 rw [spec_ConfigOK.j0,spec_places_run ip b gate gm wm res g l hg (rolesFrom l l.length 0) (l.length + M + 6) (fun k hk => spec_roles_run ip b gate gm wm res g l hx M hs hM l.length 0 (by omega) (by omega) k (by omega)) g.length 0 (by omega) (by omega) k (by omega)]
 cases x <;> simp
theorem spec_Config_ev (ip b gate : Int) (gm wm : ByteArray) (res : Int) (g : List S100) (l : List S54) (hx : (l.length : Int) ≤ 1152921504606846976) (hg : (g.length : Int) ≤ 1152921504606846976) (M : Nat) (hs : Slim l M) (hM : M ≤ 1152921504606846976) (k : Nat) (hk : g.length + l.length + M + 8 ≤ k) :
  spec_ConfigOK.f k ip b gate gm wm res g l = some (configb ip b gate gm wm res g l):=by
 have j:=fun x => spec_cfg_j ip b gate gm wm res g l hx hg M hs hM x k hk
 simp only [spec_ConfigOK.f,spec_NetOK_eq,l01Ip_eq,spec_l01Mac.f,l01In_eq,Option.bind_some,j,configb]
 cases hn : netb ip b
 ·simp
 simp only [spec_has_eq hn,Option.bind_some]
 by_cases h8 : (g.length : Int) ≤ 8
 ·rw [if_neg (show ¬ (g.length : Int) > 8 by omega),decide_eq_true h8]
  cases decide (0 ≤ gate ∧ gate ≤ 4294967295) <;> cases hasb b ip gate <;> cases ((gm.size : Int) == 6) <;> cases ((wm.size : Int) == 6) <;> cases decide (0 ≤ res ∧ res ≤ 4294967295) <;> cases hasb b ip res <;> simp
 ·rw [if_pos (show (g.length : Int) > 8 by omega),decide_eq_false h8]
  cases decide (0 ≤ gate ∧ gate ≤ 4294967295) <;> cases hasb b ip gate <;> cases ((gm.size : Int) == 6) <;> cases ((wm.size : Int) == 6) <;> cases decide (0 ≤ res ∧ res ≤ 4294967295) <;> cases hasb b ip res <;> simp
theorem impl_cfg_j1 (ip b gate : Int) (gm wm : ByteArray) (res : Int) (g : List S100) (l : List S54) (hx : (l.length : Int) ≤ 1152921504606846976) (hg : (g.length : Int) ≤ 1152921504606846976) (M : Nat) (hs : Slim l M) (hM : M ≤ 1152921504606846976) (x : Bool) (k : Nat) (hk : g.length + l.length + M + 7 ≤ k) :
  impl_ConfigOK.j1 k x ip b gate gm wm res g l = some (!x && (!any_T100 badPlace g g.length 0 && rolesFrom l l.length 0)):=by
 obtain ⟨k,rfl⟩ : ∃ z,k = z + 1:=⟨k - 1,by omega⟩
 rw [impl_ConfigOK.j1,impl_places_ev g hg k (by omega),Option.bind_some,impl_roles_run ip b gate gm wm res g l hx M hs hM l.length 0 (by omega) (by omega) k (by omega)]
 cases x <;> cases any_T100 badPlace g g.length 0 <;> simp
theorem impl_cfg_j0 (ip b gate : Int) (gm wm : ByteArray) (res : Int) (g : List S100) (l : List S54) (hx : (l.length : Int) ≤ 1152921504606846976) (hg : (g.length : Int) ≤ 1152921504606846976) (M : Nat) (hs : Slim l M) (hM : M ≤ 1152921504606846976) (x : Bool) (k : Nat) (hk : g.length + l.length + M + 8 ≤ k) :
  impl_ConfigOK.j0 k x ip b gate gm wm res g l = some (x && (((gm.size : Int) == 6) && (((wm.size : Int) == 6) && (decide ((g.length : Int) ≤ 8) && (decide (1 ≤ (l.length : Int) ∧ (l.length : Int) ≤ 4) && (!any_T100 badPlace g g.length 0 && rolesFrom l l.length 0)))))):=by
 obtain ⟨k,rfl⟩ : ∃ z,k = z + 1:=⟨k - 1,by omega⟩
 have j:=fun x => impl_cfg_j1 ip b gate gm wm res g l hx hg M hs hM x k (by omega)
 simp only [impl_ConfigOK.j0,impl_macOK.f,within_eq,Option.bind_some,j]
 by_cases h8 : (g.length : Int) ≤ 8
 ·rw [if_neg (show ¬ (g.length : Int) > 8 by omega),decide_eq_true h8]
  cases x <;> cases ((gm.size : Int) == 6) <;> cases ((wm.size : Int) == 6) <;> simp
 ·rw [if_pos (show (g.length : Int) > 8 by omega),decide_eq_false h8]
  cases x <;> cases ((gm.size : Int) == 6) <;> cases ((wm.size : Int) == 6) <;> simp
theorem impl_Config_ev (ip b gate : Int) (gm wm : ByteArray) (res : Int) (g : List S100) (l : List S54) (hx : (l.length : Int) ≤ 1152921504606846976) (hg : (g.length : Int) ≤ 1152921504606846976) (M : Nat) (hs : Slim l M) (hM : M ≤ 1152921504606846976) (k : Nat) (hk : g.length + l.length + M + 8 ≤ k) :
  impl_ConfigOK.f k ip b gate gm wm res g l = some (configb ip b gate gm wm res g l):=by
 have j:=fun x => impl_cfg_j0 ip b gate gm wm res g l hx hg M hs hM x k hk
 simp only [impl_ConfigOK.f,impl_NetOK_eq,isAddress_eq,Option.bind_some,j,configb]
 cases hn : netb ip b
 ·simp
 simp only [impl_has_eq hn,Option.bind_some]
 cases decide (0 ≤ gate ∧ gate ≤ 4294967295) <;> cases hasb b ip gate <;> cases ((gm.size : Int) == 6) <;> cases ((wm.size : Int) == 6) <;> cases decide (0 ≤ res ∧ res ≤ 4294967295) <;> cases hasb b ip res <;> simp
end
section
/-! ### spec_l07First: function 63 -/
def spec_l07First.l0 : Nat → Int → Int → Int → Int → ByteArray → List (S36) → Int → Int → Int → Option (Int)
 | 0,_,_,_,_,_,_,_,_,_ => none
 | k + 1,x1,x2,x3,x9,x309000,x309001,x309002,x309003,x309004 => if x9 < (x309001.length : Int) then (if 0 ≤ x9 then (if ((rd_T36 x309001 x9).f0) = 0 then ((spec_l05Has.f ((rd_T36 x309001 x9).f1.f0) ((rd_T36 x309001 x9).f1.f1) x2).bind fun t311 => (if t311 = true then ((spec_l01In.f x3 ((rd_T36 x309001 x9).f2.f0) ((rd_T36 x309001 x9).f2.f1)).bind fun t312 => (if t312 = true then (some x9) else (spec_l07First.l0 k x1 x2 x3 (wrap64 (x9 + 1)) x309000 x309001 x309002 x309003 x309004))) else (spec_l07First.l0 k x1 x2 x3 (wrap64 (x9 + 1)) x309000 x309001 x309002 x309003 x309004))) else (if ((rd_T36 x309001 x9).f0) = x1 then ((spec_l05Has.f ((rd_T36 x309001 x9).f1.f0) ((rd_T36 x309001 x9).f1.f1) x2).bind fun t313 => (if t313 = true then ((spec_l01In.f x3 ((rd_T36 x309001 x9).f2.f0) ((rd_T36 x309001 x9).f2.f1)).bind fun t314 => (if t314 = true then (some x9) else (spec_l07First.l0 k x1 x2 x3 (wrap64 (x9 + 1)) x309000 x309001 x309002 x309003 x309004))) else (spec_l07First.l0 k x1 x2 x3 (wrap64 (x9 + 1)) x309000 x309001 x309002 x309003 x309004))) else (spec_l07First.l0 k x1 x2 x3 (wrap64 (x9 + 1)) x309000 x309001 x309002 x309003 x309004))) else (none)) else (some (-1))
def spec_l07First.f (k : Nat) (a0_0 : ByteArray) (l0_1 : List (S36)) (a0_2 : Int) (a0_3 : Int) (a0_4 : Int) (a1 : Int) (a2 : Int) (a3 : Int) : Option (Int):=spec_l07First.l0 k a1 a2 a3 0 a0_0 l0_1 a0_2 a0_3 a0_4
theorem spec_l07First.mono_l : ∀ k,(∀ y0 y1 y2 y3 y4 y5 y6 y7 y8,LeO (spec_l07First.l0 k y0 y1 y2 y3 y4 y5 y6 y7 y8) (spec_l07First.l0 (k + 1) y0 y1 y2 y3 y4 y5 y6 y7 y8))
 | 0 => fun _ _ _ _ _ _ _ _ _ r h => by simp [spec_l07First.l0] at h
 | k + 1 => by
  have ih0:=spec_l07First.mono_l k
  ·intro y0 y1 y2 y3 y4 y5 y6 y7 y8
   unfold spec_l07First.l0
   repeat' first
   | (with_reducible exact ih0 _ _ _ _ _ _ _ _ _)
   | (with_reducible exact LeO.refl _)
   | (with_reducible exact LeO.none _)
   | (with_reducible refine LeO.ite ?_ ?_)
   | (with_reducible refine LeO.bind ?_ (fun _ => ?_))
   | exact ih0 _ _ _ _ _ _ _ _ _
   | exact LeO.none _
   | refine LeO.ite ?_ ?_
   | refine LeO.bind ?_ (fun _ => ?_)
theorem spec_l07First.mono : ∀ a0 a1 a2 a3 a4 a5 a6 a7 k,LeO (spec_l07First.f k a0 a1 a2 a3 a4 a5 a6 a7) (spec_l07First.f (k + 1) a0 a1 a2 a3 a4 a5 a6 a7):=by
 intro a0 a1 a2 a3 a4 a5 a6 a7 k
 have ih0:=spec_l07First.mono_l k
 unfold spec_l07First.f
 repeat' first
   | (with_reducible exact ih0 _ _ _ _ _ _ _ _ _)
   | (with_reducible exact LeO.refl _)
   | (with_reducible exact LeO.none _)
   | (with_reducible refine LeO.ite ?_ ?_)
   | (with_reducible refine LeO.bind ?_ (fun _ => ?_))
   | exact ih0 _ _ _ _ _ _ _ _ _
   | exact LeO.none _
   | refine LeO.ite ?_ ?_
   | refine LeO.bind ?_ (fun _ => ?_)
set_option maxHeartbeats 8000000 in
set_option maxRecDepth 100000 in
theorem spec_l07First.calls (k : Nat) (a0_0 : ByteArray) (A0_1 : Option Addr) (c0_1 : Nat) (l0_1 : List (S36)) (a0_2 : Int) (a0_3 : Int) (a0_4 : Int) (a1 : Int) (a2 : Int) (a3 : Int) (r : Int) (w : World) (hr0_1 : Kd.C k36 w A0_1 l0_1.length l0_1) (hc0_1 : l0_1.length ≤ c0_1) (h : spec_l07First.f k a0_0 l0_1 a0_2 a0_3 a0_4 a1 a2 a3 = some r) :
  Calls Try.prog 63 #[.agg #[.string a0_0,.slice A0_1 l0_1.length c0_1,.int .i64 a0_2,.int .i64 a0_3,.int .i64 a0_4],.int .i64 a1,.int .i64 a2,.int .i64 a3] w fun e w' => e = .returned (.int .i64 r) ∧ Below w.heap.size w w':=by
 have hu54:=Try.underlying54
 have hu36:=Try.underlying36
 have hu26:=Try.underlying26
 have HR0_1:=aMk hr0_1
 have HC0_1:=aMk hc0_1
 clear hr0_1 hc0_1
 have HB:=aMk (Below.refl w.heap.size w)
 have H : (spec_l07First.l0 k a1 a2 a3 0 a0_0 l0_1 a0_2 a0_3 a0_4) = some r:=h
 clear h
 have H':=aMk H
 clear H
 go_enter Try.func63,Try.ntmps63
 go_wp2_with (first|((with_reducible refine gate_dst (N:=4) rfl ?_);refine bxE (N:=4) (cs:=#[.string a0_0,.slice A0_1 l0_1.length c0_1,.int .i64 a0_2,.int .i64 a0_3,.int .i64 a0_4]) (t:=54) ?_;intro gb308 hg w5 hbox hb;have n0_:=aMk (bSt hb);have n1_:=aMk (hbox);have n2_:=aMk ((by rw [hg];exact bSz : w.heap.size ≤ gb308));have n3_:=aMk ((by rw [hg];exact bSz : w.heap.size ≤ gb308));clear HB;have HB:=n0_;have BK308:=n1_;have GW308:=n2_;have GE308:=n3_;clear n0_ n1_ n2_ n3_;clear hb hbox hg))
 go_loopg [9] k (fun kq v9 w' => ∃ (x9_1 : Int),v9 = .int .i64 x9_1 ∧ Aside0 (spec_l07First.l0 kq a1 a2 a3 x9_1 a0_0 l0_1 a0_2 a0_3 a0_4 = some r) ∧ Aside0 (kq ≤ k) ∧ Aside0 (w'.heap[gb308]? = some (.cells #[.string a0_0,(.slice A0_1 l0_1.length c0_1),.int .i64 a0_2,.int .i64 a0_3,.int .i64 a0_4] 54 (0,0))) ∧ Aside0 (Below w.heap.size w w'))
 case atStart => exact ⟨(0),(by first | rfl|(simp;done)|(simp [*];done)|(simp [ne_nil_b];done)|(simp [ne_nil_b, *];done)),H',⟨Nat.le_refl _⟩,⟨by (with_reducible repeat (first|refine bDn ?_ _|refine bDr ?_|refine bAl ?_ _));exact BK308.out⟩,⟨by repeat (first|(with_reducible first|exact HB.out|apply bwA|apply bwN|apply bw1|refine below_set ?_ GE308.out)|exact HB.out)⟩⟩
 case round =>
  clear H'
  try clear p2
  obtain ⟨x9_1,rfl,HA,HK1,BK308,HB⟩:=hrel
  cases gk with
  | zero => exact absurd HA.out (by simp [spec_l07First.l0])
  | succ k1 =>
   have H:=HA.out
   clear HA
   simp only [spec_l07First.l0] at H
   by_cases c6 : x9_1 < (l0_1.length : Int)
   ·rw [if_pos c6] at H
    have c6b0 : decide (x9_1 < (l0_1.length : Int)) = true:=decide_eq_true c6
    clear c6
    by_cases c7 : 0 ≤ x9_1
    ·rw [if_pos c7] at H
     have c7b0 : decide (0 ≤ x9_1) = true:=decide_eq_true c7
     clear c7
     by_cases c8 : ((rd_T36 l0_1 x9_1).f0) = 0
     ·rw [if_pos c8] at H
      have c8b0 : (((rd_T36 l0_1 x9_1).f0) == 0) = true:=beq_iff_eq.mpr c8
      have c8b1 : (((rd_T36 l0_1 x9_1).f0) != 0) = false:=bne_eq_false_iff_eq.mpr c8
      clear c8
      replace H:=Option.bind_eq_some_iff.mp H
      obtain ⟨t311,A90,H⟩:=H
      replace H : (if t311 = true then ((spec_l01In.f a3 ((rd_T36 l0_1 x9_1).f2.f0) ((rd_T36 l0_1 x9_1).f2.f1)).bind fun t312 => (if t312 = true then (some x9_1) else (spec_l07First.l0 k1 a1 a2 a3 (wrap64 (x9_1 + 1)) a0_0 l0_1 a0_2 a0_3 a0_4))) else (spec_l07First.l0 k1 a1 a2 a3 (wrap64 (x9_1 + 1)) a0_0 l0_1 a0_2 a0_3 a0_4)) = some r:=H
      have A9:=aMk A90
      clear A90
      by_cases c10 : t311 = true
      ·subst c10
       have H1 : ((spec_l01In.f a3 ((rd_T36 l0_1 x9_1).f2.f0) ((rd_T36 l0_1 x9_1).f2.f1)).bind fun t312 => (if t312 = true then (some x9_1) else (spec_l07First.l0 k1 a1 a2 a3 (wrap64 (x9_1 + 1)) a0_0 l0_1 a0_2 a0_3 a0_4))) = some r:=by rw [if_pos rfl] at H;exact H
       clear H
       have H:=H1
       clear H1
       replace H:=Option.bind_eq_some_iff.mp H
       obtain ⟨t312,A110,H⟩:=H
       replace H : (if t312 = true then (some x9_1) else (spec_l07First.l0 k1 a1 a2 a3 (wrap64 (x9_1 + 1)) a0_0 l0_1 a0_2 a0_3 a0_4)) = some r:=H
       have A11:=aMk A110
       clear A110
       by_cases c12 : t312 = true
       ·subst c12
        have H1 : (some x9_1) = some r:=by rw [if_pos rfl] at H;exact H
        clear H
        have H:=H1
        clear H1
        obtain rfl:=Option.some.inj H
        obtain ⟨hcz13_0,hcz13_1,hcz13_2,hcz13_3,hcz13_4,hfz13_0,hfz13_1,hfz13_2,hfz13_3,hfz13_4⟩:=bC5 BK308.out
        have p309 : 0 ≤ (x9_1 : Int):=of_decide_eq_true (by first|(with_reducible assumption) | assumption)
        have q309 : x9_1 < (l0_1.length : Int):=of_decide_eq_true (by first|(with_reducible assumption) | assumption)
        obtain ⟨ad309,e309,hx309_0,hx309_1,hx309_2,hx309_3,hx309_4,hx309_5⟩:=at_T36 HR0_1.out x9_1 p309 q309
        cases e309
        replace hx309_0:=bXc HB.out hx309_0
        replace hx309_1:=bXc HB.out hx309_1
        replace hx309_2:=bXc HB.out hx309_2
        replace hx309_3:=bXc HB.out hx309_3
        replace hx309_4:=bXc HB.out hx309_4
        replace hx309_5:=bXc HB.out hx309_5
        replace p309:=eq_true p309
        replace q309:=eq_true q309
        go_wp2_with (first|((with_reducible refine gate_dst (N:=10) rfl ?_);refine bxE (N:=10) (cs:=#[.int .i64 0,.int .i64 0,.int .i64 0,.int .i64 0,.int .i64 0,.bool false]) (t:=36) ?_;intro gb310 hg w14 hbox hb;have n0_:=aMk (bkB BK308.out hb);have n1_:=aMk (below_step (by repeat (first|(with_reducible first|exact HB.out|apply bwA|apply bwN|apply bw1|refine below_set ?_ GE308.out)|exact HB.out)) hb);have n2_:=aMk (hbox);have n3_:=aMk ((by rw [hg];exact (below_size (by repeat (first|(with_reducible first|exact HB.out|apply bwA|apply bwN|apply bw1|refine below_set ?_ GE308.out)|exact HB.out))) : w.heap.size ≤ gb310));have n4_:=aMk ((by rw [hg];exact (below_size (by repeat (first|(with_reducible first|exact HB.out|apply bwA|apply bwN|apply bw1|refine below_set ?_ GE308.out)|exact HB.out))) : w.heap.size ≤ gb310));have n5_:=aMk ((bkL BK308.out hg : gb308 ≠ gb310));have n6_:=aMk ((bkG BK308.out hg : gb310 ≠ gb308));clear BK308;clear HB;have BK308:=n0_;have HB:=n1_;have BK310:=n2_;have GW310:=n3_;have GE310:=n4_;have NB308_310:=n5_;have NB310_308:=n6_;clear n0_ n1_ n2_ n3_ n4_ n5_ n6_;clear hb hbox hg;have hnb15:=NB310_308.out;have hnc15:=NB308_310.out;obtain ⟨hcz16_0,hcz16_1,hcz16_2,hcz16_3,hcz16_4,hcz16_5,hfz16_0,hfz16_1,hfz16_2,hfz16_3,hfz16_4,hfz16_5⟩:=bC6 BK310.out)|(go_at_call 40;(with_reducible refine (spec_l05Has.calls ((rd_T36 l0_1 x9_1).f1.f0) ((rd_T36 l0_1 x9_1).f1.f1) a2 true _ A9.out).mono ?_);rintro e w17 ⟨rfl,hb⟩;have n0_:=aMk (blk_below (g:=gb308) (o:=.cells #[.string a0_0,.slice (some ad309) l0_1.length c0_1,.int .i64 a0_2,.int .i64 a0_3,.int .i64 a0_4] 54 (0,0)) (by (with_reducible repeat (first|refine bDn ?_ _|refine bDr ?_|refine bAl ?_ _));refine blk_far ?_ NB308_310.out _;(with_reducible repeat (first|refine bDn ?_ _|refine bDr ?_|refine bAl ?_ _));refine blk_far ?_ NB308_310.out _;(with_reducible repeat (first|refine bDn ?_ _|refine bDr ?_|refine bAl ?_ _));refine blk_far ?_ NB308_310.out _;(with_reducible repeat (first|refine bDn ?_ _|refine bDr ?_|refine bAl ?_ _));refine blk_far ?_ NB308_310.out _;(with_reducible repeat (first|refine bDn ?_ _|refine bDr ?_|refine bAl ?_ _));refine blk_far ?_ NB308_310.out _;(with_reducible repeat (first|refine bDn ?_ _|refine bDr ?_|refine bAl ?_ _));refine blk_far ?_ NB308_310.out _;(with_reducible repeat (first|refine bDn ?_ _|refine bDr ?_|refine bAl ?_ _));exact BK308.out) hb);have n1_:=aMk (blk_below (g:=gb310) (o:=.cells #[.int .i64 ((rd_T36 l0_1 x9_1).f0),.int .i64 ((rd_T36 l0_1 x9_1).f1.f0),.int .i64 ((rd_T36 l0_1 x9_1).f1.f1),.int .i64 ((rd_T36 l0_1 x9_1).f2.f0),.int .i64 ((rd_T36 l0_1 x9_1).f2.f1),.bool ((rd_T36 l0_1 x9_1).f3)] 36 (0,0)) (by (with_reducible repeat (first|refine bDn ?_ _|refine bDr ?_|refine bAl ?_ _));refine blk_put (cs:=#[.int .i64 ((rd_T36 l0_1 x9_1).f0),.int .i64 ((rd_T36 l0_1 x9_1).f1.f0),.int .i64 ((rd_T36 l0_1 x9_1).f1.f1),.int .i64 ((rd_T36 l0_1 x9_1).f2.f0),.int .i64 ((rd_T36 l0_1 x9_1).f2.f1),.bool false]) ?_ 5 _ rfl;(with_reducible repeat (first|refine bDn ?_ _|refine bDr ?_|refine bAl ?_ _));refine blk_put (cs:=#[.int .i64 ((rd_T36 l0_1 x9_1).f0),.int .i64 ((rd_T36 l0_1 x9_1).f1.f0),.int .i64 ((rd_T36 l0_1 x9_1).f1.f1),.int .i64 ((rd_T36 l0_1 x9_1).f2.f0),.int .i64 0,.bool false]) ?_ 4 _ rfl;(with_reducible repeat (first|refine bDn ?_ _|refine bDr ?_|refine bAl ?_ _));refine blk_put (cs:=#[.int .i64 ((rd_T36 l0_1 x9_1).f0),.int .i64 ((rd_T36 l0_1 x9_1).f1.f0),.int .i64 ((rd_T36 l0_1 x9_1).f1.f1),.int .i64 0,.int .i64 0,.bool false]) ?_ 3 _ rfl;(with_reducible repeat (first|refine bDn ?_ _|refine bDr ?_|refine bAl ?_ _));refine blk_put (cs:=#[.int .i64 ((rd_T36 l0_1 x9_1).f0),.int .i64 ((rd_T36 l0_1 x9_1).f1.f0),.int .i64 0,.int .i64 0,.int .i64 0,.bool false]) ?_ 2 _ rfl;(with_reducible repeat (first|refine bDn ?_ _|refine bDr ?_|refine bAl ?_ _));refine blk_put (cs:=#[.int .i64 ((rd_T36 l0_1 x9_1).f0),.int .i64 0,.int .i64 0,.int .i64 0,.int .i64 0,.bool false]) ?_ 1 _ rfl;(with_reducible repeat (first|refine bDn ?_ _|refine bDr ?_|refine bAl ?_ _));refine blk_put (cs:=#[.int .i64 0,.int .i64 0,.int .i64 0,.int .i64 0,.int .i64 0,.bool false]) ?_ 0 _ rfl;(with_reducible repeat (first|refine bDn ?_ _|refine bDr ?_|refine bAl ?_ _));exact BK310.out) hb);have n2_:=aMk (below_step (by repeat (first|(with_reducible first|exact HB.out|apply bwA|apply bwN|apply bw1|refine below_set ?_ GE308.out|refine below_set ?_ GE310.out)|exact HB.out)) hb);clear BK308;clear BK310;clear HB;have BK308:=n0_;have BK310:=n1_;have HB:=n2_;clear n0_ n1_ n2_;(try clear hb);(try clear hb2);(try clear hk);(try clear hi);obtain ⟨hcz18_0,hcz18_1,hcz18_2,hcz18_3,hcz18_4,hcz18_5,hfz18_0,hfz18_1,hfz18_2,hfz18_3,hfz18_4,hfz18_5⟩:=bC6 BK310.out)|(go_at_call 55;(with_reducible refine (spec_l01In.calls a3 ((rd_T36 l0_1 x9_1).f2.f0) ((rd_T36 l0_1 x9_1).f2.f1) true _ A11.out).mono ?_);rintro e w' ⟨rfl,⟨nd,rfl⟩⟩))
        go_ret
        exact ⟨eRf,by repeat (first|(with_reducible first|exact HB.out|apply bwA|apply bwN|apply bw1|refine below_set ?_ GE308.out|refine below_set ?_ GE310.out)|exact HB.out)⟩
       ·replace c12:=Bool.eq_false_iff.mpr c12
        subst c12
        have H1 : (spec_l07First.l0 k1 a1 a2 a3 (wrap64 (x9_1 + 1)) a0_0 l0_1 a0_2 a0_3 a0_4) = some r:=by rw [if_neg (show ¬ (false = true) by decide)] at H;exact H
        clear H
        have H:=H1
        clear H1
        have H':=aMk H
        clear H
        obtain ⟨hcz19_0,hcz19_1,hcz19_2,hcz19_3,hcz19_4,hfz19_0,hfz19_1,hfz19_2,hfz19_3,hfz19_4⟩:=bC5 BK308.out
        have p309 : 0 ≤ (x9_1 : Int):=of_decide_eq_true (by first|(with_reducible assumption) | assumption)
        have q309 : x9_1 < (l0_1.length : Int):=of_decide_eq_true (by first|(with_reducible assumption) | assumption)
        obtain ⟨ad309,e309,hx309_0,hx309_1,hx309_2,hx309_3,hx309_4,hx309_5⟩:=at_T36 HR0_1.out x9_1 p309 q309
        cases e309
        replace hx309_0:=bXc HB.out hx309_0
        replace hx309_1:=bXc HB.out hx309_1
        replace hx309_2:=bXc HB.out hx309_2
        replace hx309_3:=bXc HB.out hx309_3
        replace hx309_4:=bXc HB.out hx309_4
        replace hx309_5:=bXc HB.out hx309_5
        replace p309:=eq_true p309
        replace q309:=eq_true q309
        go_wp2_with (first|((with_reducible refine gate_dst (N:=10) rfl ?_);refine bxE (N:=10) (cs:=#[.int .i64 0,.int .i64 0,.int .i64 0,.int .i64 0,.int .i64 0,.bool false]) (t:=36) ?_;intro gb310 hg w20 hbox hb;have n0_:=aMk (bkB BK308.out hb);have n1_:=aMk (below_step (by repeat (first|(with_reducible first|exact HB.out|apply bwA|apply bwN|apply bw1|refine below_set ?_ GE308.out)|exact HB.out)) hb);have n2_:=aMk (hbox);have n3_:=aMk ((by rw [hg];exact (below_size (by repeat (first|(with_reducible first|exact HB.out|apply bwA|apply bwN|apply bw1|refine below_set ?_ GE308.out)|exact HB.out))) : w.heap.size ≤ gb310));have n4_:=aMk ((by rw [hg];exact (below_size (by repeat (first|(with_reducible first|exact HB.out|apply bwA|apply bwN|apply bw1|refine below_set ?_ GE308.out)|exact HB.out))) : w.heap.size ≤ gb310));have n5_:=aMk ((bkL BK308.out hg : gb308 ≠ gb310));have n6_:=aMk ((bkG BK308.out hg : gb310 ≠ gb308));clear BK308;clear HB;have BK308:=n0_;have HB:=n1_;have BK310:=n2_;have GW310:=n3_;have GE310:=n4_;have NB308_310:=n5_;have NB310_308:=n6_;clear n0_ n1_ n2_ n3_ n4_ n5_ n6_;clear hb hbox hg;have hnb21:=NB310_308.out;have hnc21:=NB308_310.out;obtain ⟨hcz22_0,hcz22_1,hcz22_2,hcz22_3,hcz22_4,hcz22_5,hfz22_0,hfz22_1,hfz22_2,hfz22_3,hfz22_4,hfz22_5⟩:=bC6 BK310.out)|(go_at_call 40;(with_reducible refine (spec_l05Has.calls ((rd_T36 l0_1 x9_1).f1.f0) ((rd_T36 l0_1 x9_1).f1.f1) a2 true _ A9.out).mono ?_);rintro e w23 ⟨rfl,hb⟩;have n0_:=aMk (blk_below (g:=gb308) (o:=.cells #[.string a0_0,.slice (some ad309) l0_1.length c0_1,.int .i64 a0_2,.int .i64 a0_3,.int .i64 a0_4] 54 (0,0)) (by (with_reducible repeat (first|refine bDn ?_ _|refine bDr ?_|refine bAl ?_ _));refine blk_far ?_ NB308_310.out _;(with_reducible repeat (first|refine bDn ?_ _|refine bDr ?_|refine bAl ?_ _));refine blk_far ?_ NB308_310.out _;(with_reducible repeat (first|refine bDn ?_ _|refine bDr ?_|refine bAl ?_ _));refine blk_far ?_ NB308_310.out _;(with_reducible repeat (first|refine bDn ?_ _|refine bDr ?_|refine bAl ?_ _));refine blk_far ?_ NB308_310.out _;(with_reducible repeat (first|refine bDn ?_ _|refine bDr ?_|refine bAl ?_ _));refine blk_far ?_ NB308_310.out _;(with_reducible repeat (first|refine bDn ?_ _|refine bDr ?_|refine bAl ?_ _));refine blk_far ?_ NB308_310.out _;(with_reducible repeat (first|refine bDn ?_ _|refine bDr ?_|refine bAl ?_ _));exact BK308.out) hb);have n1_:=aMk (blk_below (g:=gb310) (o:=.cells #[.int .i64 ((rd_T36 l0_1 x9_1).f0),.int .i64 ((rd_T36 l0_1 x9_1).f1.f0),.int .i64 ((rd_T36 l0_1 x9_1).f1.f1),.int .i64 ((rd_T36 l0_1 x9_1).f2.f0),.int .i64 ((rd_T36 l0_1 x9_1).f2.f1),.bool ((rd_T36 l0_1 x9_1).f3)] 36 (0,0)) (by (with_reducible repeat (first|refine bDn ?_ _|refine bDr ?_|refine bAl ?_ _));refine blk_put (cs:=#[.int .i64 ((rd_T36 l0_1 x9_1).f0),.int .i64 ((rd_T36 l0_1 x9_1).f1.f0),.int .i64 ((rd_T36 l0_1 x9_1).f1.f1),.int .i64 ((rd_T36 l0_1 x9_1).f2.f0),.int .i64 ((rd_T36 l0_1 x9_1).f2.f1),.bool false]) ?_ 5 _ rfl;(with_reducible repeat (first|refine bDn ?_ _|refine bDr ?_|refine bAl ?_ _));refine blk_put (cs:=#[.int .i64 ((rd_T36 l0_1 x9_1).f0),.int .i64 ((rd_T36 l0_1 x9_1).f1.f0),.int .i64 ((rd_T36 l0_1 x9_1).f1.f1),.int .i64 ((rd_T36 l0_1 x9_1).f2.f0),.int .i64 0,.bool false]) ?_ 4 _ rfl;(with_reducible repeat (first|refine bDn ?_ _|refine bDr ?_|refine bAl ?_ _));refine blk_put (cs:=#[.int .i64 ((rd_T36 l0_1 x9_1).f0),.int .i64 ((rd_T36 l0_1 x9_1).f1.f0),.int .i64 ((rd_T36 l0_1 x9_1).f1.f1),.int .i64 0,.int .i64 0,.bool false]) ?_ 3 _ rfl;(with_reducible repeat (first|refine bDn ?_ _|refine bDr ?_|refine bAl ?_ _));refine blk_put (cs:=#[.int .i64 ((rd_T36 l0_1 x9_1).f0),.int .i64 ((rd_T36 l0_1 x9_1).f1.f0),.int .i64 0,.int .i64 0,.int .i64 0,.bool false]) ?_ 2 _ rfl;(with_reducible repeat (first|refine bDn ?_ _|refine bDr ?_|refine bAl ?_ _));refine blk_put (cs:=#[.int .i64 ((rd_T36 l0_1 x9_1).f0),.int .i64 0,.int .i64 0,.int .i64 0,.int .i64 0,.bool false]) ?_ 1 _ rfl;(with_reducible repeat (first|refine bDn ?_ _|refine bDr ?_|refine bAl ?_ _));refine blk_put (cs:=#[.int .i64 0,.int .i64 0,.int .i64 0,.int .i64 0,.int .i64 0,.bool false]) ?_ 0 _ rfl;(with_reducible repeat (first|refine bDn ?_ _|refine bDr ?_|refine bAl ?_ _));exact BK310.out) hb);have n2_:=aMk (below_step (by repeat (first|(with_reducible first|exact HB.out|apply bwA|apply bwN|apply bw1|refine below_set ?_ GE308.out|refine below_set ?_ GE310.out)|exact HB.out)) hb);clear BK308;clear BK310;clear HB;have BK308:=n0_;have BK310:=n1_;have HB:=n2_;clear n0_ n1_ n2_;(try clear hb);(try clear hb2);(try clear hk);(try clear hi);obtain ⟨hcz24_0,hcz24_1,hcz24_2,hcz24_3,hcz24_4,hcz24_5,hfz24_0,hfz24_1,hfz24_2,hfz24_3,hfz24_4,hfz24_5⟩:=bC6 BK310.out)|(go_at_call 55;(with_reducible refine (spec_l01In.calls a3 ((rd_T36 l0_1 x9_1).f2.f0) ((rd_T36 l0_1 x9_1).f2.f1) false _ A11.out).mono ?_);rintro e w' ⟨rfl,⟨nd,rfl⟩⟩))
        go_roundg k1
        case measure => have:=HK1.out;omega
        case rel => exact ⟨(wrap64 (x9_1 + 1)),(by first | rfl|(simp;done)|(simp [*];done)|(simp [ne_nil_b];done)|(simp [ne_nil_b, *];done)),H',⟨by have:=HK1.out;omega⟩,⟨by (with_reducible repeat (first|refine bDn ?_ _|refine bDr ?_|refine bAl ?_ _));exact BK308.out⟩,⟨by repeat (first|(with_reducible first|exact HB.out|apply bwA|apply bwN|apply bw1|refine below_set ?_ GE308.out|refine below_set ?_ GE310.out)|exact HB.out)⟩⟩
      ·replace c10:=Bool.eq_false_iff.mpr c10
       subst c10
       have H1 : (spec_l07First.l0 k1 a1 a2 a3 (wrap64 (x9_1 + 1)) a0_0 l0_1 a0_2 a0_3 a0_4) = some r:=by rw [if_neg (show ¬ (false = true) by decide)] at H;exact H
       clear H
       have H:=H1
       clear H1
       have H':=aMk H
       clear H
       obtain ⟨hcz25_0,hcz25_1,hcz25_2,hcz25_3,hcz25_4,hfz25_0,hfz25_1,hfz25_2,hfz25_3,hfz25_4⟩:=bC5 BK308.out
       have p309 : 0 ≤ (x9_1 : Int):=of_decide_eq_true (by first|(with_reducible assumption) | assumption)
       have q309 : x9_1 < (l0_1.length : Int):=of_decide_eq_true (by first|(with_reducible assumption) | assumption)
       obtain ⟨ad309,e309,hx309_0,hx309_1,hx309_2,hx309_3,hx309_4,hx309_5⟩:=at_T36 HR0_1.out x9_1 p309 q309
       cases e309
       replace hx309_0:=bXc HB.out hx309_0
       replace hx309_1:=bXc HB.out hx309_1
       replace hx309_2:=bXc HB.out hx309_2
       replace hx309_3:=bXc HB.out hx309_3
       replace hx309_4:=bXc HB.out hx309_4
       replace hx309_5:=bXc HB.out hx309_5
       replace p309:=eq_true p309
       replace q309:=eq_true q309
       go_wp2_with (first|((with_reducible refine gate_dst (N:=10) rfl ?_);refine bxE (N:=10) (cs:=#[.int .i64 0,.int .i64 0,.int .i64 0,.int .i64 0,.int .i64 0,.bool false]) (t:=36) ?_;intro gb310 hg w26 hbox hb;have n0_:=aMk (bkB BK308.out hb);have n1_:=aMk (below_step (by repeat (first|(with_reducible first|exact HB.out|apply bwA|apply bwN|apply bw1|refine below_set ?_ GE308.out)|exact HB.out)) hb);have n2_:=aMk (hbox);have n3_:=aMk ((by rw [hg];exact (below_size (by repeat (first|(with_reducible first|exact HB.out|apply bwA|apply bwN|apply bw1|refine below_set ?_ GE308.out)|exact HB.out))) : w.heap.size ≤ gb310));have n4_:=aMk ((by rw [hg];exact (below_size (by repeat (first|(with_reducible first|exact HB.out|apply bwA|apply bwN|apply bw1|refine below_set ?_ GE308.out)|exact HB.out))) : w.heap.size ≤ gb310));have n5_:=aMk ((bkL BK308.out hg : gb308 ≠ gb310));have n6_:=aMk ((bkG BK308.out hg : gb310 ≠ gb308));clear BK308;clear HB;have BK308:=n0_;have HB:=n1_;have BK310:=n2_;have GW310:=n3_;have GE310:=n4_;have NB308_310:=n5_;have NB310_308:=n6_;clear n0_ n1_ n2_ n3_ n4_ n5_ n6_;clear hb hbox hg;have hnb27:=NB310_308.out;have hnc27:=NB308_310.out;obtain ⟨hcz28_0,hcz28_1,hcz28_2,hcz28_3,hcz28_4,hcz28_5,hfz28_0,hfz28_1,hfz28_2,hfz28_3,hfz28_4,hfz28_5⟩:=bC6 BK310.out)|(go_at_call 40;(with_reducible refine (spec_l05Has.calls ((rd_T36 l0_1 x9_1).f1.f0) ((rd_T36 l0_1 x9_1).f1.f1) a2 false _ A9.out).mono ?_);rintro e w29 ⟨rfl,hb⟩;have n0_:=aMk (blk_below (g:=gb308) (o:=.cells #[.string a0_0,.slice (some ad309) l0_1.length c0_1,.int .i64 a0_2,.int .i64 a0_3,.int .i64 a0_4] 54 (0,0)) (by (with_reducible repeat (first|refine bDn ?_ _|refine bDr ?_|refine bAl ?_ _));refine blk_far ?_ NB308_310.out _;(with_reducible repeat (first|refine bDn ?_ _|refine bDr ?_|refine bAl ?_ _));refine blk_far ?_ NB308_310.out _;(with_reducible repeat (first|refine bDn ?_ _|refine bDr ?_|refine bAl ?_ _));refine blk_far ?_ NB308_310.out _;(with_reducible repeat (first|refine bDn ?_ _|refine bDr ?_|refine bAl ?_ _));refine blk_far ?_ NB308_310.out _;(with_reducible repeat (first|refine bDn ?_ _|refine bDr ?_|refine bAl ?_ _));refine blk_far ?_ NB308_310.out _;(with_reducible repeat (first|refine bDn ?_ _|refine bDr ?_|refine bAl ?_ _));refine blk_far ?_ NB308_310.out _;(with_reducible repeat (first|refine bDn ?_ _|refine bDr ?_|refine bAl ?_ _));exact BK308.out) hb);have n1_:=aMk (blk_below (g:=gb310) (o:=.cells #[.int .i64 ((rd_T36 l0_1 x9_1).f0),.int .i64 ((rd_T36 l0_1 x9_1).f1.f0),.int .i64 ((rd_T36 l0_1 x9_1).f1.f1),.int .i64 ((rd_T36 l0_1 x9_1).f2.f0),.int .i64 ((rd_T36 l0_1 x9_1).f2.f1),.bool ((rd_T36 l0_1 x9_1).f3)] 36 (0,0)) (by (with_reducible repeat (first|refine bDn ?_ _|refine bDr ?_|refine bAl ?_ _));refine blk_put (cs:=#[.int .i64 ((rd_T36 l0_1 x9_1).f0),.int .i64 ((rd_T36 l0_1 x9_1).f1.f0),.int .i64 ((rd_T36 l0_1 x9_1).f1.f1),.int .i64 ((rd_T36 l0_1 x9_1).f2.f0),.int .i64 ((rd_T36 l0_1 x9_1).f2.f1),.bool false]) ?_ 5 _ rfl;(with_reducible repeat (first|refine bDn ?_ _|refine bDr ?_|refine bAl ?_ _));refine blk_put (cs:=#[.int .i64 ((rd_T36 l0_1 x9_1).f0),.int .i64 ((rd_T36 l0_1 x9_1).f1.f0),.int .i64 ((rd_T36 l0_1 x9_1).f1.f1),.int .i64 ((rd_T36 l0_1 x9_1).f2.f0),.int .i64 0,.bool false]) ?_ 4 _ rfl;(with_reducible repeat (first|refine bDn ?_ _|refine bDr ?_|refine bAl ?_ _));refine blk_put (cs:=#[.int .i64 ((rd_T36 l0_1 x9_1).f0),.int .i64 ((rd_T36 l0_1 x9_1).f1.f0),.int .i64 ((rd_T36 l0_1 x9_1).f1.f1),.int .i64 0,.int .i64 0,.bool false]) ?_ 3 _ rfl;(with_reducible repeat (first|refine bDn ?_ _|refine bDr ?_|refine bAl ?_ _));refine blk_put (cs:=#[.int .i64 ((rd_T36 l0_1 x9_1).f0),.int .i64 ((rd_T36 l0_1 x9_1).f1.f0),.int .i64 0,.int .i64 0,.int .i64 0,.bool false]) ?_ 2 _ rfl;(with_reducible repeat (first|refine bDn ?_ _|refine bDr ?_|refine bAl ?_ _));refine blk_put (cs:=#[.int .i64 ((rd_T36 l0_1 x9_1).f0),.int .i64 0,.int .i64 0,.int .i64 0,.int .i64 0,.bool false]) ?_ 1 _ rfl;(with_reducible repeat (first|refine bDn ?_ _|refine bDr ?_|refine bAl ?_ _));refine blk_put (cs:=#[.int .i64 0,.int .i64 0,.int .i64 0,.int .i64 0,.int .i64 0,.bool false]) ?_ 0 _ rfl;(with_reducible repeat (first|refine bDn ?_ _|refine bDr ?_|refine bAl ?_ _));exact BK310.out) hb);have n2_:=aMk (below_step (by repeat (first|(with_reducible first|exact HB.out|apply bwA|apply bwN|apply bw1|refine below_set ?_ GE308.out|refine below_set ?_ GE310.out)|exact HB.out)) hb);clear BK308;clear BK310;clear HB;have BK308:=n0_;have BK310:=n1_;have HB:=n2_;clear n0_ n1_ n2_;(try clear hb);(try clear hb2);(try clear hk);(try clear hi)))
       go_roundg k1
       case measure => have:=HK1.out;omega
       case rel => exact ⟨(wrap64 (x9_1 + 1)),(by first | rfl|(simp;done)|(simp [*];done)|(simp [ne_nil_b];done)|(simp [ne_nil_b, *];done)),H',⟨by have:=HK1.out;omega⟩,⟨by (with_reducible repeat (first|refine bDn ?_ _|refine bDr ?_|refine bAl ?_ _));exact BK308.out⟩,⟨by repeat (first|(with_reducible first|exact HB.out|apply bwA|apply bwN|apply bw1|refine below_set ?_ GE308.out|refine below_set ?_ GE310.out)|exact HB.out)⟩⟩
     ·rw [if_neg c8] at H
      have c8b0 : (((rd_T36 l0_1 x9_1).f0) == 0) = false:=beq_eq_false_iff_ne.mpr c8
      have c8b1 : (((rd_T36 l0_1 x9_1).f0) != 0) = true:=bne_iff_ne.mpr c8
      by_cases c30 : ((rd_T36 l0_1 x9_1).f0) = a1
      ·rw [if_pos c30] at H
       have c30b0 : (((rd_T36 l0_1 x9_1).f0) == a1) = true:=beq_iff_eq.mpr c30
       have c30b1 : (((rd_T36 l0_1 x9_1).f0) != a1) = false:=bne_eq_false_iff_eq.mpr c30
       clear c30
       replace H:=Option.bind_eq_some_iff.mp H
       obtain ⟨t313,A310,H⟩:=H
       replace H : (if t313 = true then ((spec_l01In.f a3 ((rd_T36 l0_1 x9_1).f2.f0) ((rd_T36 l0_1 x9_1).f2.f1)).bind fun t314 => (if t314 = true then (some x9_1) else (spec_l07First.l0 k1 a1 a2 a3 (wrap64 (x9_1 + 1)) a0_0 l0_1 a0_2 a0_3 a0_4))) else (spec_l07First.l0 k1 a1 a2 a3 (wrap64 (x9_1 + 1)) a0_0 l0_1 a0_2 a0_3 a0_4)) = some r:=H
       have A31:=aMk A310
       clear A310
       by_cases c32 : t313 = true
       ·subst c32
        have H1 : ((spec_l01In.f a3 ((rd_T36 l0_1 x9_1).f2.f0) ((rd_T36 l0_1 x9_1).f2.f1)).bind fun t314 => (if t314 = true then (some x9_1) else (spec_l07First.l0 k1 a1 a2 a3 (wrap64 (x9_1 + 1)) a0_0 l0_1 a0_2 a0_3 a0_4))) = some r:=by rw [if_pos rfl] at H;exact H
        clear H
        have H:=H1
        clear H1
        replace H:=Option.bind_eq_some_iff.mp H
        obtain ⟨t314,A330,H⟩:=H
        replace H : (if t314 = true then (some x9_1) else (spec_l07First.l0 k1 a1 a2 a3 (wrap64 (x9_1 + 1)) a0_0 l0_1 a0_2 a0_3 a0_4)) = some r:=H
        have A33:=aMk A330
        clear A330
        by_cases c34 : t314 = true
        ·subst c34
         have H1 : (some x9_1) = some r:=by rw [if_pos rfl] at H;exact H
         clear H
         have H:=H1
         clear H1
         obtain rfl:=Option.some.inj H
         obtain ⟨hcz35_0,hcz35_1,hcz35_2,hcz35_3,hcz35_4,hfz35_0,hfz35_1,hfz35_2,hfz35_3,hfz35_4⟩:=bC5 BK308.out
         have p309 : 0 ≤ (x9_1 : Int):=of_decide_eq_true (by first|(with_reducible assumption) | assumption)
         have q309 : x9_1 < (l0_1.length : Int):=of_decide_eq_true (by first|(with_reducible assumption) | assumption)
         obtain ⟨ad309,e309,hx309_0,hx309_1,hx309_2,hx309_3,hx309_4,hx309_5⟩:=at_T36 HR0_1.out x9_1 p309 q309
         cases e309
         replace hx309_0:=bXc HB.out hx309_0
         replace hx309_1:=bXc HB.out hx309_1
         replace hx309_2:=bXc HB.out hx309_2
         replace hx309_3:=bXc HB.out hx309_3
         replace hx309_4:=bXc HB.out hx309_4
         replace hx309_5:=bXc HB.out hx309_5
         replace p309:=eq_true p309
         replace q309:=eq_true q309
         go_wp2_with (first|((with_reducible refine gate_dst (N:=10) rfl ?_);refine bxE (N:=10) (cs:=#[.int .i64 0,.int .i64 0,.int .i64 0,.int .i64 0,.int .i64 0,.bool false]) (t:=36) ?_;intro gb310 hg w36 hbox hb;have n0_:=aMk (bkB BK308.out hb);have n1_:=aMk (below_step (by repeat (first|(with_reducible first|exact HB.out|apply bwA|apply bwN|apply bw1|refine below_set ?_ GE308.out)|exact HB.out)) hb);have n2_:=aMk (hbox);have n3_:=aMk ((by rw [hg];exact (below_size (by repeat (first|(with_reducible first|exact HB.out|apply bwA|apply bwN|apply bw1|refine below_set ?_ GE308.out)|exact HB.out))) : w.heap.size ≤ gb310));have n4_:=aMk ((by rw [hg];exact (below_size (by repeat (first|(with_reducible first|exact HB.out|apply bwA|apply bwN|apply bw1|refine below_set ?_ GE308.out)|exact HB.out))) : w.heap.size ≤ gb310));have n5_:=aMk ((bkL BK308.out hg : gb308 ≠ gb310));have n6_:=aMk ((bkG BK308.out hg : gb310 ≠ gb308));clear BK308;clear HB;have BK308:=n0_;have HB:=n1_;have BK310:=n2_;have GW310:=n3_;have GE310:=n4_;have NB308_310:=n5_;have NB310_308:=n6_;clear n0_ n1_ n2_ n3_ n4_ n5_ n6_;clear hb hbox hg;have hnb37:=NB310_308.out;have hnc37:=NB308_310.out;obtain ⟨hcz38_0,hcz38_1,hcz38_2,hcz38_3,hcz38_4,hcz38_5,hfz38_0,hfz38_1,hfz38_2,hfz38_3,hfz38_4,hfz38_5⟩:=bC6 BK310.out)|(go_at_call 40;(with_reducible refine (spec_l05Has.calls ((rd_T36 l0_1 x9_1).f1.f0) ((rd_T36 l0_1 x9_1).f1.f1) a2 true _ A31.out).mono ?_);rintro e w39 ⟨rfl,hb⟩;have n0_:=aMk (blk_below (g:=gb308) (o:=.cells #[.string a0_0,.slice (some ad309) l0_1.length c0_1,.int .i64 a0_2,.int .i64 a0_3,.int .i64 a0_4] 54 (0,0)) (by (with_reducible repeat (first|refine bDn ?_ _|refine bDr ?_|refine bAl ?_ _));refine blk_far ?_ NB308_310.out _;(with_reducible repeat (first|refine bDn ?_ _|refine bDr ?_|refine bAl ?_ _));refine blk_far ?_ NB308_310.out _;(with_reducible repeat (first|refine bDn ?_ _|refine bDr ?_|refine bAl ?_ _));refine blk_far ?_ NB308_310.out _;(with_reducible repeat (first|refine bDn ?_ _|refine bDr ?_|refine bAl ?_ _));refine blk_far ?_ NB308_310.out _;(with_reducible repeat (first|refine bDn ?_ _|refine bDr ?_|refine bAl ?_ _));refine blk_far ?_ NB308_310.out _;(with_reducible repeat (first|refine bDn ?_ _|refine bDr ?_|refine bAl ?_ _));refine blk_far ?_ NB308_310.out _;(with_reducible repeat (first|refine bDn ?_ _|refine bDr ?_|refine bAl ?_ _));exact BK308.out) hb);have n1_:=aMk (blk_below (g:=gb310) (o:=.cells #[.int .i64 ((rd_T36 l0_1 x9_1).f0),.int .i64 ((rd_T36 l0_1 x9_1).f1.f0),.int .i64 ((rd_T36 l0_1 x9_1).f1.f1),.int .i64 ((rd_T36 l0_1 x9_1).f2.f0),.int .i64 ((rd_T36 l0_1 x9_1).f2.f1),.bool ((rd_T36 l0_1 x9_1).f3)] 36 (0,0)) (by (with_reducible repeat (first|refine bDn ?_ _|refine bDr ?_|refine bAl ?_ _));refine blk_put (cs:=#[.int .i64 ((rd_T36 l0_1 x9_1).f0),.int .i64 ((rd_T36 l0_1 x9_1).f1.f0),.int .i64 ((rd_T36 l0_1 x9_1).f1.f1),.int .i64 ((rd_T36 l0_1 x9_1).f2.f0),.int .i64 ((rd_T36 l0_1 x9_1).f2.f1),.bool false]) ?_ 5 _ rfl;(with_reducible repeat (first|refine bDn ?_ _|refine bDr ?_|refine bAl ?_ _));refine blk_put (cs:=#[.int .i64 ((rd_T36 l0_1 x9_1).f0),.int .i64 ((rd_T36 l0_1 x9_1).f1.f0),.int .i64 ((rd_T36 l0_1 x9_1).f1.f1),.int .i64 ((rd_T36 l0_1 x9_1).f2.f0),.int .i64 0,.bool false]) ?_ 4 _ rfl;(with_reducible repeat (first|refine bDn ?_ _|refine bDr ?_|refine bAl ?_ _));refine blk_put (cs:=#[.int .i64 ((rd_T36 l0_1 x9_1).f0),.int .i64 ((rd_T36 l0_1 x9_1).f1.f0),.int .i64 ((rd_T36 l0_1 x9_1).f1.f1),.int .i64 0,.int .i64 0,.bool false]) ?_ 3 _ rfl;(with_reducible repeat (first|refine bDn ?_ _|refine bDr ?_|refine bAl ?_ _));refine blk_put (cs:=#[.int .i64 ((rd_T36 l0_1 x9_1).f0),.int .i64 ((rd_T36 l0_1 x9_1).f1.f0),.int .i64 0,.int .i64 0,.int .i64 0,.bool false]) ?_ 2 _ rfl;(with_reducible repeat (first|refine bDn ?_ _|refine bDr ?_|refine bAl ?_ _));refine blk_put (cs:=#[.int .i64 ((rd_T36 l0_1 x9_1).f0),.int .i64 0,.int .i64 0,.int .i64 0,.int .i64 0,.bool false]) ?_ 1 _ rfl;(with_reducible repeat (first|refine bDn ?_ _|refine bDr ?_|refine bAl ?_ _));refine blk_put (cs:=#[.int .i64 0,.int .i64 0,.int .i64 0,.int .i64 0,.int .i64 0,.bool false]) ?_ 0 _ rfl;(with_reducible repeat (first|refine bDn ?_ _|refine bDr ?_|refine bAl ?_ _));exact BK310.out) hb);have n2_:=aMk (below_step (by repeat (first|(with_reducible first|exact HB.out|apply bwA|apply bwN|apply bw1|refine below_set ?_ GE308.out|refine below_set ?_ GE310.out)|exact HB.out)) hb);clear BK308;clear BK310;clear HB;have BK308:=n0_;have BK310:=n1_;have HB:=n2_;clear n0_ n1_ n2_;(try clear hb);(try clear hb2);(try clear hk);(try clear hi);obtain ⟨hcz40_0,hcz40_1,hcz40_2,hcz40_3,hcz40_4,hcz40_5,hfz40_0,hfz40_1,hfz40_2,hfz40_3,hfz40_4,hfz40_5⟩:=bC6 BK310.out)|(go_at_call 55;(with_reducible refine (spec_l01In.calls a3 ((rd_T36 l0_1 x9_1).f2.f0) ((rd_T36 l0_1 x9_1).f2.f1) true _ A33.out).mono ?_);rintro e w' ⟨rfl,⟨nd,rfl⟩⟩))
         go_ret
         exact ⟨eRf,by repeat (first|(with_reducible first|exact HB.out|apply bwA|apply bwN|apply bw1|refine below_set ?_ GE308.out|refine below_set ?_ GE310.out)|exact HB.out)⟩
        ·replace c34:=Bool.eq_false_iff.mpr c34
         subst c34
         have H1 : (spec_l07First.l0 k1 a1 a2 a3 (wrap64 (x9_1 + 1)) a0_0 l0_1 a0_2 a0_3 a0_4) = some r:=by rw [if_neg (show ¬ (false = true) by decide)] at H;exact H
         clear H
         have H:=H1
         clear H1
         have H':=aMk H
         clear H
         obtain ⟨hcz41_0,hcz41_1,hcz41_2,hcz41_3,hcz41_4,hfz41_0,hfz41_1,hfz41_2,hfz41_3,hfz41_4⟩:=bC5 BK308.out
         have p309 : 0 ≤ (x9_1 : Int):=of_decide_eq_true (by first|(with_reducible assumption) | assumption)
         have q309 : x9_1 < (l0_1.length : Int):=of_decide_eq_true (by first|(with_reducible assumption) | assumption)
         obtain ⟨ad309,e309,hx309_0,hx309_1,hx309_2,hx309_3,hx309_4,hx309_5⟩:=at_T36 HR0_1.out x9_1 p309 q309
         cases e309
         replace hx309_0:=bXc HB.out hx309_0
         replace hx309_1:=bXc HB.out hx309_1
         replace hx309_2:=bXc HB.out hx309_2
         replace hx309_3:=bXc HB.out hx309_3
         replace hx309_4:=bXc HB.out hx309_4
         replace hx309_5:=bXc HB.out hx309_5
         replace p309:=eq_true p309
         replace q309:=eq_true q309
         go_wp2_with (first|((with_reducible refine gate_dst (N:=10) rfl ?_);refine bxE (N:=10) (cs:=#[.int .i64 0,.int .i64 0,.int .i64 0,.int .i64 0,.int .i64 0,.bool false]) (t:=36) ?_;intro gb310 hg w42 hbox hb;have n0_:=aMk (bkB BK308.out hb);have n1_:=aMk (below_step (by repeat (first|(with_reducible first|exact HB.out|apply bwA|apply bwN|apply bw1|refine below_set ?_ GE308.out)|exact HB.out)) hb);have n2_:=aMk (hbox);have n3_:=aMk ((by rw [hg];exact (below_size (by repeat (first|(with_reducible first|exact HB.out|apply bwA|apply bwN|apply bw1|refine below_set ?_ GE308.out)|exact HB.out))) : w.heap.size ≤ gb310));have n4_:=aMk ((by rw [hg];exact (below_size (by repeat (first|(with_reducible first|exact HB.out|apply bwA|apply bwN|apply bw1|refine below_set ?_ GE308.out)|exact HB.out))) : w.heap.size ≤ gb310));have n5_:=aMk ((bkL BK308.out hg : gb308 ≠ gb310));have n6_:=aMk ((bkG BK308.out hg : gb310 ≠ gb308));clear BK308;clear HB;have BK308:=n0_;have HB:=n1_;have BK310:=n2_;have GW310:=n3_;have GE310:=n4_;have NB308_310:=n5_;have NB310_308:=n6_;clear n0_ n1_ n2_ n3_ n4_ n5_ n6_;clear hb hbox hg;have hnb43:=NB310_308.out;have hnc43:=NB308_310.out;obtain ⟨hcz44_0,hcz44_1,hcz44_2,hcz44_3,hcz44_4,hcz44_5,hfz44_0,hfz44_1,hfz44_2,hfz44_3,hfz44_4,hfz44_5⟩:=bC6 BK310.out)|(go_at_call 40;(with_reducible refine (spec_l05Has.calls ((rd_T36 l0_1 x9_1).f1.f0) ((rd_T36 l0_1 x9_1).f1.f1) a2 true _ A31.out).mono ?_);rintro e w45 ⟨rfl,hb⟩;have n0_:=aMk (blk_below (g:=gb308) (o:=.cells #[.string a0_0,.slice (some ad309) l0_1.length c0_1,.int .i64 a0_2,.int .i64 a0_3,.int .i64 a0_4] 54 (0,0)) (by (with_reducible repeat (first|refine bDn ?_ _|refine bDr ?_|refine bAl ?_ _));refine blk_far ?_ NB308_310.out _;(with_reducible repeat (first|refine bDn ?_ _|refine bDr ?_|refine bAl ?_ _));refine blk_far ?_ NB308_310.out _;(with_reducible repeat (first|refine bDn ?_ _|refine bDr ?_|refine bAl ?_ _));refine blk_far ?_ NB308_310.out _;(with_reducible repeat (first|refine bDn ?_ _|refine bDr ?_|refine bAl ?_ _));refine blk_far ?_ NB308_310.out _;(with_reducible repeat (first|refine bDn ?_ _|refine bDr ?_|refine bAl ?_ _));refine blk_far ?_ NB308_310.out _;(with_reducible repeat (first|refine bDn ?_ _|refine bDr ?_|refine bAl ?_ _));refine blk_far ?_ NB308_310.out _;(with_reducible repeat (first|refine bDn ?_ _|refine bDr ?_|refine bAl ?_ _));exact BK308.out) hb);have n1_:=aMk (blk_below (g:=gb310) (o:=.cells #[.int .i64 ((rd_T36 l0_1 x9_1).f0),.int .i64 ((rd_T36 l0_1 x9_1).f1.f0),.int .i64 ((rd_T36 l0_1 x9_1).f1.f1),.int .i64 ((rd_T36 l0_1 x9_1).f2.f0),.int .i64 ((rd_T36 l0_1 x9_1).f2.f1),.bool ((rd_T36 l0_1 x9_1).f3)] 36 (0,0)) (by (with_reducible repeat (first|refine bDn ?_ _|refine bDr ?_|refine bAl ?_ _));refine blk_put (cs:=#[.int .i64 ((rd_T36 l0_1 x9_1).f0),.int .i64 ((rd_T36 l0_1 x9_1).f1.f0),.int .i64 ((rd_T36 l0_1 x9_1).f1.f1),.int .i64 ((rd_T36 l0_1 x9_1).f2.f0),.int .i64 ((rd_T36 l0_1 x9_1).f2.f1),.bool false]) ?_ 5 _ rfl;(with_reducible repeat (first|refine bDn ?_ _|refine bDr ?_|refine bAl ?_ _));refine blk_put (cs:=#[.int .i64 ((rd_T36 l0_1 x9_1).f0),.int .i64 ((rd_T36 l0_1 x9_1).f1.f0),.int .i64 ((rd_T36 l0_1 x9_1).f1.f1),.int .i64 ((rd_T36 l0_1 x9_1).f2.f0),.int .i64 0,.bool false]) ?_ 4 _ rfl;(with_reducible repeat (first|refine bDn ?_ _|refine bDr ?_|refine bAl ?_ _));refine blk_put (cs:=#[.int .i64 ((rd_T36 l0_1 x9_1).f0),.int .i64 ((rd_T36 l0_1 x9_1).f1.f0),.int .i64 ((rd_T36 l0_1 x9_1).f1.f1),.int .i64 0,.int .i64 0,.bool false]) ?_ 3 _ rfl;(with_reducible repeat (first|refine bDn ?_ _|refine bDr ?_|refine bAl ?_ _));refine blk_put (cs:=#[.int .i64 ((rd_T36 l0_1 x9_1).f0),.int .i64 ((rd_T36 l0_1 x9_1).f1.f0),.int .i64 0,.int .i64 0,.int .i64 0,.bool false]) ?_ 2 _ rfl;(with_reducible repeat (first|refine bDn ?_ _|refine bDr ?_|refine bAl ?_ _));refine blk_put (cs:=#[.int .i64 ((rd_T36 l0_1 x9_1).f0),.int .i64 0,.int .i64 0,.int .i64 0,.int .i64 0,.bool false]) ?_ 1 _ rfl;(with_reducible repeat (first|refine bDn ?_ _|refine bDr ?_|refine bAl ?_ _));refine blk_put (cs:=#[.int .i64 0,.int .i64 0,.int .i64 0,.int .i64 0,.int .i64 0,.bool false]) ?_ 0 _ rfl;(with_reducible repeat (first|refine bDn ?_ _|refine bDr ?_|refine bAl ?_ _));exact BK310.out) hb);have n2_:=aMk (below_step (by repeat (first|(with_reducible first|exact HB.out|apply bwA|apply bwN|apply bw1|refine below_set ?_ GE308.out|refine below_set ?_ GE310.out)|exact HB.out)) hb);clear BK308;clear BK310;clear HB;have BK308:=n0_;have BK310:=n1_;have HB:=n2_;clear n0_ n1_ n2_;(try clear hb);(try clear hb2);(try clear hk);(try clear hi);obtain ⟨hcz46_0,hcz46_1,hcz46_2,hcz46_3,hcz46_4,hcz46_5,hfz46_0,hfz46_1,hfz46_2,hfz46_3,hfz46_4,hfz46_5⟩:=bC6 BK310.out)|(go_at_call 55;(with_reducible refine (spec_l01In.calls a3 ((rd_T36 l0_1 x9_1).f2.f0) ((rd_T36 l0_1 x9_1).f2.f1) false _ A33.out).mono ?_);rintro e w' ⟨rfl,⟨nd,rfl⟩⟩))
         go_roundg k1
         case measure => have:=HK1.out;omega
         case rel => exact ⟨(wrap64 (x9_1 + 1)),(by first | rfl|(simp;done)|(simp [*];done)|(simp [ne_nil_b];done)|(simp [ne_nil_b, *];done)),H',⟨by have:=HK1.out;omega⟩,⟨by (with_reducible repeat (first|refine bDn ?_ _|refine bDr ?_|refine bAl ?_ _));exact BK308.out⟩,⟨by repeat (first|(with_reducible first|exact HB.out|apply bwA|apply bwN|apply bw1|refine below_set ?_ GE308.out|refine below_set ?_ GE310.out)|exact HB.out)⟩⟩
       ·replace c32:=Bool.eq_false_iff.mpr c32
        subst c32
        have H1 : (spec_l07First.l0 k1 a1 a2 a3 (wrap64 (x9_1 + 1)) a0_0 l0_1 a0_2 a0_3 a0_4) = some r:=by rw [if_neg (show ¬ (false = true) by decide)] at H;exact H
        clear H
        have H:=H1
        clear H1
        have H':=aMk H
        clear H
        obtain ⟨hcz47_0,hcz47_1,hcz47_2,hcz47_3,hcz47_4,hfz47_0,hfz47_1,hfz47_2,hfz47_3,hfz47_4⟩:=bC5 BK308.out
        have p309 : 0 ≤ (x9_1 : Int):=of_decide_eq_true (by first|(with_reducible assumption) | assumption)
        have q309 : x9_1 < (l0_1.length : Int):=of_decide_eq_true (by first|(with_reducible assumption) | assumption)
        obtain ⟨ad309,e309,hx309_0,hx309_1,hx309_2,hx309_3,hx309_4,hx309_5⟩:=at_T36 HR0_1.out x9_1 p309 q309
        cases e309
        replace hx309_0:=bXc HB.out hx309_0
        replace hx309_1:=bXc HB.out hx309_1
        replace hx309_2:=bXc HB.out hx309_2
        replace hx309_3:=bXc HB.out hx309_3
        replace hx309_4:=bXc HB.out hx309_4
        replace hx309_5:=bXc HB.out hx309_5
        replace p309:=eq_true p309
        replace q309:=eq_true q309
        go_wp2_with (first|((with_reducible refine gate_dst (N:=10) rfl ?_);refine bxE (N:=10) (cs:=#[.int .i64 0,.int .i64 0,.int .i64 0,.int .i64 0,.int .i64 0,.bool false]) (t:=36) ?_;intro gb310 hg w48 hbox hb;have n0_:=aMk (bkB BK308.out hb);have n1_:=aMk (below_step (by repeat (first|(with_reducible first|exact HB.out|apply bwA|apply bwN|apply bw1|refine below_set ?_ GE308.out)|exact HB.out)) hb);have n2_:=aMk (hbox);have n3_:=aMk ((by rw [hg];exact (below_size (by repeat (first|(with_reducible first|exact HB.out|apply bwA|apply bwN|apply bw1|refine below_set ?_ GE308.out)|exact HB.out))) : w.heap.size ≤ gb310));have n4_:=aMk ((by rw [hg];exact (below_size (by repeat (first|(with_reducible first|exact HB.out|apply bwA|apply bwN|apply bw1|refine below_set ?_ GE308.out)|exact HB.out))) : w.heap.size ≤ gb310));have n5_:=aMk ((bkL BK308.out hg : gb308 ≠ gb310));have n6_:=aMk ((bkG BK308.out hg : gb310 ≠ gb308));clear BK308;clear HB;have BK308:=n0_;have HB:=n1_;have BK310:=n2_;have GW310:=n3_;have GE310:=n4_;have NB308_310:=n5_;have NB310_308:=n6_;clear n0_ n1_ n2_ n3_ n4_ n5_ n6_;clear hb hbox hg;have hnb49:=NB310_308.out;have hnc49:=NB308_310.out;obtain ⟨hcz50_0,hcz50_1,hcz50_2,hcz50_3,hcz50_4,hcz50_5,hfz50_0,hfz50_1,hfz50_2,hfz50_3,hfz50_4,hfz50_5⟩:=bC6 BK310.out)|(go_at_call 40;(with_reducible refine (spec_l05Has.calls ((rd_T36 l0_1 x9_1).f1.f0) ((rd_T36 l0_1 x9_1).f1.f1) a2 false _ A31.out).mono ?_);rintro e w51 ⟨rfl,hb⟩;have n0_:=aMk (blk_below (g:=gb308) (o:=.cells #[.string a0_0,.slice (some ad309) l0_1.length c0_1,.int .i64 a0_2,.int .i64 a0_3,.int .i64 a0_4] 54 (0,0)) (by (with_reducible repeat (first|refine bDn ?_ _|refine bDr ?_|refine bAl ?_ _));refine blk_far ?_ NB308_310.out _;(with_reducible repeat (first|refine bDn ?_ _|refine bDr ?_|refine bAl ?_ _));refine blk_far ?_ NB308_310.out _;(with_reducible repeat (first|refine bDn ?_ _|refine bDr ?_|refine bAl ?_ _));refine blk_far ?_ NB308_310.out _;(with_reducible repeat (first|refine bDn ?_ _|refine bDr ?_|refine bAl ?_ _));refine blk_far ?_ NB308_310.out _;(with_reducible repeat (first|refine bDn ?_ _|refine bDr ?_|refine bAl ?_ _));refine blk_far ?_ NB308_310.out _;(with_reducible repeat (first|refine bDn ?_ _|refine bDr ?_|refine bAl ?_ _));refine blk_far ?_ NB308_310.out _;(with_reducible repeat (first|refine bDn ?_ _|refine bDr ?_|refine bAl ?_ _));exact BK308.out) hb);have n1_:=aMk (blk_below (g:=gb310) (o:=.cells #[.int .i64 ((rd_T36 l0_1 x9_1).f0),.int .i64 ((rd_T36 l0_1 x9_1).f1.f0),.int .i64 ((rd_T36 l0_1 x9_1).f1.f1),.int .i64 ((rd_T36 l0_1 x9_1).f2.f0),.int .i64 ((rd_T36 l0_1 x9_1).f2.f1),.bool ((rd_T36 l0_1 x9_1).f3)] 36 (0,0)) (by (with_reducible repeat (first|refine bDn ?_ _|refine bDr ?_|refine bAl ?_ _));refine blk_put (cs:=#[.int .i64 ((rd_T36 l0_1 x9_1).f0),.int .i64 ((rd_T36 l0_1 x9_1).f1.f0),.int .i64 ((rd_T36 l0_1 x9_1).f1.f1),.int .i64 ((rd_T36 l0_1 x9_1).f2.f0),.int .i64 ((rd_T36 l0_1 x9_1).f2.f1),.bool false]) ?_ 5 _ rfl;(with_reducible repeat (first|refine bDn ?_ _|refine bDr ?_|refine bAl ?_ _));refine blk_put (cs:=#[.int .i64 ((rd_T36 l0_1 x9_1).f0),.int .i64 ((rd_T36 l0_1 x9_1).f1.f0),.int .i64 ((rd_T36 l0_1 x9_1).f1.f1),.int .i64 ((rd_T36 l0_1 x9_1).f2.f0),.int .i64 0,.bool false]) ?_ 4 _ rfl;(with_reducible repeat (first|refine bDn ?_ _|refine bDr ?_|refine bAl ?_ _));refine blk_put (cs:=#[.int .i64 ((rd_T36 l0_1 x9_1).f0),.int .i64 ((rd_T36 l0_1 x9_1).f1.f0),.int .i64 ((rd_T36 l0_1 x9_1).f1.f1),.int .i64 0,.int .i64 0,.bool false]) ?_ 3 _ rfl;(with_reducible repeat (first|refine bDn ?_ _|refine bDr ?_|refine bAl ?_ _));refine blk_put (cs:=#[.int .i64 ((rd_T36 l0_1 x9_1).f0),.int .i64 ((rd_T36 l0_1 x9_1).f1.f0),.int .i64 0,.int .i64 0,.int .i64 0,.bool false]) ?_ 2 _ rfl;(with_reducible repeat (first|refine bDn ?_ _|refine bDr ?_|refine bAl ?_ _));refine blk_put (cs:=#[.int .i64 ((rd_T36 l0_1 x9_1).f0),.int .i64 0,.int .i64 0,.int .i64 0,.int .i64 0,.bool false]) ?_ 1 _ rfl;(with_reducible repeat (first|refine bDn ?_ _|refine bDr ?_|refine bAl ?_ _));refine blk_put (cs:=#[.int .i64 0,.int .i64 0,.int .i64 0,.int .i64 0,.int .i64 0,.bool false]) ?_ 0 _ rfl;(with_reducible repeat (first|refine bDn ?_ _|refine bDr ?_|refine bAl ?_ _));exact BK310.out) hb);have n2_:=aMk (below_step (by repeat (first|(with_reducible first|exact HB.out|apply bwA|apply bwN|apply bw1|refine below_set ?_ GE308.out|refine below_set ?_ GE310.out)|exact HB.out)) hb);clear BK308;clear BK310;clear HB;have BK308:=n0_;have BK310:=n1_;have HB:=n2_;clear n0_ n1_ n2_;(try clear hb);(try clear hb2);(try clear hk);(try clear hi)))
        go_roundg k1
        case measure => have:=HK1.out;omega
        case rel => exact ⟨(wrap64 (x9_1 + 1)),(by first | rfl|(simp;done)|(simp [*];done)|(simp [ne_nil_b];done)|(simp [ne_nil_b, *];done)),H',⟨by have:=HK1.out;omega⟩,⟨by (with_reducible repeat (first|refine bDn ?_ _|refine bDr ?_|refine bAl ?_ _));exact BK308.out⟩,⟨by repeat (first|(with_reducible first|exact HB.out|apply bwA|apply bwN|apply bw1|refine below_set ?_ GE308.out|refine below_set ?_ GE310.out)|exact HB.out)⟩⟩
      ·rw [if_neg c30] at H
       have c30b0 : (((rd_T36 l0_1 x9_1).f0) == a1) = false:=beq_eq_false_iff_ne.mpr c30
       have c30b1 : (((rd_T36 l0_1 x9_1).f0) != a1) = true:=bne_iff_ne.mpr c30
       have H':=aMk H
       clear H
       obtain ⟨hcz52_0,hcz52_1,hcz52_2,hcz52_3,hcz52_4,hfz52_0,hfz52_1,hfz52_2,hfz52_3,hfz52_4⟩:=bC5 BK308.out
       have p309 : 0 ≤ (x9_1 : Int):=of_decide_eq_true (by first|(with_reducible assumption) | assumption)
       have q309 : x9_1 < (l0_1.length : Int):=of_decide_eq_true (by first|(with_reducible assumption) | assumption)
       obtain ⟨ad309,e309,hx309_0,hx309_1,hx309_2,hx309_3,hx309_4,hx309_5⟩:=at_T36 HR0_1.out x9_1 p309 q309
       cases e309
       replace hx309_0:=bXc HB.out hx309_0
       replace hx309_1:=bXc HB.out hx309_1
       replace hx309_2:=bXc HB.out hx309_2
       replace hx309_3:=bXc HB.out hx309_3
       replace hx309_4:=bXc HB.out hx309_4
       replace hx309_5:=bXc HB.out hx309_5
       replace p309:=eq_true p309
       replace q309:=eq_true q309
       go_wp2_with (first|((with_reducible refine gate_dst (N:=10) rfl ?_);refine bxE (N:=10) (cs:=#[.int .i64 0,.int .i64 0,.int .i64 0,.int .i64 0,.int .i64 0,.bool false]) (t:=36) ?_;intro gb310 hg w53 hbox hb;have n0_:=aMk (bkB BK308.out hb);have n1_:=aMk (below_step (by repeat (first|(with_reducible first|exact HB.out|apply bwA|apply bwN|apply bw1|refine below_set ?_ GE308.out)|exact HB.out)) hb);have n2_:=aMk (hbox);have n3_:=aMk ((by rw [hg];exact (below_size (by repeat (first|(with_reducible first|exact HB.out|apply bwA|apply bwN|apply bw1|refine below_set ?_ GE308.out)|exact HB.out))) : w.heap.size ≤ gb310));have n4_:=aMk ((by rw [hg];exact (below_size (by repeat (first|(with_reducible first|exact HB.out|apply bwA|apply bwN|apply bw1|refine below_set ?_ GE308.out)|exact HB.out))) : w.heap.size ≤ gb310));have n5_:=aMk ((bkL BK308.out hg : gb308 ≠ gb310));have n6_:=aMk ((bkG BK308.out hg : gb310 ≠ gb308));clear BK308;clear HB;have BK308:=n0_;have HB:=n1_;have BK310:=n2_;have GW310:=n3_;have GE310:=n4_;have NB308_310:=n5_;have NB310_308:=n6_;clear n0_ n1_ n2_ n3_ n4_ n5_ n6_;clear hb hbox hg;have hnb54:=NB310_308.out;have hnc54:=NB308_310.out;obtain ⟨hcz55_0,hcz55_1,hcz55_2,hcz55_3,hcz55_4,hcz55_5,hfz55_0,hfz55_1,hfz55_2,hfz55_3,hfz55_4,hfz55_5⟩:=bC6 BK310.out))
       go_roundg k1
       case measure => have:=HK1.out;omega
       case rel => exact ⟨(wrap64 (x9_1 + 1)),(by first | rfl|(simp;done)|(simp [*];done)|(simp [ne_nil_b];done)|(simp [ne_nil_b, *];done)),H',⟨by have:=HK1.out;omega⟩,⟨by (with_reducible repeat (first|refine bDn ?_ _|refine bDr ?_|refine bAl ?_ _));refine blk_far ?_ NB308_310.out _;(with_reducible repeat (first|refine bDn ?_ _|refine bDr ?_|refine bAl ?_ _));refine blk_far ?_ NB308_310.out _;(with_reducible repeat (first|refine bDn ?_ _|refine bDr ?_|refine bAl ?_ _));refine blk_far ?_ NB308_310.out _;(with_reducible repeat (first|refine bDn ?_ _|refine bDr ?_|refine bAl ?_ _));refine blk_far ?_ NB308_310.out _;(with_reducible repeat (first|refine bDn ?_ _|refine bDr ?_|refine bAl ?_ _));refine blk_far ?_ NB308_310.out _;(with_reducible repeat (first|refine bDn ?_ _|refine bDr ?_|refine bAl ?_ _));refine blk_far ?_ NB308_310.out _;(with_reducible repeat (first|refine bDn ?_ _|refine bDr ?_|refine bAl ?_ _));exact BK308.out⟩,⟨by repeat (first|(with_reducible first|exact HB.out|apply bwA|apply bwN|apply bw1|refine below_set ?_ GE308.out|refine below_set ?_ GE310.out)|exact HB.out)⟩⟩
    ·rw [if_neg c7] at H
     exact absurd H (by simp)
   ·rw [if_neg c6] at H
    have c6b0 : decide (x9_1 < (l0_1.length : Int)) = false:=decide_eq_false c6
    clear c6
    obtain rfl:=Option.some.inj H
    obtain ⟨hcz56_0,hcz56_1,hcz56_2,hcz56_3,hcz56_4,hfz56_0,hfz56_1,hfz56_2,hfz56_3,hfz56_4⟩:=bC5 BK308.out
    go_wp2
    go_ret
    exact ⟨eRf,by repeat (first|(with_reducible first|exact HB.out|apply bwA|apply bwN|apply bw1|refine below_set ?_ GE308.out)|exact HB.out)⟩
end
section
/-! ### impl_askedRole: function 64 -/
def impl_askedRole.f (k : Nat) (a0_0 : ByteArray) (l0_1 : List (S36)) (a0_2 : Int) (a0_3 : Int) (a0_4 : Int) (a1 : Int) (a2 : Int) (a3 : Int) : Option (Int):=(impl_RoleOK.f k a0_0 l0_1 a0_2 a0_3 a0_4).bind fun t322 => (if t322 = true then ((impl_within.f a1 0 255).bind fun t323 => (if t323 = true then ((impl_isPort.f a3).bind fun t324 => (if t324 = true then ((impl_isAddress.f a2).bind fun t325 => (if t325 = true then (some 0) else (some 4))) else (some 4))) else (some 4))) else (some 1))
theorem impl_askedRole.mono : ∀ a0 a1 a2 a3 a4 a5 a6 a7 k,LeO (impl_askedRole.f k a0 a1 a2 a3 a4 a5 a6 a7) (impl_askedRole.f (k + 1) a0 a1 a2 a3 a4 a5 a6 a7):=by
 intro a0 a1 a2 a3 a4 a5 a6 a7 k
 unfold impl_askedRole.f
 repeat' first
   | (with_reducible exact impl_RoleOK.mono ..)
   | (with_reducible exact LeO.refl _)
   | (with_reducible exact LeO.none _)
   | (with_reducible refine LeO.ite ?_ ?_)
   | (with_reducible refine LeO.bind ?_ (fun _ => ?_))
   | exact impl_RoleOK.mono ..
   | exact LeO.none _
   | refine LeO.ite ?_ ?_
   | refine LeO.bind ?_ (fun _ => ?_)
set_option maxHeartbeats 8000000 in
set_option maxRecDepth 100000 in
theorem impl_askedRole.calls (k : Nat) (a0_0 : ByteArray) (A0_1 : Option Addr) (c0_1 : Nat) (l0_1 : List (S36)) (a0_2 : Int) (a0_3 : Int) (a0_4 : Int) (a1 : Int) (a2 : Int) (a3 : Int) (r : Int) (w : World) (hr0_1 : Kd.C k36 w A0_1 l0_1.length l0_1) (hc0_1 : l0_1.length ≤ c0_1) (h : impl_askedRole.f k a0_0 l0_1 a0_2 a0_3 a0_4 a1 a2 a3 = some r) :
  Calls Try.prog 64 #[.agg #[.string a0_0,.slice A0_1 l0_1.length c0_1,.int .i64 a0_2,.int .i64 a0_3,.int .i64 a0_4],.int .i64 a1,.int .i64 a2,.int .i64 a3] w fun e w' => e = .returned (.int .i64 r) ∧ Below w.heap.size w w':=by
 have hu54:=Try.underlying54
 have HR0_1:=aMk hr0_1
 have HC0_1:=aMk hc0_1
 clear hr0_1 hc0_1
 have HB:=aMk (Below.refl w.heap.size w)
 have H : ((impl_RoleOK.f k a0_0 l0_1 a0_2 a0_3 a0_4).bind fun t322 => (if t322 = true then ((impl_within.f a1 0 255).bind fun t323 => (if t323 = true then ((impl_isPort.f a3).bind fun t324 => (if t324 = true then ((impl_isAddress.f a2).bind fun t325 => (if t325 = true then (some 0) else (some 4))) else (some 4))) else (some 4))) else (some 1))) = some r:=h
 clear h
 replace H:=Option.bind_eq_some_iff.mp H
 obtain ⟨t322,A50,H⟩:=H
 replace H : (if t322 = true then ((impl_within.f a1 0 255).bind fun t323 => (if t323 = true then ((impl_isPort.f a3).bind fun t324 => (if t324 = true then ((impl_isAddress.f a2).bind fun t325 => (if t325 = true then (some 0) else (some 4))) else (some 4))) else (some 4))) else (some 1)) = some r:=H
 have A5:=aMk A50
 clear A50
 by_cases c6 : t322 = true
 ·subst c6
  have H1 : ((impl_within.f a1 0 255).bind fun t323 => (if t323 = true then ((impl_isPort.f a3).bind fun t324 => (if t324 = true then ((impl_isAddress.f a2).bind fun t325 => (if t325 = true then (some 0) else (some 4))) else (some 4))) else (some 4))) = some r:=by rw [if_pos rfl] at H;exact H
  clear H
  have H:=H1
  clear H1
  replace H:=Option.bind_eq_some_iff.mp H
  obtain ⟨t323,A70,H⟩:=H
  replace H : (if t323 = true then ((impl_isPort.f a3).bind fun t324 => (if t324 = true then ((impl_isAddress.f a2).bind fun t325 => (if t325 = true then (some 0) else (some 4))) else (some 4))) else (some 4)) = some r:=H
  have A7:=aMk A70
  clear A70
  by_cases c8 : t323 = true
  ·subst c8
   have H1 : ((impl_isPort.f a3).bind fun t324 => (if t324 = true then ((impl_isAddress.f a2).bind fun t325 => (if t325 = true then (some 0) else (some 4))) else (some 4))) = some r:=by rw [if_pos rfl] at H;exact H
   clear H
   have H:=H1
   clear H1
   replace H:=Option.bind_eq_some_iff.mp H
   obtain ⟨t324,A90,H⟩:=H
   replace H : (if t324 = true then ((impl_isAddress.f a2).bind fun t325 => (if t325 = true then (some 0) else (some 4))) else (some 4)) = some r:=H
   have A9:=aMk A90
   clear A90
   by_cases c10 : t324 = true
   ·subst c10
    have H1 : ((impl_isAddress.f a2).bind fun t325 => (if t325 = true then (some 0) else (some 4))) = some r:=by rw [if_pos rfl] at H;exact H
    clear H
    have H:=H1
    clear H1
    replace H:=Option.bind_eq_some_iff.mp H
    obtain ⟨t325,A110,H⟩:=H
    replace H : (if t325 = true then (some 0) else (some 4)) = some r:=H
    have A11:=aMk A110
    clear A110
    by_cases c12 : t325 = true
    ·subst c12
     have H1 : (some 0) = some r:=by rw [if_pos rfl] at H;exact H
     clear H
     have H:=H1
     clear H1
     obtain rfl:=Option.some.inj H
     go_enter Try.func64,Try.ntmps64
     go_wp2_with (first|((with_reducible refine gate_dst (N:=4) rfl ?_);refine bxE (N:=4) (cs:=#[.string a0_0,.slice A0_1 l0_1.length c0_1,.int .i64 a0_2,.int .i64 a0_3,.int .i64 a0_4]) (t:=54) ?_;intro gb321 hg w13 hbox hb;have n0_:=aMk (bSt hb);have n1_:=aMk (hbox);have n2_:=aMk ((by rw [hg];exact bSz : w.heap.size ≤ gb321));have n3_:=aMk ((by rw [hg];exact bSz : w.heap.size ≤ gb321));clear HB;have HB:=n0_;have BK321:=n1_;have GW321:=n2_;have GE321:=n3_;clear n0_ n1_ n2_ n3_;clear hb hbox hg;obtain ⟨hcz14_0,hcz14_1,hcz14_2,hcz14_3,hcz14_4,hfz14_0,hfz14_1,hfz14_2,hfz14_3,hfz14_4⟩:=bC5 BK321.out)|((with_reducible refine gate_callee (f:=25) rfl ?_);refine gLs 11 Try.func25 #[.agg #[.string a0_0,.slice A0_1 l0_1.length c0_1,.int .i64 a0_2,.int .i64 a0_3,.int .i64 a0_4]] ?_;(with_reducible refine (impl_RoleOK.calls k a0_0 _ _ l0_1 a0_2 a0_3 a0_4 true _ ?side1 ?side2 A5.out).mono ?_);(case side1 => repeat (first|exact (Kd.C_below HR0_1.out HB.out)|(with_reducible refine Kd.C_alloc ?_ _)|(with_reducible refine Kd.C_drewN ?_ _)|(with_reducible refine Kd.C_drew ?_)));(case side2 => exact HC0_1.out);rintro e w15 ⟨rfl,hb⟩;refine ⟨_,rfl,?_⟩;have n0_:=aMk (bkB BK321.out hb);have n1_:=aMk (below_step (by repeat (first|(with_reducible first|exact HB.out|apply bwA|apply bwN|apply bw1|refine below_set ?_ GE321.out)|exact HB.out)) hb);clear BK321;clear HB;have BK321:=n0_;have HB:=n1_;clear n0_ n1_;(try clear hb);(try clear hb2);(try clear hk);(try clear hi))|((with_reducible refine gate_callee (f:=60) rfl ?_);refine gLs 15 Try.func60 #[.int .i64 a1,.int .i64 0,.int .i64 255] ?_;(with_reducible refine (impl_within.calls a1 0 255 true _ A7.out).mono ?_);rintro e w' ⟨rfl,⟨nd,rfl⟩⟩;refine ⟨_,rfl,?_⟩)|(go_at_call 79;(with_reducible refine (impl_isPort.calls a3 true _ A9.out).mono ?_);rintro e w' ⟨rfl,⟨nd,rfl⟩⟩)|(go_at_call 42;(with_reducible refine (impl_isAddress.calls a2 true _ A11.out).mono ?_);rintro e w' ⟨rfl,⟨nd,rfl⟩⟩))
     go_ret
     exact ⟨eRf,by repeat (first|(with_reducible first|exact HB.out|apply bwA|apply bwN|apply bw1|refine below_set ?_ GE321.out)|exact HB.out)⟩
    ·replace c12:=Bool.eq_false_iff.mpr c12
     subst c12
     have H1 : (some 4) = some r:=by rw [if_neg (show ¬ (false = true) by decide)] at H;exact H
     clear H
     have H:=H1
     clear H1
     obtain rfl:=Option.some.inj H
     go_enter Try.func64,Try.ntmps64
     go_wp2_with (first|((with_reducible refine gate_dst (N:=4) rfl ?_);refine bxE (N:=4) (cs:=#[.string a0_0,.slice A0_1 l0_1.length c0_1,.int .i64 a0_2,.int .i64 a0_3,.int .i64 a0_4]) (t:=54) ?_;intro gb321 hg w16 hbox hb;have n0_:=aMk (bSt hb);have n1_:=aMk (hbox);have n2_:=aMk ((by rw [hg];exact bSz : w.heap.size ≤ gb321));have n3_:=aMk ((by rw [hg];exact bSz : w.heap.size ≤ gb321));clear HB;have HB:=n0_;have BK321:=n1_;have GW321:=n2_;have GE321:=n3_;clear n0_ n1_ n2_ n3_;clear hb hbox hg;obtain ⟨hcz17_0,hcz17_1,hcz17_2,hcz17_3,hcz17_4,hfz17_0,hfz17_1,hfz17_2,hfz17_3,hfz17_4⟩:=bC5 BK321.out)|((with_reducible refine gate_callee (f:=25) rfl ?_);refine gLs 11 Try.func25 #[.agg #[.string a0_0,.slice A0_1 l0_1.length c0_1,.int .i64 a0_2,.int .i64 a0_3,.int .i64 a0_4]] ?_;(with_reducible refine (impl_RoleOK.calls k a0_0 _ _ l0_1 a0_2 a0_3 a0_4 true _ ?side1 ?side2 A5.out).mono ?_);(case side1 => repeat (first|exact (Kd.C_below HR0_1.out HB.out)|(with_reducible refine Kd.C_alloc ?_ _)|(with_reducible refine Kd.C_drewN ?_ _)|(with_reducible refine Kd.C_drew ?_)));(case side2 => exact HC0_1.out);rintro e w18 ⟨rfl,hb⟩;refine ⟨_,rfl,?_⟩;have n0_:=aMk (bkB BK321.out hb);have n1_:=aMk (below_step (by repeat (first|(with_reducible first|exact HB.out|apply bwA|apply bwN|apply bw1|refine below_set ?_ GE321.out)|exact HB.out)) hb);clear BK321;clear HB;have BK321:=n0_;have HB:=n1_;clear n0_ n1_;(try clear hb);(try clear hb2);(try clear hk);(try clear hi))|((with_reducible refine gate_callee (f:=60) rfl ?_);refine gLs 15 Try.func60 #[.int .i64 a1,.int .i64 0,.int .i64 255] ?_;(with_reducible refine (impl_within.calls a1 0 255 true _ A7.out).mono ?_);rintro e w' ⟨rfl,⟨nd,rfl⟩⟩;refine ⟨_,rfl,?_⟩)|(go_at_call 79;(with_reducible refine (impl_isPort.calls a3 true _ A9.out).mono ?_);rintro e w' ⟨rfl,⟨nd,rfl⟩⟩)|(go_at_call 42;(with_reducible refine (impl_isAddress.calls a2 false _ A11.out).mono ?_);rintro e w' ⟨rfl,⟨nd,rfl⟩⟩))
     go_ret
     exact ⟨eRf,by repeat (first|(with_reducible first|exact HB.out|apply bwA|apply bwN|apply bw1|refine below_set ?_ GE321.out)|exact HB.out)⟩
   ·replace c10:=Bool.eq_false_iff.mpr c10
    subst c10
    have H1 : (some 4) = some r:=by rw [if_neg (show ¬ (false = true) by decide)] at H;exact H
    clear H
    have H:=H1
    clear H1
    obtain rfl:=Option.some.inj H
    go_enter Try.func64,Try.ntmps64
    go_wp2_with (first|((with_reducible refine gate_dst (N:=4) rfl ?_);refine bxE (N:=4) (cs:=#[.string a0_0,.slice A0_1 l0_1.length c0_1,.int .i64 a0_2,.int .i64 a0_3,.int .i64 a0_4]) (t:=54) ?_;intro gb321 hg w19 hbox hb;have n0_:=aMk (bSt hb);have n1_:=aMk (hbox);have n2_:=aMk ((by rw [hg];exact bSz : w.heap.size ≤ gb321));have n3_:=aMk ((by rw [hg];exact bSz : w.heap.size ≤ gb321));clear HB;have HB:=n0_;have BK321:=n1_;have GW321:=n2_;have GE321:=n3_;clear n0_ n1_ n2_ n3_;clear hb hbox hg;obtain ⟨hcz20_0,hcz20_1,hcz20_2,hcz20_3,hcz20_4,hfz20_0,hfz20_1,hfz20_2,hfz20_3,hfz20_4⟩:=bC5 BK321.out)|((with_reducible refine gate_callee (f:=25) rfl ?_);refine gLs 11 Try.func25 #[.agg #[.string a0_0,.slice A0_1 l0_1.length c0_1,.int .i64 a0_2,.int .i64 a0_3,.int .i64 a0_4]] ?_;(with_reducible refine (impl_RoleOK.calls k a0_0 _ _ l0_1 a0_2 a0_3 a0_4 true _ ?side1 ?side2 A5.out).mono ?_);(case side1 => repeat (first|exact (Kd.C_below HR0_1.out HB.out)|(with_reducible refine Kd.C_alloc ?_ _)|(with_reducible refine Kd.C_drewN ?_ _)|(with_reducible refine Kd.C_drew ?_)));(case side2 => exact HC0_1.out);rintro e w21 ⟨rfl,hb⟩;refine ⟨_,rfl,?_⟩;have n0_:=aMk (bkB BK321.out hb);have n1_:=aMk (below_step (by repeat (first|(with_reducible first|exact HB.out|apply bwA|apply bwN|apply bw1|refine below_set ?_ GE321.out)|exact HB.out)) hb);clear BK321;clear HB;have BK321:=n0_;have HB:=n1_;clear n0_ n1_;(try clear hb);(try clear hb2);(try clear hk);(try clear hi))|((with_reducible refine gate_callee (f:=60) rfl ?_);refine gLs 15 Try.func60 #[.int .i64 a1,.int .i64 0,.int .i64 255] ?_;(with_reducible refine (impl_within.calls a1 0 255 true _ A7.out).mono ?_);rintro e w' ⟨rfl,⟨nd,rfl⟩⟩;refine ⟨_,rfl,?_⟩)|(go_at_call 79;(with_reducible refine (impl_isPort.calls a3 false _ A9.out).mono ?_);rintro e w' ⟨rfl,⟨nd,rfl⟩⟩))
    go_ret
    exact ⟨eRf,by repeat (first|(with_reducible first|exact HB.out|apply bwA|apply bwN|apply bw1|refine below_set ?_ GE321.out)|exact HB.out)⟩
  ·replace c8:=Bool.eq_false_iff.mpr c8
   subst c8
   have H1 : (some 4) = some r:=by rw [if_neg (show ¬ (false = true) by decide)] at H;exact H
   clear H
   have H:=H1
   clear H1
   obtain rfl:=Option.some.inj H
   go_enter Try.func64,Try.ntmps64
   go_wp2_with (first|((with_reducible refine gate_dst (N:=4) rfl ?_);refine bxE (N:=4) (cs:=#[.string a0_0,.slice A0_1 l0_1.length c0_1,.int .i64 a0_2,.int .i64 a0_3,.int .i64 a0_4]) (t:=54) ?_;intro gb321 hg w22 hbox hb;have n0_:=aMk (bSt hb);have n1_:=aMk (hbox);have n2_:=aMk ((by rw [hg];exact bSz : w.heap.size ≤ gb321));have n3_:=aMk ((by rw [hg];exact bSz : w.heap.size ≤ gb321));clear HB;have HB:=n0_;have BK321:=n1_;have GW321:=n2_;have GE321:=n3_;clear n0_ n1_ n2_ n3_;clear hb hbox hg;obtain ⟨hcz23_0,hcz23_1,hcz23_2,hcz23_3,hcz23_4,hfz23_0,hfz23_1,hfz23_2,hfz23_3,hfz23_4⟩:=bC5 BK321.out)|((with_reducible refine gate_callee (f:=25) rfl ?_);refine gLs 11 Try.func25 #[.agg #[.string a0_0,.slice A0_1 l0_1.length c0_1,.int .i64 a0_2,.int .i64 a0_3,.int .i64 a0_4]] ?_;(with_reducible refine (impl_RoleOK.calls k a0_0 _ _ l0_1 a0_2 a0_3 a0_4 true _ ?side1 ?side2 A5.out).mono ?_);(case side1 => repeat (first|exact (Kd.C_below HR0_1.out HB.out)|(with_reducible refine Kd.C_alloc ?_ _)|(with_reducible refine Kd.C_drewN ?_ _)|(with_reducible refine Kd.C_drew ?_)));(case side2 => exact HC0_1.out);rintro e w24 ⟨rfl,hb⟩;refine ⟨_,rfl,?_⟩;have n0_:=aMk (bkB BK321.out hb);have n1_:=aMk (below_step (by repeat (first|(with_reducible first|exact HB.out|apply bwA|apply bwN|apply bw1|refine below_set ?_ GE321.out)|exact HB.out)) hb);clear BK321;clear HB;have BK321:=n0_;have HB:=n1_;clear n0_ n1_;(try clear hb);(try clear hb2);(try clear hk);(try clear hi))|((with_reducible refine gate_callee (f:=60) rfl ?_);refine gLs 15 Try.func60 #[.int .i64 a1,.int .i64 0,.int .i64 255] ?_;(with_reducible refine (impl_within.calls a1 0 255 false _ A7.out).mono ?_);rintro e w' ⟨rfl,⟨nd,rfl⟩⟩;refine ⟨_,rfl,?_⟩))
   go_ret
   exact ⟨eRf,by repeat (first|(with_reducible first|exact HB.out|apply bwA|apply bwN|apply bw1|refine below_set ?_ GE321.out)|exact HB.out)⟩
 ·replace c6:=Bool.eq_false_iff.mpr c6
  subst c6
  have H1 : (some 1) = some r:=by rw [if_neg (show ¬ (false = true) by decide)] at H;exact H
  clear H
  have H:=H1
  clear H1
  obtain rfl:=Option.some.inj H
  go_enter Try.func64,Try.ntmps64
  go_wp2_with (first|((with_reducible refine gate_dst (N:=4) rfl ?_);refine bxE (N:=4) (cs:=#[.string a0_0,.slice A0_1 l0_1.length c0_1,.int .i64 a0_2,.int .i64 a0_3,.int .i64 a0_4]) (t:=54) ?_;intro gb321 hg w25 hbox hb;have n0_:=aMk (bSt hb);have n1_:=aMk (hbox);have n2_:=aMk ((by rw [hg];exact bSz : w.heap.size ≤ gb321));have n3_:=aMk ((by rw [hg];exact bSz : w.heap.size ≤ gb321));clear HB;have HB:=n0_;have BK321:=n1_;have GW321:=n2_;have GE321:=n3_;clear n0_ n1_ n2_ n3_;clear hb hbox hg;obtain ⟨hcz26_0,hcz26_1,hcz26_2,hcz26_3,hcz26_4,hfz26_0,hfz26_1,hfz26_2,hfz26_3,hfz26_4⟩:=bC5 BK321.out)|((with_reducible refine gate_callee (f:=25) rfl ?_);refine gLs 11 Try.func25 #[.agg #[.string a0_0,.slice A0_1 l0_1.length c0_1,.int .i64 a0_2,.int .i64 a0_3,.int .i64 a0_4]] ?_;(with_reducible refine (impl_RoleOK.calls k a0_0 _ _ l0_1 a0_2 a0_3 a0_4 false _ ?side1 ?side2 A5.out).mono ?_);(case side1 => repeat (first|exact (Kd.C_below HR0_1.out HB.out)|(with_reducible refine Kd.C_alloc ?_ _)|(with_reducible refine Kd.C_drewN ?_ _)|(with_reducible refine Kd.C_drew ?_)));(case side2 => exact HC0_1.out);rintro e w27 ⟨rfl,hb⟩;refine ⟨_,rfl,?_⟩;have n0_:=aMk (bkB BK321.out hb);have n1_:=aMk (below_step (by repeat (first|(with_reducible first|exact HB.out|apply bwA|apply bwN|apply bw1|refine below_set ?_ GE321.out)|exact HB.out)) hb);clear BK321;clear HB;have BK321:=n0_;have HB:=n1_;clear n0_ n1_;(try clear hb);(try clear hb2);(try clear hk);(try clear hi)))
  go_ret
  exact ⟨eRf,by repeat (first|(with_reducible first|exact HB.out|apply bwA|apply bwN|apply bw1|refine below_set ?_ GE321.out)|exact HB.out)⟩
end
section
/-! ### impl_Role_first_1: function 88 -/
def impl_Role_first_1.f (a0_0 : Int) (a0_1 : Int) (a0_2 : Int) (a0_3 : Int) (a0_4 : Int) (a0_5 : Bool) (a1 : Int) (a2 : Int) (a3 : Int) : Option (Bool):=if a0_0 = 0 then ((impl_Net_has.f a0_1 a0_2 a2).bind fun t329 => (if t329 = true then ((impl_Range_has.f a0_3 a0_4 a3).bind fun t330 => (some t330)) else (some false))) else (if a0_0 = a1 then ((impl_Net_has.f a0_1 a0_2 a2).bind fun t331 => (if t331 = true then ((impl_Range_has.f a0_3 a0_4 a3).bind fun t332 => (some t332)) else (some false))) else (some false))
set_option maxHeartbeats 8000000 in
set_option maxRecDepth 100000 in
theorem impl_Role_first_1.calls (q1 q2 q3 : Nat) (a0_0 : Int) (a0_1 : Int) (a0_2 : Int) (a0_3 : Int) (a0_4 : Int) (a0_5 : Bool) (a1 : Int) (a2 : Int) (a3 : Int) (r : Bool) (w : World) (hq1 : w.cell? ⟨q1,0,none⟩ = some (.int .i64 a1)) (hq2 : w.cell? ⟨q2,0,none⟩ = some (.int .i64 a2)) (hq3 : w.cell? ⟨q3,0,none⟩ = some (.int .i64 a3)) (h : impl_Role_first_1.f a0_0 a0_1 a0_2 a0_3 a0_4 a0_5 a1 a2 a3 = some r) :
  Calls Try.prog 88 #[.agg #[.int .i64 a0_0,.int .i64 a0_1,.int .i64 a0_2,.int .i64 a0_3,.int .i64 a0_4,.bool a0_5],.pointer (some ⟨q1,0,none⟩),.pointer (some ⟨q2,0,none⟩),.pointer (some ⟨q3,0,none⟩)] w fun e w' => e = .returned (.bool r) ∧ Below w.heap.size w w':=by
 have HQ1:=aMk hq1
 clear hq1
 have HQ2:=aMk hq2
 clear hq2
 have HQ3:=aMk hq3
 clear hq3
 have hu36:=Try.underlying36
 have hu26:=Try.underlying26
 have hu34:=Try.underlying34
 have HB:=aMk (Below.refl w.heap.size w)
 have H : (if a0_0 = 0 then ((impl_Net_has.f a0_1 a0_2 a2).bind fun t329 => (if t329 = true then ((impl_Range_has.f a0_3 a0_4 a3).bind fun t330 => (some t330)) else (some false))) else (if a0_0 = a1 then ((impl_Net_has.f a0_1 a0_2 a2).bind fun t331 => (if t331 = true then ((impl_Range_has.f a0_3 a0_4 a3).bind fun t332 => (some t332)) else (some false))) else (some false))) = some r:=h
 clear h
 by_cases c5 : a0_0 = 0
 ·rw [if_pos c5] at H
  have c5b0 : (a0_0 == 0) = true:=beq_iff_eq.mpr c5
  have c5b1 : (a0_0 != 0) = false:=bne_eq_false_iff_eq.mpr c5
  clear c5
  replace H:=Option.bind_eq_some_iff.mp H
  obtain ⟨t329,A60,H⟩:=H
  replace H : (if t329 = true then ((impl_Range_has.f a0_3 a0_4 a3).bind fun t330 => (some t330)) else (some false)) = some r:=H
  have A6:=aMk A60
  clear A60
  by_cases c7 : t329 = true
  ·subst c7
   have H1 : ((impl_Range_has.f a0_3 a0_4 a3).bind fun t330 => (some t330)) = some r:=by rw [if_pos rfl] at H;exact H
   clear H
   have H:=H1
   clear H1
   replace H:=Option.bind_eq_some_iff.mp H
   obtain ⟨t330,A80,H⟩:=H
   replace H : (some t330) = some r:=H
   have A8:=aMk A80
   clear A80
   obtain rfl:=Option.some.inj H
   have hcq1:=HQ1.out
   have hcq2:=HQ2.out
   have hcq3:=HQ3.out
   go_enter Try.func88,Try.ntmps88
   go_wp2_with (first|((with_reducible refine gate_dst (N:=4) rfl ?_);refine bxE (N:=4) (cs:=#[.int .i64 a0_0,.int .i64 a0_1,.int .i64 a0_2,.int .i64 a0_3,.int .i64 a0_4,.bool a0_5]) (t:=36) ?_;intro gb328 hg w9 hbox hb;have n0_:=aMk (bSt hb);have n1_:=aMk (hbox);have n2_:=aMk ((by rw [hg];exact bSz : w.heap.size ≤ gb328));have n3_:=aMk ((by rw [hg];exact bSz : w.heap.size ≤ gb328));clear HB;have HB:=n0_;have hcq1:=(HB.out.cell (wLt w _ HQ1.out)).trans HQ1.out;have hcq2:=(HB.out.cell (wLt w _ HQ2.out)).trans HQ2.out;have hcq3:=(HB.out.cell (wLt w _ HQ3.out)).trans HQ3.out;have BK328:=n1_;have GW328:=n2_;have GE328:=n3_;clear n0_ n1_ n2_ n3_;clear hb hbox hg;obtain ⟨hcz10_0,hcz10_1,hcz10_2,hcz10_3,hcz10_4,hcz10_5,hfz10_0,hfz10_1,hfz10_2,hfz10_3,hfz10_4,hfz10_5⟩:=bC6 BK328.out)|(go_at_call 43;(with_reducible refine (impl_Net_has.calls a0_1 a0_2 a2 true _ A6.out).mono ?_);rintro e w11 ⟨rfl,hb⟩;have n0_:=aMk (bkB BK328.out hb);have n1_:=aMk (below_step (by repeat (first|(with_reducible first|exact HB.out|apply bwA|apply bwN|apply bw1|refine below_set ?_ GE328.out)|exact HB.out)) hb);clear BK328;clear HB;have BK328:=n0_;have HB:=n1_;have hcq1:=(HB.out.cell (wLt w _ HQ1.out)).trans HQ1.out;have hcq2:=(HB.out.cell (wLt w _ HQ2.out)).trans HQ2.out;have hcq3:=(HB.out.cell (wLt w _ HQ3.out)).trans HQ3.out;clear n0_ n1_;(try clear hb);(try clear hb2);(try clear hk);(try clear hi);obtain ⟨hcz12_0,hcz12_1,hcz12_2,hcz12_3,hcz12_4,hcz12_5,hfz12_0,hfz12_1,hfz12_2,hfz12_3,hfz12_4,hfz12_5⟩:=bC6 BK328.out)|(go_at_call 89;(with_reducible refine (impl_Range_has.calls a0_3 a0_4 a3 t330 _ A8.out).mono ?_);rintro e w13 ⟨rfl,hb⟩;have n0_:=aMk (bkB BK328.out hb);have n1_:=aMk (below_step (by repeat (first|(with_reducible first|exact HB.out|apply bwA|apply bwN|apply bw1|refine below_set ?_ GE328.out)|exact HB.out)) hb);clear BK328;clear HB;have BK328:=n0_;have HB:=n1_;have hcq1:=(HB.out.cell (wLt w _ HQ1.out)).trans HQ1.out;have hcq2:=(HB.out.cell (wLt w _ HQ2.out)).trans HQ2.out;have hcq3:=(HB.out.cell (wLt w _ HQ3.out)).trans HQ3.out;clear n0_ n1_;(try clear hb);(try clear hb2);(try clear hk);(try clear hi)))
   go_ret
   exact ⟨eRf,by repeat (first|(with_reducible first|exact HB.out|apply bwA|apply bwN|apply bw1|refine below_set ?_ GE328.out)|exact HB.out)⟩
  ·replace c7:=Bool.eq_false_iff.mpr c7
   subst c7
   have H1 : (some false) = some r:=by rw [if_neg (show ¬ (false = true) by decide)] at H;exact H
   clear H
   have H:=H1
   clear H1
   obtain rfl:=Option.some.inj H
   have hcq1:=HQ1.out
   have hcq2:=HQ2.out
   have hcq3:=HQ3.out
   go_enter Try.func88,Try.ntmps88
   go_wp2_with (first|((with_reducible refine gate_dst (N:=4) rfl ?_);refine bxE (N:=4) (cs:=#[.int .i64 a0_0,.int .i64 a0_1,.int .i64 a0_2,.int .i64 a0_3,.int .i64 a0_4,.bool a0_5]) (t:=36) ?_;intro gb328 hg w14 hbox hb;have n0_:=aMk (bSt hb);have n1_:=aMk (hbox);have n2_:=aMk ((by rw [hg];exact bSz : w.heap.size ≤ gb328));have n3_:=aMk ((by rw [hg];exact bSz : w.heap.size ≤ gb328));clear HB;have HB:=n0_;have hcq1:=(HB.out.cell (wLt w _ HQ1.out)).trans HQ1.out;have hcq2:=(HB.out.cell (wLt w _ HQ2.out)).trans HQ2.out;have hcq3:=(HB.out.cell (wLt w _ HQ3.out)).trans HQ3.out;have BK328:=n1_;have GW328:=n2_;have GE328:=n3_;clear n0_ n1_ n2_ n3_;clear hb hbox hg;obtain ⟨hcz15_0,hcz15_1,hcz15_2,hcz15_3,hcz15_4,hcz15_5,hfz15_0,hfz15_1,hfz15_2,hfz15_3,hfz15_4,hfz15_5⟩:=bC6 BK328.out)|(go_at_call 43;(with_reducible refine (impl_Net_has.calls a0_1 a0_2 a2 false _ A6.out).mono ?_);rintro e w16 ⟨rfl,hb⟩;have n0_:=aMk (bkB BK328.out hb);have n1_:=aMk (below_step (by repeat (first|(with_reducible first|exact HB.out|apply bwA|apply bwN|apply bw1|refine below_set ?_ GE328.out)|exact HB.out)) hb);clear BK328;clear HB;have BK328:=n0_;have HB:=n1_;have hcq1:=(HB.out.cell (wLt w _ HQ1.out)).trans HQ1.out;have hcq2:=(HB.out.cell (wLt w _ HQ2.out)).trans HQ2.out;have hcq3:=(HB.out.cell (wLt w _ HQ3.out)).trans HQ3.out;clear n0_ n1_;(try clear hb);(try clear hb2);(try clear hk);(try clear hi)))
   go_ret
   exact ⟨eRf,by repeat (first|(with_reducible first|exact HB.out|apply bwA|apply bwN|apply bw1|refine below_set ?_ GE328.out)|exact HB.out)⟩
 ·rw [if_neg c5] at H
  have c5b0 : (a0_0 == 0) = false:=beq_eq_false_iff_ne.mpr c5
  have c5b1 : (a0_0 != 0) = true:=bne_iff_ne.mpr c5
  by_cases c17 : a0_0 = a1
  ·rw [if_pos c17] at H
   have c17b0 : (a0_0 == a1) = true:=beq_iff_eq.mpr c17
   have c17b1 : (a0_0 != a1) = false:=bne_eq_false_iff_eq.mpr c17
   clear c17
   replace H:=Option.bind_eq_some_iff.mp H
   obtain ⟨t331,A180,H⟩:=H
   replace H : (if t331 = true then ((impl_Range_has.f a0_3 a0_4 a3).bind fun t332 => (some t332)) else (some false)) = some r:=H
   have A18:=aMk A180
   clear A180
   by_cases c19 : t331 = true
   ·subst c19
    have H1 : ((impl_Range_has.f a0_3 a0_4 a3).bind fun t332 => (some t332)) = some r:=by rw [if_pos rfl] at H;exact H
    clear H
    have H:=H1
    clear H1
    replace H:=Option.bind_eq_some_iff.mp H
    obtain ⟨t332,A200,H⟩:=H
    replace H : (some t332) = some r:=H
    have A20:=aMk A200
    clear A200
    obtain rfl:=Option.some.inj H
    have hcq1:=HQ1.out
    have hcq2:=HQ2.out
    have hcq3:=HQ3.out
    go_enter Try.func88,Try.ntmps88
    go_wp2_with (first|((with_reducible refine gate_dst (N:=4) rfl ?_);refine bxE (N:=4) (cs:=#[.int .i64 a0_0,.int .i64 a0_1,.int .i64 a0_2,.int .i64 a0_3,.int .i64 a0_4,.bool a0_5]) (t:=36) ?_;intro gb328 hg w21 hbox hb;have n0_:=aMk (bSt hb);have n1_:=aMk (hbox);have n2_:=aMk ((by rw [hg];exact bSz : w.heap.size ≤ gb328));have n3_:=aMk ((by rw [hg];exact bSz : w.heap.size ≤ gb328));clear HB;have HB:=n0_;have hcq1:=(HB.out.cell (wLt w _ HQ1.out)).trans HQ1.out;have hcq2:=(HB.out.cell (wLt w _ HQ2.out)).trans HQ2.out;have hcq3:=(HB.out.cell (wLt w _ HQ3.out)).trans HQ3.out;have BK328:=n1_;have GW328:=n2_;have GE328:=n3_;clear n0_ n1_ n2_ n3_;clear hb hbox hg;obtain ⟨hcz22_0,hcz22_1,hcz22_2,hcz22_3,hcz22_4,hcz22_5,hfz22_0,hfz22_1,hfz22_2,hfz22_3,hfz22_4,hfz22_5⟩:=bC6 BK328.out)|(go_at_call 43;(with_reducible refine (impl_Net_has.calls a0_1 a0_2 a2 true _ A18.out).mono ?_);rintro e w23 ⟨rfl,hb⟩;have n0_:=aMk (bkB BK328.out hb);have n1_:=aMk (below_step (by repeat (first|(with_reducible first|exact HB.out|apply bwA|apply bwN|apply bw1|refine below_set ?_ GE328.out)|exact HB.out)) hb);clear BK328;clear HB;have BK328:=n0_;have HB:=n1_;have hcq1:=(HB.out.cell (wLt w _ HQ1.out)).trans HQ1.out;have hcq2:=(HB.out.cell (wLt w _ HQ2.out)).trans HQ2.out;have hcq3:=(HB.out.cell (wLt w _ HQ3.out)).trans HQ3.out;clear n0_ n1_;(try clear hb);(try clear hb2);(try clear hk);(try clear hi);obtain ⟨hcz24_0,hcz24_1,hcz24_2,hcz24_3,hcz24_4,hcz24_5,hfz24_0,hfz24_1,hfz24_2,hfz24_3,hfz24_4,hfz24_5⟩:=bC6 BK328.out)|(go_at_call 89;(with_reducible refine (impl_Range_has.calls a0_3 a0_4 a3 t332 _ A20.out).mono ?_);rintro e w25 ⟨rfl,hb⟩;have n0_:=aMk (bkB BK328.out hb);have n1_:=aMk (below_step (by repeat (first|(with_reducible first|exact HB.out|apply bwA|apply bwN|apply bw1|refine below_set ?_ GE328.out)|exact HB.out)) hb);clear BK328;clear HB;have BK328:=n0_;have HB:=n1_;have hcq1:=(HB.out.cell (wLt w _ HQ1.out)).trans HQ1.out;have hcq2:=(HB.out.cell (wLt w _ HQ2.out)).trans HQ2.out;have hcq3:=(HB.out.cell (wLt w _ HQ3.out)).trans HQ3.out;clear n0_ n1_;(try clear hb);(try clear hb2);(try clear hk);(try clear hi)))
    go_ret
    exact ⟨eRf,by repeat (first|(with_reducible first|exact HB.out|apply bwA|apply bwN|apply bw1|refine below_set ?_ GE328.out)|exact HB.out)⟩
   ·replace c19:=Bool.eq_false_iff.mpr c19
    subst c19
    have H1 : (some false) = some r:=by rw [if_neg (show ¬ (false = true) by decide)] at H;exact H
    clear H
    have H:=H1
    clear H1
    obtain rfl:=Option.some.inj H
    have hcq1:=HQ1.out
    have hcq2:=HQ2.out
    have hcq3:=HQ3.out
    go_enter Try.func88,Try.ntmps88
    go_wp2_with (first|((with_reducible refine gate_dst (N:=4) rfl ?_);refine bxE (N:=4) (cs:=#[.int .i64 a0_0,.int .i64 a0_1,.int .i64 a0_2,.int .i64 a0_3,.int .i64 a0_4,.bool a0_5]) (t:=36) ?_;intro gb328 hg w26 hbox hb;have n0_:=aMk (bSt hb);have n1_:=aMk (hbox);have n2_:=aMk ((by rw [hg];exact bSz : w.heap.size ≤ gb328));have n3_:=aMk ((by rw [hg];exact bSz : w.heap.size ≤ gb328));clear HB;have HB:=n0_;have hcq1:=(HB.out.cell (wLt w _ HQ1.out)).trans HQ1.out;have hcq2:=(HB.out.cell (wLt w _ HQ2.out)).trans HQ2.out;have hcq3:=(HB.out.cell (wLt w _ HQ3.out)).trans HQ3.out;have BK328:=n1_;have GW328:=n2_;have GE328:=n3_;clear n0_ n1_ n2_ n3_;clear hb hbox hg;obtain ⟨hcz27_0,hcz27_1,hcz27_2,hcz27_3,hcz27_4,hcz27_5,hfz27_0,hfz27_1,hfz27_2,hfz27_3,hfz27_4,hfz27_5⟩:=bC6 BK328.out)|(go_at_call 43;(with_reducible refine (impl_Net_has.calls a0_1 a0_2 a2 false _ A18.out).mono ?_);rintro e w28 ⟨rfl,hb⟩;have n0_:=aMk (bkB BK328.out hb);have n1_:=aMk (below_step (by repeat (first|(with_reducible first|exact HB.out|apply bwA|apply bwN|apply bw1|refine below_set ?_ GE328.out)|exact HB.out)) hb);clear BK328;clear HB;have BK328:=n0_;have HB:=n1_;have hcq1:=(HB.out.cell (wLt w _ HQ1.out)).trans HQ1.out;have hcq2:=(HB.out.cell (wLt w _ HQ2.out)).trans HQ2.out;have hcq3:=(HB.out.cell (wLt w _ HQ3.out)).trans HQ3.out;clear n0_ n1_;(try clear hb);(try clear hb2);(try clear hk);(try clear hi)))
    go_ret
    exact ⟨eRf,by repeat (first|(with_reducible first|exact HB.out|apply bwA|apply bwN|apply bw1|refine below_set ?_ GE328.out)|exact HB.out)⟩
  ·rw [if_neg c17] at H
   have c17b0 : (a0_0 == a1) = false:=beq_eq_false_iff_ne.mpr c17
   have c17b1 : (a0_0 != a1) = true:=bne_iff_ne.mpr c17
   obtain rfl:=Option.some.inj H
   have hcq1:=HQ1.out
   have hcq2:=HQ2.out
   have hcq3:=HQ3.out
   go_enter Try.func88,Try.ntmps88
   go_wp2_with (first|((with_reducible refine gate_dst (N:=4) rfl ?_);refine bxE (N:=4) (cs:=#[.int .i64 a0_0,.int .i64 a0_1,.int .i64 a0_2,.int .i64 a0_3,.int .i64 a0_4,.bool a0_5]) (t:=36) ?_;intro gb328 hg w29 hbox hb;have n0_:=aMk (bSt hb);have n1_:=aMk (hbox);have n2_:=aMk ((by rw [hg];exact bSz : w.heap.size ≤ gb328));have n3_:=aMk ((by rw [hg];exact bSz : w.heap.size ≤ gb328));clear HB;have HB:=n0_;have hcq1:=(HB.out.cell (wLt w _ HQ1.out)).trans HQ1.out;have hcq2:=(HB.out.cell (wLt w _ HQ2.out)).trans HQ2.out;have hcq3:=(HB.out.cell (wLt w _ HQ3.out)).trans HQ3.out;have BK328:=n1_;have GW328:=n2_;have GE328:=n3_;clear n0_ n1_ n2_ n3_;clear hb hbox hg;obtain ⟨hcz30_0,hcz30_1,hcz30_2,hcz30_3,hcz30_4,hcz30_5,hfz30_0,hfz30_1,hfz30_2,hfz30_3,hfz30_4,hfz30_5⟩:=bC6 BK328.out))
   go_ret
   exact ⟨eRf,by repeat (first|(with_reducible first|exact HB.out|apply bwA|apply bwN|apply bw1|refine below_set ?_ GE328.out)|exact HB.out)⟩
end
section
/-- A state of type 54 at block g of W;what its slices lead to came in by w0. -/
def IsS54 (w0 W : World) (g : Nat) (f0 : ByteArray) (f1 : List (S36)) (f2 : Int) (f3 : Int) (f4 : Int) : Prop:=∃ A1 c1,W.heap[g]? = some (.cells #[.string f0,.slice A1 f1.length c1,.int .i64 f2,.int .i64 f3,.int .i64 f4] 54 (0,0)) ∧ w0.heap.size ≤ g ∧ Kd.C k36 w0 A1 f1.length f1
theorem IsS54.grown {w0 W : World} {g : Nat} {f0 : ByteArray} {f1 : List (S36)} {f2 : Int} {f3 : Int} {f4 : Int} {W1 : World} {row : Option Nat} (h : IsS54 w0 W g f0 f1 f2 f3 f4) (hw : W.grownBy W1 row) (hne : some g ≠ row) : IsS54 w0 W1 g f0 f1 f2 f3 f4:=by
 obtain ⟨A1,c1,hb,hg,hr1⟩:=h
 exact ⟨A1,c1,blk_grown hb hw hne,hg,hr1⟩
theorem IsS54.own_neN {w0 W : World} {g : Nat} {f0 : ByteArray} {f1 : List (S36)} {f2 : Int} {f3 : Int} {f4 : Int} {α : Type} {d : Kd α} {e : Nat} {base : Nat} {ok : Nat → Prop} {v : Value} {xs : List α} (h : IsS54 w0 W g f0 f1 f2 f3 f4) (ho : Kd.N d e W base ok v xs) (ht : e ≠ 54) : some g ≠ v.ownBlock:=by
 obtain ⟨A1,c1,hb,hg,hr1⟩:=h
 exact Kd.N_ne ho hb ht
theorem IsS54.fresh {w0 W : World} {g : Nat} {f0 : ByteArray} {f1 : List (S36)} {f2 : Int} {f3 : Int} {f4 : Int} (h : IsS54 w0 W g f0 f1 f2 f3 f4) : ∀ k,W.heap.size ≤ k → k ≠ g:=by
 obtain ⟨A1,c1,hb,hg,hr1⟩:=h
 exact Kd.freshB hb
theorem IsS54.kept {w0 W : World} {g : Nat} {f0 : ByteArray} {f1 : List (S36)} {f2 : Int} {f3 : Int} {f4 : Int} {W1 : World} {S : Nat → Prop} (h : IsS54 w0 W g f0 f1 f2 f3 f4) (hk : Kept W W1 S) (hne : ¬ S g) : IsS54 w0 W1 g f0 f1 f2 f3 f4:=by
 obtain ⟨A1,c1,hb,hg,hr1⟩:=h
 exact ⟨A1,c1,blk_kept hb hk hne,hg,hr1⟩
theorem IsS54.below {w0 W : World} {g : Nat} {f0 : ByteArray} {f1 : List (S36)} {f2 : Int} {f3 : Int} {f4 : Int} {W1 : World} (h : IsS54 w0 W g f0 f1 f2 f3 f4) (hw : Below W.heap.size W W1) : IsS54 w0 W1 g f0 f1 f2 f3 f4:=h.grown (grown_of_below hw none) (by simp)
theorem IsS54.alloc {w0 W : World} {g : Nat} {f0 : ByteArray} {f1 : List (S36)} {f2 : Int} {f3 : Int} {f4 : Int} (h : IsS54 w0 W g f0 f1 f2 f3 f4) (o : Obj) : IsS54 w0 (W.alloc o) g f0 f1 f2 f3 f4:=h.below (bwA (Below.refl _ _) o)
theorem IsS54.drewN {w0 W : World} {g : Nat} {f0 : ByteArray} {f1 : List (S36)} {f2 : Int} {f3 : Int} {f4 : Int} (h : IsS54 w0 W g f0 f1 f2 f3 f4) (m : Nat) : IsS54 w0 (W.drewN m) g f0 f1 f2 f3 f4:=h
theorem IsS54.drew {w0 W : World} {g : Nat} {f0 : ByteArray} {f1 : List (S36)} {f2 : Int} {f3 : Int} {f4 : Int} (h : IsS54 w0 W g f0 f1 f2 f3 f4) : IsS54 w0 W.drew g f0 f1 f2 f3 f4:=h
theorem IsS54.at_ {w0 W : World} {g : Nat} {f0 : ByteArray} {f1 : List (S36)} {f2 : Int} {f3 : Int} {f4 : Int} {w' : World} {m : Nat} (hq : W.drewN m = w') (h : IsS54 w0 W g f0 f1 f2 f3 f4) : IsS54 w0 w' g f0 f1 f2 f3 f4:=by subst hq;exact IsS54.drewN h m
theorem IsS54.apart {w0 W : World} {g : Nat} {f0 : ByteArray} {f1 : List (S36)} {f2 : Int} {f3 : Int} {f4 : Int} {α : Type} {d : Kd α} {e : Nat} {base : Nat} {ok : Nat → Prop} {v : Value} {xs : List α} (h : IsS54 w0 W g f0 f1 f2 f3 f4) (ho : d.R e W base ok v xs) (ht : ∀ q,q ∈ e :: d.E → q ≠ 54) : d.R e W base (fun k => ok k ∧ k ≠ g) v xs:=by
 obtain ⟨A1,c1,hb,hg,hr1⟩:=h
 exact Kd.R_types ho hb ht
theorem IsS54.own_ne {w0 W : World} {g : Nat} {f0 : ByteArray} {f1 : List (S36)} {f2 : Int} {f3 : Int} {f4 : Int} {α : Type} {d : Kd α} {e : Nat} {base : Nat} {ok : Nat → Prop} {v : Value} {xs : List α} (h : IsS54 w0 W g f0 f1 f2 f3 f4) (ho : d.R e W base ok v xs) (ht : e ≠ 54) : some g ≠ v.ownBlock:=by
 obtain ⟨A1,c1,hb,hg,hr1⟩:=h
 exact Kd.R_ne ho hb ht
theorem IsS54.apartQ {w0 W : World} {g : Nat} {f0 : ByteArray} {f1 : List (S36)} {f2 : Int} {f3 : Int} {f4 : Int} {α : Type} {d : Kd α} {e : Nat} {base : Nat} {ok : Nat → Prop} {v : Value} {xs : List α} (h : IsS54 w0 W g f0 f1 f2 f3 f4) (ho : d.Q e W base ok v xs) (ht : ∀ q,q ∈ e :: d.E → q ≠ 54) : d.Q e W base (fun k => ok k ∧ k ≠ g) v xs:=by
 obtain ⟨A1,c1,hb,hg,hr1⟩:=h
 exact Kd.Q_types ho hb ht
theorem IsS54.own_neQ {w0 W : World} {g : Nat} {f0 : ByteArray} {f1 : List (S36)} {f2 : Int} {f3 : Int} {f4 : Int} {α : Type} {d : Kd α} {e : Nat} {base : Nat} {ok : Nat → Prop} {v : Value} {xs : List α} (h : IsS54 w0 W g f0 f1 f2 f3 f4) (ho : d.Q e W base ok v xs) (ht : e ≠ 54) : some g ≠ v.ownBlock:=by
 obtain ⟨A1,c1,hb,hg,hr1⟩:=h
 exact Kd.Q_ne ho hb ht
theorem IsS54.apartS {w0 W : World} {g : Nat} {f0 : ByteArray} {f1 : List (S36)} {f2 : Int} {f3 : Int} {f4 : Int} {α : Type} {d : Kd α} {e : Nat} {base : Nat} {ok : Nat → Prop} {v : Value} {xs : List α} (h : IsS54 w0 W g f0 f1 f2 f3 f4) (ho : d.S e W base ok v xs) (ht : ∀ q,q ∈ e :: d.E → q ≠ 54) : d.S e W base (fun k => ok k ∧ k ≠ g) v xs:=by
 obtain ⟨A1,c1,hb,hg,hr1⟩:=h
 exact Kd.S_types ho hb ht
theorem IsS54.own_neS {w0 W : World} {g : Nat} {f0 : ByteArray} {f1 : List (S36)} {f2 : Int} {f3 : Int} {f4 : Int} {α : Type} {d : Kd α} {e : Nat} {base : Nat} {ok : Nat → Prop} {v : Value} {xs : List α} (h : IsS54 w0 W g f0 f1 f2 f3 f4) (ho : d.S e W base ok v xs) (ht : e ≠ 54) : some g ≠ v.ownBlock:=by
 obtain ⟨A1,c1,hb,hg,hr1⟩:=h
 exact Kd.S_ne ho hb ht
theorem IsS54.lt {w0 W : World} {g : Nat} {f0 : ByteArray} {f1 : List (S36)} {f2 : Int} {f3 : Int} {f4 : Int} (h : IsS54 w0 W g f0 f1 f2 f3 f4) : g < W.heap.size:=by
 obtain ⟨A1,c1,hb,hg,hr1⟩:=h
 exact blk_lt hb
theorem IsS54.ge {w0 W : World} {g : Nat} {f0 : ByteArray} {f1 : List (S36)} {f2 : Int} {f3 : Int} {f4 : Int} (h : IsS54 w0 W g f0 f1 f2 f3 f4) : w0.heap.size ≤ g:=by
 obtain ⟨A1,c1,hb,hg,hr1⟩:=h
 exact hg
theorem IsS54.ne_blk {w0 W : World} {g : Nat} {f0 : ByteArray} {f1 : List (S36)} {f2 : Int} {f3 : Int} {f4 : Int} {a : Nat} {cs : Array Value} {t : TypeId} {fr : Nat × Nat} (h : IsS54 w0 W g f0 f1 f2 f3 f4) (hb2 : W.heap[a]? = some (.cells cs t fr)) (ht : t ≠ 54) : g ≠ a:=by
 obtain ⟨A1,c1,hb,hg,hr1⟩:=h
 rintro rfl
 rw [hb] at hb2
 injection hb2 with hb2
 injection hb2 with _ ht2
 exact ht ht2.symm
theorem IsS54.far {w0 W : World} {g : Nat} {f0 : ByteArray} {f1 : List (S36)} {f2 : Int} {f3 : Int} {f4 : Int} {p : Addr} (h : IsS54 w0 W g f0 f1 f2 f3 f4) (hne : g ≠ p.block) (u : Value) : IsS54 w0 (W.setCell p u) g f0 f1 f2 f3 f4:=by
 obtain ⟨A1,c1,hb,hg,hr1⟩:=h
 exact ⟨A1,c1,blk_far hb hne u,hg,hr1⟩
theorem IsS54.set_0 {w0 W : World} {g : Nat} {f0 : ByteArray} {f1 : List (S36)} {f2 : Int} {f3 : Int} {f4 : Int} (h : IsS54 w0 W g f0 f1 f2 f3 f4) (x : ByteArray) : IsS54 w0 (W.setCell ⟨g,0,none⟩ (.string x)) g x f1 f2 f3 f4:=by
 obtain ⟨A1,c1,hb,hg,hr1⟩:=h
 exact ⟨A1,c1,by simpa using blk_set hb 0 (.string x),hg,hr1⟩
theorem IsS54.set_2 {w0 W : World} {g : Nat} {f0 : ByteArray} {f1 : List (S36)} {f2 : Int} {f3 : Int} {f4 : Int} (h : IsS54 w0 W g f0 f1 f2 f3 f4) (x : Int) : IsS54 w0 (W.setCell ⟨g,2,none⟩ (.int .i64 x)) g f0 f1 x f3 f4:=by
 obtain ⟨A1,c1,hb,hg,hr1⟩:=h
 exact ⟨A1,c1,by simpa using blk_set hb 2 (.int .i64 x),hg,hr1⟩
theorem IsS54.set_3 {w0 W : World} {g : Nat} {f0 : ByteArray} {f1 : List (S36)} {f2 : Int} {f3 : Int} {f4 : Int} (h : IsS54 w0 W g f0 f1 f2 f3 f4) (x : Int) : IsS54 w0 (W.setCell ⟨g,3,none⟩ (.int .i64 x)) g f0 f1 f2 x f4:=by
 obtain ⟨A1,c1,hb,hg,hr1⟩:=h
 exact ⟨A1,c1,by simpa using blk_set hb 3 (.int .i64 x),hg,hr1⟩
theorem IsS54.set_4 {w0 W : World} {g : Nat} {f0 : ByteArray} {f1 : List (S36)} {f2 : Int} {f3 : Int} {f4 : Int} (h : IsS54 w0 W g f0 f1 f2 f3 f4) (x : Int) : IsS54 w0 (W.setCell ⟨g,4,none⟩ (.int .i64 x)) g f0 f1 f2 f3 x:=by
 obtain ⟨A1,c1,hb,hg,hr1⟩:=h
 exact ⟨A1,c1,by simpa using blk_set hb 4 (.int .i64 x),hg,hr1⟩
theorem IsS54.new (w0 W : World) (A1 : Option Addr) (c1 : Nat) (f0 : ByteArray) (f1 : List (S36)) (f2 : Int) (f3 : Int) (f4 : Int) (hB : Below w0.heap.size w0 W) (hr1 : Kd.C k36 w0 A1 f1.length f1) : IsS54 w0 (W.alloc (.cells #[.string f0,.slice A1 f1.length c1,.int .i64 f2,.int .i64 f3,.int .i64 f4] 54)) W.heap.size f0 f1 f2 f3 f4:=⟨A1,c1,by simpa using heap_alloc_new W _,hB.size,hr1⟩
end
section
/-! ### impl_Role_first: function 65 -/
-- USES 88 85
def impl_Role_first.f (k : Nat) (s0_0 : ByteArray) (s0_1 : List S36) (s0_2 : Int) (s0_3 : Int) (s0_4 : Int) (a1 : Int) (a2 : Int) (a3 : Int) : Option (Int):=idxP36 (fun x => impl_Role_first_1.f x.f0 x.f1.f0 x.f1.f1 x.f2.f0 x.f2.f1 x.f3 a1 a2 a3) s0_1 k 0
theorem impl_Role_first.mono : ∀ y0 y1 y2 y3 y4 y5 y6 y7 k,LeO (impl_Role_first.f k y0 y1 y2 y3 y4 y5 y6 y7) (impl_Role_first.f (k + 1) y0 y1 y2 y3 y4 y5 y6 y7):=fun y0 y1 y2 y3 y4 y5 y6 y7 k => idxP36_mono _ _ (fun _ => LeO.refl _) y1 k 0
set_option maxHeartbeats 8000000 in
set_option maxRecDepth 100000 in
theorem impl_Role_first.calls (k : Nat) (g : Nat) (s0_0 : ByteArray) (s0_1 : List S36) (s0_2 : Int) (s0_3 : Int) (s0_4 : Int) (a1 : Int) (a2 : Int) (a3 : Int) (r : Int) (w0 w : World) (hI : IsS54 w0 w g s0_0 s0_1 s0_2 s0_3 s0_4) (hB : Below w0.heap.size w0 w) (h : impl_Role_first.f k s0_0 s0_1 s0_2 s0_3 s0_4 a1 a2 a3 = some r) :
  Calls Try.prog 65 #[.pointer (some ⟨g,0,none⟩),.int .i64 a1,.int .i64 a2,.int .i64 a3] w fun e w' => e = .returned (.int .i64 r) ∧ IsS54 w0 w' g s0_0 s0_1 s0_2 s0_3 s0_4 ∧ Below w0.heap.size w0 w' ∧ KeepBut w w' g none:=by
 have HI0:=aMk hI
 have HB0:=aMk hB
 have HH:=aMk (show idxP36 (fun x => impl_Role_first_1.f x.f0 x.f1.f0 x.f1.f1 x.f2.f0 x.f2.f1 x.f3 a1 a2 a3) s0_1 k 0 = some r from h)
 clear h
 obtain ⟨A1,c1,hb,hg,hr1⟩:=hI
 have HBK:=aMk hb
 have HR:=aMk hr1
 clear hb hg hB hr1
 have hu54:=Try.underlying54
 have HB:=aMk (Below.refl w.heap.size w)
 go_enter Try.func65,Try.ntmps65
 go_wp2_with (first|((with_reducible refine gate_dst (N:=5) rfl ?_);refine bxE (N:=5) (cs:=#[.int .i64 a1]) (t:=3) ?_;intro gb5 hg w5 hbox hb;have n0_:=aMk (below_step HB.out hb);clear HB;have HB:=n0_;clear n0_;have BK5:=aMk hbox;clear hg hb hbox)|((with_reducible refine gate_dst (N:=6) rfl ?_);refine bxE (N:=6) (cs:=#[.int .i64 a2]) (t:=3) ?_;intro gb6 hg w6 hbox hb;have n0_:=aMk (below_step HB.out hb);clear HB;have HB:=n0_;clear n0_;have n0_:=aMk (blk_below (g:=gb5) (o:=.cells #[.int .i64 a1] 3 (0,0)) BK5.out hb);clear BK5;have BK5:=n0_;clear n0_;have BK6:=aMk hbox;clear hg hb hbox)|((with_reducible refine gate_dst (N:=7) rfl ?_);refine bxE (N:=7) (cs:=#[.int .i64 a3]) (t:=3) ?_;intro gb7 hg w7 hbox hb;have n0_:=aMk (below_step HB.out hb);clear HB;have HB:=n0_;clear n0_;have n0_:=aMk (blk_below (g:=gb5) (o:=.cells #[.int .i64 a1] 3 (0,0)) BK5.out hb);clear BK5;have BK5:=n0_;clear n0_;have n0_:=aMk (blk_below (g:=gb6) (o:=.cells #[.int .i64 a2] 3 (0,0)) BK6.out hb);clear BK6;have BK6:=n0_;clear n0_;have BK7:=aMk hbox;clear hg hb hbox;have hcz0 : w7.cell? ⟨g,0,none⟩ = some (.string s0_0):=(bCe (blk_below (o:=.cells #[.string s0_0,.slice A1 s0_1.length c1,.int .i64 s0_2,.int .i64 s0_3,.int .i64 s0_4] 54 (0,0)) HBK.out HB.out) 0).trans rfl;have hcz1 : w7.cell? ⟨g,1,none⟩ = some (.slice A1 s0_1.length c1):=(bCe (blk_below (o:=.cells #[.string s0_0,.slice A1 s0_1.length c1,.int .i64 s0_2,.int .i64 s0_3,.int .i64 s0_4] 54 (0,0)) HBK.out HB.out) 1).trans rfl;have hcz2 : w7.cell? ⟨g,2,none⟩ = some (.int .i64 s0_2):=(bCe (blk_below (o:=.cells #[.string s0_0,.slice A1 s0_1.length c1,.int .i64 s0_2,.int .i64 s0_3,.int .i64 s0_4] 54 (0,0)) HBK.out HB.out) 2).trans rfl;have hcz3 : w7.cell? ⟨g,3,none⟩ = some (.int .i64 s0_3):=(bCe (blk_below (o:=.cells #[.string s0_0,.slice A1 s0_1.length c1,.int .i64 s0_2,.int .i64 s0_3,.int .i64 s0_4] 54 (0,0)) HBK.out HB.out) 3).trans rfl;have hcz4 : w7.cell? ⟨g,4,none⟩ = some (.int .i64 s0_4):=(bCe (blk_below (o:=.cells #[.string s0_0,.slice A1 s0_1.length c1,.int .i64 s0_2,.int .i64 s0_3,.int .i64 s0_4] 54 (0,0)) HBK.out HB.out) 4).trans rfl)|(refine (indexFunc36 88 #[.pointer (some ⟨gb5,0,none⟩),.pointer (some ⟨gb6,0,none⟩),.pointer (some ⟨gb7,0,none⟩)] (enters_ Try.func88 (by kernel_rfl) rfl) _ k A1 c1 s0_1 r _ (fun W x b hbW hx => (impl_Role_first_1.calls gb5 gb6 gb7 x.f0 x.f1.f0 x.f1.f1 x.f2.f0 x.f2.f1 x.f3 a1 a2 a3 b W ((hbW.cell (wLt _ _ (bCe BK5.out 0))).trans ((bCe BK5.out 0).trans rfl)) ((hbW.cell (wLt _ _ (bCe BK6.out 0))).trans ((bCe BK6.out 0).trans rfl)) ((hbW.cell (wLt _ _ (bCe BK7.out 0))).trans ((bCe BK7.out 0).trans rfl)) hx).mono fun e w' h => ⟨h.1,below_step hbW h.2⟩) (Kd.C_below HR.out (below_step HB0.out HB.out)) HH.out).mono ?_;rintro e w99 ⟨rfl,hb⟩;have n0_:=aMk (below_step HB.out hb);clear HB;have HB:=n0_;clear n0_ hb))
 go_ret
 exact ⟨rfl,IsS54.below HI0.out HB.out,below_step HB0.out HB.out,KeepBut.of_below HB.out g none⟩
end
section
-- NEEDS spec.l02Port impl.isPort
theorem l02Port_eq (a : Int) : spec_l02Port.f a = some (decide (0 ≤ a ∧ a ≤ 65535)):=by simp only [spec_l02Port.f,l01In_eq,Option.bind_some]
theorem isPort_eq (a : Int) : impl_isPort.f a = some (decide (0 ≤ a ∧ a ≤ 65535)):=by simp only [impl_isPort.f,within_eq,Option.bind_some]
end
section
-- NEEDS spec.l07First (*impl.Role).first impl.askedRole spec.l07Ask
def firstb (p ip port : Int) (x : S36) : Bool:=(decide (x.f0 = 0) || decide (x.f0 = p)) && (hasb x.f1.f1 x.f1.f0 ip && decide (x.f2.f0 ≤ port ∧ port ≤ x.f2.f1))
def askb (p ip port : Int) : Bool:=decide (0 ≤ p ∧ p ≤ 255) && (decide (0 ≤ ip ∧ ip ≤ 4294967295) && decide (0 ≤ port ∧ port ≤ 65535))
def firstI (l : List S36) (p ip port : Int) : Int:=fst_T36 (firstb p ip port) l l.length 0
theorem spec_ask_eq (ip port : Int) : spec_l07Ask.f ip port = some (decide (0 ≤ ip ∧ ip ≤ 4294967295) && decide (0 ≤ port ∧ port ≤ 65535)):=by
 simp only [spec_l07Ask.f,l01Ip_eq,l02Port_eq,Option.bind_some]
 cases decide (0 ≤ ip ∧ ip ≤ 4294967295) <;> simp
end
section
-- NEEDS spec.InGarden impl.InGarden
def gardenb (ip port : Int) (x : S100) : Bool:=hasb x.f0.f1 x.f0.f0 ip && decide (x.f1.f0 ≤ port ∧ port ≤ x.f1.f1)
def gardenR (ip b gate : Int) (gm wm : ByteArray) (res : Int) (g : List S100) (l : List S54) (ad port : Int) : Bool × Int :=
 if configb ip b gate gm wm res g l = true then (if (decide (0 ≤ ad ∧ ad ≤ 4294967295) && decide (0 ≤ port ∧ port ≤ 65535)) = true then (any_T100 (gardenb ad port) g g.length 0,0) else (false,4)) else (false,1)
theorem garden_nets {ip b gate : Int} {gm wm : ByteArray} {res : Int} {g : List S100} {l : List S54} (h : configb ip b gate gm wm res g l = true) : ∀ j : Int,0 ≤ j → j < g.length → netb (rd_T100 g j).f0.f0 (rd_T100 g j).f0.f1 = true:=by
 intro j h0 hj
 have hb : any_T100 badPlace g g.length 0 = false:=by
  simp only [configb,Bool.and_eq_true,Bool.not_eq_true'] at h
  exact h.2.2.2.2.2.2.2.2.2.1
 have:=any_false_T100 badPlace g g.length 0 hb j h0 (by omega)
 simp only [badPlace,Bool.or_eq_false_iff,Bool.not_eq_false'] at this
 exact this.1
theorem spec_garden_run (ip b gate : Int) (gm wm : ByteArray) (res : Int) (g : List S100) (l : List S54) (ad port : Int) (hx : (g.length : Int) ≤ 1152921504606846976) (hn : ∀ j : Int,0 ≤ j → j < g.length → netb (rd_T100 g j).f0.f0 (rd_T100 g j).f0.f1 = true) :
  ∀ (d : Nat) (i : Int),0 ≤ i → (g.length : Int) - i = d → ∀ k,d + 1 ≤ k → spec_l07Garden.l0 k ad port i ip b gate gm wm res g l = some (any_T100 (gardenb ad port) g d i)
 | 0,i,h0,hd,k,hk => by
  obtain ⟨k,rfl⟩ : ∃ z,k = z + 1:=⟨k - 1,by omega⟩
  rw [spec_l07Garden.l0,if_neg (by omega)];rfl
 | d + 1,i,h0,hd,k,hk => by
  obtain ⟨k,rfl⟩ : ∃ z,k = z + 1:=⟨k - 1,by omega⟩
  have ih:=spec_garden_run ip b gate gm wm res g l ad port hx hn d (i + 1) (by omega) (by omega) k (by omega)
  rw [spec_l07Garden.l0,if_pos (by omega),if_pos h0,spec_has_eq (hn i h0 (by omega)),l01In_eq,wrap_id (by omega) (by omega),ih,any_T100]
  simp only [Option.bind_some,gardenb]
  generalize hasb _ _ _ = u
  generalize decide ((rd_T100 g i).f1.f0 ≤ port ∧ port ≤ (rd_T100 g i).f1.f1) = v
  cases u <;> cases v <;> simp
theorem impl_garden_ev (ip b gate : Int) (gm wm : ByteArray) (res : Int) (g : List S100) (l : List S54) (ad port : Int) (hx : (g.length : Int) ≤ 1152921504606846976) (hn : ∀ j : Int,0 ≤ j → j < g.length → netb (rd_T100 g j).f0.f0 (rd_T100 g j).f0.f1 = true) (k : Nat) (hk : g.length + 1 ≤ k) :
  impl_Config_inGarden.f k ip b gate gm wm res g l ad port = some (any_T100 (gardenb ad port) g g.length 0):=by
 unfold impl_Config_inGarden.f
 rw [idxP100_evr (gardenb ad port) g hx _ g.length 0 (by omega) (by omega) (fun j h1 h2 => ?_) k hk,Option.bind_some,fst_any_T100 _ g _ 0 (by omega)]
 simp only [impl_Config_inGarden_1.f,impl_has_eq (hn j h1 h2),impl_Range_has.f,within_eq,Option.bind_some,gardenb]
 generalize hasb _ _ _ = u
 cases u <;> simp
theorem spec_InGarden_ev (ip b gate : Int) (gm wm : ByteArray) (res : Int) (g : List S100) (l : List S54) (ad port : Int) (hx : (l.length : Int) ≤ 1152921504606846976) (hg : (g.length : Int) ≤ 1152921504606846976) (M : Nat) (hs : Slim l M) (hM : M ≤ 1152921504606846976) (k : Nat) (hk : g.length + l.length + M + 8 ≤ k) :
  spec_InGarden.f k ip b gate gm wm res g l ad port = some (gardenR ip b gate gm wm res g l ad port):=by
 simp only [spec_InGarden.f,spec_Config_ev ip b gate gm wm res g l hx hg M hs hM k hk,spec_ask_eq,Option.bind_some,gardenR,spec_l07Garden.f]
 cases h : configb ip b gate gm wm res g l
 ·simp
 rw [spec_garden_run ip b gate gm wm res g l ad port hg (garden_nets h) g.length 0 (by omega) (by omega) k (by omega)]
 cases decide (0 ≤ ad ∧ ad ≤ 4294967295) <;> cases decide (0 ≤ port ∧ port ≤ 65535) <;> simp
theorem impl_InGarden_ev (ip b gate : Int) (gm wm : ByteArray) (res : Int) (g : List S100) (l : List S54) (ad port : Int) (hx : (l.length : Int) ≤ 1152921504606846976) (hg : (g.length : Int) ≤ 1152921504606846976) (M : Nat) (hs : Slim l M) (hM : M ≤ 1152921504606846976) (k : Nat) (hk : g.length + l.length + M + 8 ≤ k) :
  impl_InGarden.f k ip b gate gm wm res g l ad port = some (gardenR ip b gate gm wm res g l ad port):=by
 simp only [impl_InGarden.f,impl_Config_ev ip b gate gm wm res g l hx hg M hs hM k hk,isAddress_eq,isPort_eq,Option.bind_some,gardenR]
 cases h : configb ip b gate gm wm res g l
 ·simp
 rw [impl_garden_ev ip b gate gm wm res g l ad port hg (garden_nets h) k (by omega)]
 cases decide (0 ≤ ad ∧ ad ≤ 4294967295) <;> cases decide (0 ≤ port ∧ port ≤ 65535) <;> simp
end
section
theorem eq_T100_refl (x : S100) : laws_eqPlace.f (x.f0.f0) (x.f0.f1) (x.f1.f0) (x.f1.f1) (x.f0.f0) (x.f0.f1) (x.f1.f0) (x.f1.f1) = some true:=by
 unfold laws_eqPlace.f
 simp only [laws_eqNet.f,laws_eqRange.f]
 simp
theorem eqS_T100_l0 (xs : List S100) : ∀ (d : Nat) (i : Int),0 ≤ i → (xs.length : Int) - i = d → (xs.length : Int) ≤ 1152921504606846976 → Ev (fun k => laws_eqPlaceS.l0 k xs xs i) true:=by
 intro d
 induction d with
 | zero =>
  intro i h0 hd hx
  refine ⟨1,fun k hk => ?_⟩
  obtain ⟨k,rfl⟩ : ∃ q,k = q + 1:=⟨k - 1,by omega⟩
  simp only [laws_eqPlaceS.l0]
  rw [if_neg (by omega)]
 | succ d ih =>
  intro i h0 hd hx
  have hlt : i < (xs.length : Int):=by omega
  have ei : wrap64 (i + 1) = i + 1:=wrap_id (by omega) (by omega)
  refine Ev.step (f:=fun k => laws_eqPlaceS.l0 k xs xs (i + 1)) (fun k => ?_) (ih (i + 1) (by omega) (by omega) hx)
  simp only [laws_eqPlaceS.l0,ei]
  rw [if_pos hlt,if_pos h0,if_pos hlt]
  simp only [eq_T100_refl,Option.bind_some,if_true]
theorem eqS_T100_ev (xs : List S100) (hx : (xs.length : Int) ≤ 1152921504606846976) : Ev (fun k => laws_eqPlaceS.f k xs xs) true:=by
 refine Ev.congr (f:=fun k => laws_eqPlaceS.l0 k xs xs 0) (fun k => ?_) (eqS_T100_l0 xs xs.length 0 (by omega) (by omega) hx)
 simp only [laws_eqPlaceS.f,if_true]
end
section
theorem eq_T36_refl (x : S36) : laws_eqRule.f (x.f0) (x.f1.f0) (x.f1.f1) (x.f2.f0) (x.f2.f1) (x.f3) (x.f0) (x.f1.f0) (x.f1.f1) (x.f2.f0) (x.f2.f1) (x.f3) = some true:=by
 unfold laws_eqRule.f
 simp only [laws_eqNet.f,laws_eqRange.f]
 simp
theorem eqS_T36_l0 (xs : List S36) : ∀ (d : Nat) (i : Int),0 ≤ i → (xs.length : Int) - i = d → (xs.length : Int) ≤ 1152921504606846976 → Ev (fun k => laws_eqRuleS.l0 k xs xs i) true:=by
 intro d
 induction d with
 | zero =>
  intro i h0 hd hx
  refine ⟨1,fun k hk => ?_⟩
  obtain ⟨k,rfl⟩ : ∃ q,k = q + 1:=⟨k - 1,by omega⟩
  simp only [laws_eqRuleS.l0]
  rw [if_neg (by omega)]
 | succ d ih =>
  intro i h0 hd hx
  have hlt : i < (xs.length : Int):=by omega
  have ei : wrap64 (i + 1) = i + 1:=wrap_id (by omega) (by omega)
  refine Ev.step (f:=fun k => laws_eqRuleS.l0 k xs xs (i + 1)) (fun k => ?_) (ih (i + 1) (by omega) (by omega) hx)
  simp only [laws_eqRuleS.l0,ei]
  rw [if_pos hlt,if_pos h0,if_pos hlt]
  simp only [eq_T36_refl,Option.bind_some,if_true]
theorem eqS_T36_ev (xs : List S36) (hx : (xs.length : Int) ≤ 1152921504606846976) : Ev (fun k => laws_eqRuleS.f k xs xs) true:=by
 refine Ev.congr (f:=fun k => laws_eqRuleS.l0 k xs xs 0) (fun k => ?_) (eqS_T36_l0 xs xs.length 0 (by omega) (by omega) hx)
 simp only [laws_eqRuleS.f,if_true]
end
section
def to_T36 (x : S32) : S36:=(⟨x.f0,(⟨x.f1.f0,x.f1.f1⟩ : S26),(⟨x.f2.f0,x.f2.f1⟩ : S34),x.f3⟩ : S36)
theorem to_T36_l0 (l : List S32) : ∀ (d : Nat) (acc : List S36) (i : Int),acc.length = l.length → 0 ≤ i → (l.length : Int) - i = d → (l.length : Int) ≤ 1152921504606846976 →
  ∃ ys : List S36,Ev (fun k => laws_toRuleS.l0 k l acc i) ys ∧ ys.length = l.length ∧ (∀ j : Nat,(j : Int) < i → ys[j]? = acc[j]?) ∧ (∀ j : Nat,i ≤ (j : Int) → ys[j]? = (l.map to_T36)[j]?):=by
 intro d
 induction d with
 | zero =>
  intro acc i ha h0 hd hx
  refine ⟨acc,⟨1,fun k hk => ?_⟩,ha,fun _ _ => rfl,fun j hj => by rw [List.getElem?_eq_none (by omega),List.getElem?_eq_none (by rw [List.length_map];omega)]⟩
  obtain ⟨k,rfl⟩ : ∃ q,k = q + 1:=⟨k - 1,by omega⟩
  simp only [laws_toRuleS.l0]
  rw [if_neg (by omega)]
 | succ d ih =>
  intro acc i ha h0 hd hx
  have hlt : i < (l.length : Int):=by omega
  have hn : i.toNat < l.length:=by omega
  have ei : wrap64 (i + 1) = i + 1:=wrap_id (by omega) (by omega)
  obtain ⟨ys,hev,hlen,hold,hnew⟩:=ih (acc.set i.toNat (to_T36 (rd_T32 l i))) (i + 1) (by rw [List.length_set];exact ha) (by omega) (by omega) hx
  refine ⟨ys,Ev.step (f:=fun k => laws_toRuleS.l0 k l (acc.set i.toNat (to_T36 (rd_T32 l i))) (i + 1)) (fun k => ?_) hev,hlen,fun j hj => ?_,fun j hj => ?_⟩
  ·simp only [laws_toRuleS.l0]
   rw [if_pos hlt,if_pos h0]
   simp only [laws_toRule.f,Option.bind_some,laws_toNet.f,laws_toRange.f,ei,to_T36]
   rw [if_pos (by omega)]
  ·rw [hold j (by omega),List.getElem?_set_ne (by omega)]
  ·by_cases hji : (j : Int) = i
   ·have e : i.toNat = j:=by omega
    rw [hold j (by omega),e,List.getElem?_set_self (by omega),List.getElem?_map,List.getElem?_eq_getElem (show j < l.length by omega)]
    simp only [Option.map_some,rd_T32,e,List.getD_eq_getElem?_getD,List.getElem?_eq_getElem (show j < l.length by omega),Option.getD_some]
   ·exact hnew j (by omega)
theorem to_T36_ev (l : List S32) (hx : l.length ≤ 1048576) : Ev (fun k => laws_toRuleS.f k l) (l.map to_T36):=by
 obtain ⟨ys,hev,hlen,_,hnew⟩:=to_T36_l0 l l.length (List.replicate l.length z36) 0 (by simp) (by omega) (by omega) (by omega)
 have e : ys = l.map to_T36:=List.ext_getElem? fun j => hnew j (by omega)
 rw [← e]
 refine Ev.congr (fun k => ?_) hev
 simp only [laws_toRuleS.f]
 rw [if_pos (by omega),if_pos (by omega)]
 rfl
end
section
-- IMPORT Derived.SizedLaws
-- IMPORT Derived.ProofKit
-- IMPORT Derived.WalkKit
-- IMPORT Derived.OpenShut
-- IMPORT Derived.ShutString
-- IMPORT Derived.ChangeOld
-- IMPORT Derived.Below
-- IMPORT Derived.Deep.Slices
open Go.ChangeShapes Go.WideShapes Go.ChangeAt Go.Deep
/-- What reads as data of type t is a value of the kind d,and meets wf. -/
structure Opens (P : Program) (t : TypeId) {α : Type} (d : Kd α) (wf : α → Prop) : Prop where
 sz : P.cellsOf t = d.sz
 op : ∀ {H : Type} {enc : TypeId × Value → H} {w : World} {fuel : Nat} {cs : List Value} {y : DataW H × List MemPlace},DataW.trod enc P w 0 (fun _ => true) true fuel t cs = some y → (∀ n ∈ y.1.weights P t,n ≤ reachBytes) → ∃ x,d.K w x cs ∧ wf x
theorem Opens.int {P : Program} {t : TypeId} {k : IntKind} (hu : P.underlying t = some (.int k)) (hc : P.cellsOf t = 1) : Opens P t (Kd.int k) (fun n => (Lit.int k n).wf = true) :=
 ⟨hc,fun h _ => by obtain ⟨n,rfl,rfl,wf⟩:=DataW.trod_int hu h;exact ⟨n,rfl,wf⟩⟩
theorem Opens.bool {P : Program} {t : TypeId} (hu : P.underlying t = some .bool) (hc : P.cellsOf t = 1) : Opens P t Kd.bool (fun _ => True) :=
 ⟨hc,fun h _ => by obtain ⟨n,rfl,rfl⟩:=DataW.trod_bool hu h;exact ⟨n,rfl,trivial⟩⟩
theorem Opens.string {P : Program} {t : TypeId} (hu : P.underlying t = some .string) (hc : P.cellsOf t = 1) : Opens P t Kd.string (fun s => s.size ≤ 140737488351232) :=
 ⟨hc,fun h hw => by
  obtain ⟨s,rfl,rfl,_⟩:=DataW.trod_string hu h
  refine ⟨s,rfl,?_⟩
  have:=hw s.data.toList.length (by simp [DataW.weights])
  simpa [reachBytes] using this⟩
theorem weights_mem_all {H : Type} {P : Program} {e : TypeId} {n : Nat} : ∀ {l : List (DataW H)} {d : DataW H},d ∈ l → n ∈ d.weights P e → n ∈ DataW.weightsAll P e l
 | d0 :: l,d,hd,hn => by
  simp only [DataW.weightsAll,List.mem_append]
  rcases List.mem_cons.1 hd with rfl | hd
  ·exact .inl hn
  ·exact .inr (weights_mem_all hd hn)
 | [],_,hd,_ => by cases hd
theorem list_of_all {α : Type} {Q : Nat → α → Prop} (n : Nat) (h : ∀ i,i < n → ∃ x,Q i x) : ∃ xs : List α,xs.length = n ∧ ∀ j x,xs[j]? = some x → Q j x:=by
 induction n with
 | zero => exact ⟨[],rfl,fun j x h => by simp at h⟩
 | succ n ih =>
  obtain ⟨xs,hl,hx⟩:=ih (fun i hi => h i (by omega))
  obtain ⟨x,hq⟩:=h n (by omega)
  refine ⟨xs ++ [x],by simp [hl],fun j y hj => ?_⟩
  rcases Nat.lt_or_ge j xs.length with hlt | hge
  ·rw [List.getElem?_append_left hlt] at hj
   exact hx j y hj
  ·rw [List.getElem?_append_right hge] at hj
   have : j - xs.length = 0:=by
    rcases Nat.lt_or_ge (j - xs.length) 1 with h1 | h1
    ·omega
    ·rw [List.getElem?_eq_none (by simpa using h1)] at hj;cases hj
   rw [this] at hj
   simp at hj
   subst hj
   have : j = n:=by omega
   subst this
   exact hq
theorem Opens.slice {α : Type} {P : Program} {t e : TypeId} {d : Kd α} {wf : α → Prop} (hu : P.underlying t = some (.slice e)) (hc : P.cellsOf t = 1) (B : Nat) (hB : P.bytesOf e = B) (he : Opens P e d wf) :
  Opens P t (Kd.slice e d) (fun xs => xs.length * B ≤ 140737488351232 ∧ xs.length ≤ maxLen ∧ ∀ x ∈ xs,wf x) :=
 ⟨hc,fun {H enc w fuel cs y} h hw => by
  rcases open_slice hu h with ⟨rfl,rfl⟩ | ⟨a,len,cap,m,n,D,Pl,rfl,_,hl,hm,hmm,rfl,hel⟩
  ·exact ⟨[],⟨none,0,rfl,Nat.le_refl _,Kd.C_nil d w⟩,by simp,by simp,fun x hx => by cases hx⟩
  have hmc : m = cap:=by rw [hmm];rfl
  subst hmc
  have hwt : ∀ i,i < len → ∀ z ∈ (D i).weights P e,z ≤ reachBytes:=fun i hi z hz => hw z (by
   simp only [DataW.weights,hu]
   exact List.mem_cons_of_mem _ (List.mem_append_left _ (weights_mem_all (List.mem_map.2 ⟨i,List.mem_range.2 hi,rfl⟩) hz)))
  have hall : ∀ i,i < len → ∃ x : α,(∃ c,c.length = d.sz ∧ d.K w x c ∧ ∀ j u,c[j]? = some u → w.cell? (a.add (i * d.sz + j)) = some u) ∧ wf x:=by
   intro i hi
   obtain ⟨cs',hcs,htr⟩:=hel i (by omega)
   obtain ⟨x,hk,hx⟩:=he.op htr (hwt i hi)
   obtain ⟨_,hlen,hcell⟩:=World.cells?_some hcs
   refine ⟨x,⟨cs',by rw [hlen,he.sz],hk,fun j u hu' => ?_⟩,hx⟩
   have hj : j < cs'.length:=by
    rcases Nat.lt_or_ge j cs'.length with h1 | h1
    ·exact h1
    ·rw [List.getElem?_eq_none h1] at hu';cases hu'
   rw [hlen] at hj
   have hcj:=hcell j hj
   rw [hu',he.sz,Addr.add_add] at hcj
   exact hcj
  obtain ⟨xs,hxl,hxs⟩:=list_of_all (Q:=fun i x => (∃ c,c.length = d.sz ∧ d.K w x c ∧ ∀ j u,c[j]? = some u → w.cell? (a.add (i * d.sz + j)) = some u) ∧ wf x) len hall
  subst hxl
  refine ⟨xs,⟨some a,m,rfl,hl,rfl,?_,fun _ => ⟨a,rfl,fun j p hp => (hxs j p hp).1⟩⟩,?_,?_,?_⟩
  ·unfold maxLen at hm;omega
  ·have:=hw ((List.map D (List.range xs.length)).length + (List.map (fun j => D (xs.length + j)) (List.range (m - xs.length))).length) |> fun h => h
   have h1:=hw (((List.map D (List.range xs.length)).length + (List.map (fun j => D (xs.length + j)) (List.range (m - xs.length))).length) * P.bytesOf e) (by simp only [DataW.weights,hu];exact List.mem_cons_self)
   rw [hB] at h1
   simp only [List.length_map,List.length_range] at h1
   have h2 : xs.length * B ≤ (xs.length + (m - xs.length)) * B:=Nat.mul_le_mul_right _ (by omega)
   exact Nat.le_trans h2 h1
  ·omega
  ·intro x hx
   obtain ⟨j,hj,rfl⟩:=List.getElem_of_mem hx
   exact (hxs j _ (List.getElem?_eq_getElem hj)).2⟩
/-- Fields in line from cell o on. -/
structure OpensF (P : Program) (fs : List Field) (o : Nat) {α : Type} (d : Kd α) (wf : α → Prop) : Prop where
 op : ∀ {H : Type} {enc : TypeId × Value → H} {w : World} {n : Nat} {cs : List Value} {xs : List (DataW H × List MemPlace)},o + d.sz ≤ cs.length → xs.length = fs.length →
  (∀ (i : Nat) (f : Field),fs[i]? = some f → DataW.trod enc P w 0 (fun _ => true) true n f.type ((cs.drop f.offset).take (P.cellsOf f.type)) = xs[i]?) →
  (∀ z ∈ DataW.weightsEach P (fs.map (·.type)) (xs.map (·.1)),z ≤ reachBytes) → ∃ x,d.K w x ((cs.drop o).take d.sz) ∧ wf x
theorem OpensF.one {α : Type} {P : Program} {f : Field} {o : Nat} {d : Kd α} {wf : α → Prop} (ho : f.offset = o) (h : Opens P f.type d wf) : OpensF P [f] o d wf:=by
 refine ⟨fun {H enc w n cs xs} hlen hxl htr hw => ?_⟩
 match xs,hxl with
 | [y],_ =>
  have h1:=htr 0 f rfl
  rw [ho,h.sz] at h1
  exact h.op (y:=y) h1 (fun z hz => hw z (by simpa [DataW.weightsEach] using hz))
theorem OpensF.cons {α β : Type} {P : Program} {f : Field} {fs : List Field} {o : Nat} {a : Kd α} {b : Kd β} {wa : α → Prop} {wb : β → Prop} (ho : f.offset = o) (h : Opens P f.type a wa) (o' : Nat) (ho' : o + a.sz = o') (hr : OpensF P fs o' b wb) :
  OpensF P (f :: fs) o (Kd.pair a b) (fun x => wa x.1 ∧ wb x.2):=by
 refine ⟨fun {H enc w n cs xs} hlen hxl htr hw => ?_⟩
 match xs,hxl with
 | y :: ys,hxl =>
  have h1:=htr 0 f rfl
  rw [ho,h.sz] at h1
  have hsz : (Kd.pair a b).sz = a.sz + b.sz:=rfl
  rw [hsz] at hlen
  obtain ⟨x0,k0,w0⟩:=h.op (y:=y) h1 (fun z hz => hw z (by simp only [List.map_cons,DataW.weightsEach,List.mem_append];exact .inl hz))
  obtain ⟨x1,k1,w1⟩:=hr.op (n:=n) (cs:=cs) (xs:=ys) (enc:=enc) (w:=w) (by omega) (by simpa using hxl) (fun i g hg => by have:=htr (i + 1) g (by simpa using hg);simpa using this) (fun z hz => hw z (by simp only [List.map_cons,DataW.weightsEach,List.mem_append];exact .inr hz))
  refine ⟨(x0,x1),⟨(cs.drop o).take a.sz,(cs.drop o').take b.sz,?_,k0,k1⟩,w0,w1⟩
  rw [hsz,← ho',List.take_add,List.drop_drop]
theorem Opens.struct {α : Type} {P : Program} {t : TypeId} {fs : Array Field} {d : Kd α} {wf : α → Prop} (hu : P.underlying t = some (.struct fs)) (hc : P.cellsOf t = d.sz) (h : OpensF P fs.toList 0 d wf) : Opens P t d wf :=
 ⟨hc,fun {H enc w fuel cs y} ht hw => by
  obtain ⟨xs,n,rfl,rfl,hlen,hxl,htr⟩:=DataW.trod_struct hu ht
  obtain ⟨x,hk,hx⟩:=h.op (enc:=enc) (w:=w) (n:=n) (cs:=cs) (xs:=xs) (by omega) (by simpa using hxl) (fun i f hf => htr i f (by simpa using hf)) (fun z hz => hw z (by simp only [DataW.weights,hu];exact hz))
  refine ⟨x,?_,hx⟩
  rw [List.drop_zero,List.take_of_length_le (by omega)] at hk
  exact hk⟩
theorem Opens.iso {α β : Type} {P : Program} {t : TypeId} {d : Kd α} {wf : α → Prop} (f : β → α) (g : α → β) (hfg : ∀ x,f (g x) = x) (h : Opens P t d wf) : Opens P t (Kd.iso d f) (fun x => wf (f x)) :=
 ⟨h.sz,fun ht hw => by
  obtain ⟨x,hk,hx⟩:=h.op ht hw
  exact ⟨g x,by show d.K _ (f (g x)) _;rw [hfg];exact hk,by rw [hfg];exact hx⟩⟩
end
section
def wf23 (x : S23) : Prop:=(Lit.int .i64 x.f0).wf = true ∧ ((Lit.int .i64 x.f1).wf = true)
set_option maxRecDepth 100000 in
theorem opens23 : Opens Try.prog 23 k23 wf23 :=
 Opens.iso (fun x : S23 => (x.f0,x.f1)) (fun y => ⟨y.1,y.2⟩) (fun _ => rfl) (Opens.struct Try.underlying23 (by kernel_rfl) (OpensF.cons rfl (Opens.int Try.underlying3 (by kernel_rfl)) 1 rfl (OpensF.one rfl (Opens.int Try.underlying3 (by kernel_rfl)))))
end
section
def wf30 (x : S30) : Prop:=(Lit.int .i64 x.f0).wf = true ∧ ((Lit.int .i64 x.f1).wf = true)
set_option maxRecDepth 100000 in
theorem opens30 : Opens Try.prog 30 k30 wf30 :=
 Opens.iso (fun x : S30 => (x.f0,x.f1)) (fun y => ⟨y.1,y.2⟩) (fun _ => rfl) (Opens.struct Try.underlying30 (by kernel_rfl) (OpensF.cons rfl (Opens.int Try.underlying3 (by kernel_rfl)) 1 rfl (OpensF.one rfl (Opens.int Try.underlying3 (by kernel_rfl)))))
end
section
def wf32 (x : S32) : Prop:=(Lit.int .i64 x.f0).wf = true ∧ (wf23 x.f1 ∧ (wf30 x.f2 ∧ (True)))
set_option maxRecDepth 100000 in
theorem opens32 : Opens Try.prog 32 k32 wf32 :=
 Opens.iso (fun x : S32 => (x.f0,x.f1,x.f2,x.f3)) (fun y => ⟨y.1,y.2.1,y.2.2.1,y.2.2.2⟩) (fun _ => rfl) (Opens.struct Try.underlying32 (by kernel_rfl) (OpensF.cons rfl (Opens.int Try.underlying3 (by kernel_rfl)) 1 rfl (OpensF.cons rfl opens23 3 rfl (OpensF.cons rfl opens30 5 rfl (OpensF.one rfl (Opens.bool Try.underlying4 (by kernel_rfl)))))))
end
section
def wf49 (x : S49) : Prop:=x.f0.size ≤ 140737488351232 ∧ ((x.f1.length * 48 ≤ 140737488351232 ∧ x.f1.length ≤ maxLen ∧ ∀ y ∈ x.f1,wf32 y) ∧ ((Lit.int .i64 x.f2).wf = true ∧ ((Lit.int .i64 x.f3).wf = true ∧ ((Lit.int .i64 x.f4).wf = true))))
set_option maxRecDepth 100000 in
theorem opens49 : Opens Try.prog 49 k49 wf49 :=
 Opens.iso (fun x : S49 => (x.f0,x.f1,x.f2,x.f3,x.f4)) (fun y => ⟨y.1,y.2.1,y.2.2.1,y.2.2.2.1,y.2.2.2.2⟩) (fun _ => rfl) (Opens.struct Try.underlying49 (by kernel_rfl) (OpensF.cons rfl (Opens.string Try.underlying9 (by kernel_rfl)) 1 rfl (OpensF.cons rfl (Opens.slice Try.underlying47 (by kernel_rfl) 48 (by kernel_rfl) opens32) 2 rfl (OpensF.cons rfl (Opens.int Try.underlying3 (by kernel_rfl)) 3 rfl (OpensF.cons rfl (Opens.int Try.underlying3 (by kernel_rfl)) 4 rfl (OpensF.one rfl (Opens.int Try.underlying3 (by kernel_rfl))))))))
end
section
-- NEEDS laws.szConfig laws.toConfig laws.eqConfig
def toRole (x : S49) : S54:=⟨x.f0,x.f1.map to_T36,x.f2,x.f3,x.f4⟩
theorem rdmem_T49 {l : List S49} {i : Int} (h : i.toNat < l.length) : rd_T49 l i ∈ l:=by
 unfold rd_T49
 rw [List.getD_eq_getElem?_getD,List.getElem?_eq_getElem h]
 exact List.getElem_mem h
theorem szRole_ev (a : ByteArray) (l : List S32) (q m z left : Int) (h0 : 0 ≤ left) (h1 : left ≤ 1048576) (ha : a.size ≤ 140737488351232) (hl : l.length ≤ 140737488351232) :
  ∃ t,laws_szRole.f a l q m z left = some t ∧ t ≤ left ∧ (0 ≤ t → a.size ≤ 1048576 ∧ l.length ≤ 1048576):=by
 simp only [laws_szRole.f,laws_szRuleS.f]
 rw [wrap_id (n:=left - (a.size : Int)) (by omega) (by omega)]
 by_cases c1 : left - (a.size : Int) < 0
 ·rw [if_pos c1];exact ⟨-1,rfl,by omega,fun h => by omega⟩
 rw [if_neg c1,wrap_id (by omega) (by omega)]
 by_cases c2 : left - (a.size : Int) - (l.length : Int) < 0
 ·rw [if_pos c2];exact ⟨-1,rfl,by omega,fun h => by omega⟩
 ·rw [if_neg c2,Option.bind_some,if_neg c2];exact ⟨_,rfl,by omega,fun h => by omega⟩
theorem szRoles_l0 (l : List S49) (hw : ∀ y ∈ l,wf49 y) (hx : (l.length : Int) ≤ 1152921504606846976) : ∀ (d : Nat) (i left : Int),0 ≤ i → (l.length : Int) - i = d → 0 ≤ left → left ≤ 1048576 →
  ∃ t,(∀ k,d + 1 ≤ k → laws_szRoleS.l0 k l left i = some t) ∧ t ≤ left ∧ (0 ≤ t → ∀ j : Int,i ≤ j → j < l.length → (rd_T49 l j).f0.size ≤ 1048576 ∧ (rd_T49 l j).f1.length ≤ 1048576)
 | 0,i,left,h0,hd,h1,h2 => by
  refine ⟨left,fun k hk => ?_,by omega,fun _ j h3 h4 => by omega⟩
  obtain ⟨k,rfl⟩ : ∃ z,k = z + 1:=⟨k - 1,by omega⟩
  rw [laws_szRoleS.l0,if_neg (by omega)]
 | d + 1,i,left,h0,hd,h1,h2 => by
  have hwi:=hw _ (rdmem_T49 (l:=l) (i:=i) (by omega))
  obtain ⟨t,e,ht,hh⟩:=szRole_ev (rd_T49 l i).f0 (rd_T49 l i).f1 (rd_T49 l i).f2 (rd_T49 l i).f3 (rd_T49 l i).f4 left h1 h2 hwi.1 (by have:=hwi.2.1.1;omega)
  by_cases c : t < 0
  ·refine ⟨-1,fun k hk => ?_,by omega,fun h => by omega⟩
   obtain ⟨k,rfl⟩ : ∃ z,k = z + 1:=⟨k - 1,by omega⟩
   rw [laws_szRoleS.l0,if_pos (by omega),if_pos h0,e,Option.bind_some,if_pos c]
  ·obtain ⟨u,e2,hu,hh2⟩:=szRoles_l0 l hw hx d (i + 1) t (by omega) (by omega) (by omega) (by omega)
   refine ⟨u,fun k hk => ?_,by omega,fun h j h3 h4 => ?_⟩
   ·obtain ⟨k,rfl⟩ : ∃ z,k = z + 1:=⟨k - 1,by omega⟩
    rw [laws_szRoleS.l0,if_pos (by omega),if_pos h0,e,Option.bind_some,if_neg c,wrap_id (by omega) (by omega),e2 k (by omega)]
   ·by_cases hj : j = i
    ·rw [hj];exact hh (by omega)
    ·exact hh2 h j (by omega) h4
theorem toRole_ev (x : S49) (hx : x.f1.length ≤ 1048576) : Ev (fun k => laws_toRole.f k x.f0 x.f1 x.f2 x.f3 x.f4) (x.f0,x.f1.map to_T36,x.f2,x.f3,x.f4):=by
 unfold laws_toRole.f
 exact Ev.bind (to_T36_ev x.f1 hx) ⟨0,fun _ _ => rfl⟩
theorem toRoles_l0 (l : List S49) (hl : ∀ j : Int,0 ≤ j → j < l.length → (rd_T49 l j).f1.length ≤ 1048576) : ∀ (d : Nat) (acc : List S54) (i : Int),acc.length = l.length → 0 ≤ i → (l.length : Int) - i = d → (l.length : Int) ≤ 1152921504606846976 →
  ∃ ys : List S54,Ev (fun k => laws_toRoleS.l0 k l acc i) ys ∧ ys.length = l.length ∧ (∀ j : Nat,(j : Int) < i → ys[j]? = acc[j]?) ∧ (∀ j : Nat,i ≤ (j : Int) → ys[j]? = (l.map toRole)[j]?):=by
 intro d
 induction d with
 | zero =>
  intro acc i ha h0 hd hx
  refine ⟨acc,⟨1,fun k hk => ?_⟩,ha,fun _ _ => rfl,fun j hj => by rw [List.getElem?_eq_none (by omega),List.getElem?_eq_none (by rw [List.length_map];omega)]⟩
  obtain ⟨k,rfl⟩ : ∃ q,k = q + 1:=⟨k - 1,by omega⟩
  simp only [laws_toRoleS.l0]
  rw [if_neg (by omega)]
 | succ d ih =>
  intro acc i ha h0 hd hx
  have hlt : i < (l.length : Int):=by omega
  have hn : i.toNat < l.length:=by omega
  have ei : wrap64 (i + 1) = i + 1:=wrap_id (by omega) (by omega)
  obtain ⟨ys,hev,hlen,hold,hnew⟩:=ih (acc.set i.toNat (toRole (rd_T49 l i))) (i + 1) (by rw [List.length_set];exact ha) (by omega) (by omega) hx
  refine ⟨ys,Ev.step (f:=fun k => (laws_toRole.f k (rd_T49 l i).f0 (rd_T49 l i).f1 (rd_T49 l i).f2 (rd_T49 l i).f3 (rd_T49 l i).f4).bind fun bt => laws_toRoleS.l0 k l (acc.set i.toNat (⟨bt.1,bt.2.1,bt.2.2.1,bt.2.2.2.1,bt.2.2.2.2⟩ : S54)) (i + 1)) (fun k => ?_) (Ev.bind (toRole_ev _ (hl i h0 hlt)) hev),hlen,fun j hj => ?_,fun j hj => ?_⟩
  ·simp only [laws_toRoleS.l0]
   rw [if_pos hlt,if_pos h0]
   simp only [ei,if_pos (show i < (acc.length : Int) by omega)]
  ·rw [hold j (by omega),List.getElem?_set_ne (by omega)]
  ·by_cases hji : (j : Int) = i
   ·have e : i.toNat = j:=by omega
    rw [hold j (by omega),e,List.getElem?_set_self (by omega),List.getElem?_map,List.getElem?_eq_getElem (show j < l.length by omega)]
    simp only [Option.map_some,rd_T49,e,List.getD_eq_getElem?_getD,List.getElem?_eq_getElem (show j < l.length by omega),Option.getD_some]
   ·exact hnew j (by omega)
theorem toRoles_ev (l : List S49) (hx : l.length ≤ 1048576) (hl : ∀ j : Int,0 ≤ j → j < l.length → (rd_T49 l j).f1.length ≤ 1048576) : Ev (fun k => laws_toRoleS.f k l) (l.map toRole):=by
 obtain ⟨ys,hev,hlen,_,hnew⟩:=toRoles_l0 l hl l.length (List.replicate l.length z54) 0 (by simp) (by omega) (by omega) (by omega)
 have e : ys = l.map toRole:=List.ext_getElem? fun j => hnew j (by omega)
 rw [← e]
 refine Ev.congr (fun k => ?_) hev
 simp only [laws_toRoleS.f]
 rw [if_pos (by omega),if_pos (by omega)]
 rfl
theorem eqRole_ev (x : S54) (hx : (x.f1.length : Int) ≤ 1152921504606846976) : Ev (fun k => laws_eqRole.f k x.f0 x.f1 x.f2 x.f3 x.f4 x.f0 x.f1 x.f2 x.f3 x.f4) true:=by
 unfold laws_eqRole.f
 simp only [if_true]
 exact Ev.bind (eqS_T36_ev x.f1 hx) ⟨0,fun _ _ => rfl⟩
theorem eqRoles_l0 (xs : List S54) (hl : ∀ j : Int,((rd_T54 xs j).f1.length : Int) ≤ 1152921504606846976) : ∀ (d : Nat) (i : Int),0 ≤ i → (xs.length : Int) - i = d → (xs.length : Int) ≤ 1152921504606846976 → Ev (fun k => laws_eqRoleS.l0 k xs xs i) true:=by
 intro d
 induction d with
 | zero =>
  intro i h0 hd hx
  refine ⟨1,fun k hk => ?_⟩
  obtain ⟨k,rfl⟩ : ∃ q,k = q + 1:=⟨k - 1,by omega⟩
  simp only [laws_eqRoleS.l0]
  rw [if_neg (by omega)]
 | succ d ih =>
  intro i h0 hd hx
  have hlt : i < (xs.length : Int):=by omega
  have ei : wrap64 (i + 1) = i + 1:=wrap_id (by omega) (by omega)
  refine Ev.step (f:=fun k => (laws_eqRole.f k (rd_T54 xs i).f0 (rd_T54 xs i).f1 (rd_T54 xs i).f2 (rd_T54 xs i).f3 (rd_T54 xs i).f4 (rd_T54 xs i).f0 (rd_T54 xs i).f1 (rd_T54 xs i).f2 (rd_T54 xs i).f3 (rd_T54 xs i).f4).bind fun t => if t = true then laws_eqRoleS.l0 k xs xs (i + 1) else some false) (fun k => ?_) (Ev.bind (eqRole_ev _ (hl i)) (Ev.congr (fun k => if_pos rfl) (ih (i + 1) (by omega) (by omega) hx)))
  simp only [laws_eqRoleS.l0,ei]
  rw [if_pos hlt,if_pos h0,if_pos hlt]
theorem eqRoles_ev (xs : List S54) (hx : (xs.length : Int) ≤ 1152921504606846976) (hl : ∀ j : Int,((rd_T54 xs j).f1.length : Int) ≤ 1152921504606846976) : Ev (fun k => laws_eqRoleS.f k xs xs) true:=by
 refine Ev.congr (f:=fun k => laws_eqRoleS.l0 k xs xs 0) (fun k => ?_) (eqRoles_l0 xs hl xs.length 0 (by omega) (by omega) hx)
 simp only [laws_eqRoleS.f,if_true]
theorem szConfig_ev (ip b gate : Int) (gm wm : ByteArray) (res : Int) (g : List S116) (l : List S49) (h1 : gm.size ≤ 140737488351232) (h2 : wm.size ≤ 140737488351232) (h3 : g.length ≤ 140737488351232) (h4 : l.length ≤ 140737488351232) (hw : ∀ y ∈ l,wf49 y) :
  ∃ (t : Int) (K : Nat),(∀ k,K ≤ k → laws_szConfig.f k ip b gate gm wm res g l 1048576 = some t) ∧ (0 ≤ t → g.length ≤ 1048576 ∧ l.length ≤ 1048576 ∧ ∀ j : Int,0 ≤ j → j < l.length → (rd_T49 l j).f0.size ≤ 1048576 ∧ (rd_T49 l j).f1.length ≤ 1048576):=by
 simp only [laws_szConfig.f,laws_szPlaceS.f,laws_szRoleS.f]
 rw [wrap_id (n:=1048576 - (gm.size : Int)) (by omega) (by omega)]
 by_cases c1 : 1048576 - (gm.size : Int) < 0
 ·exact ⟨-1,0,fun k _ => by rw [if_pos c1],fun h => by omega⟩
 simp only [if_neg c1]
 rw [wrap_id (n:=1048576 - (gm.size : Int) - (wm.size : Int)) (by omega) (by omega)]
 by_cases c2 : 1048576 - (gm.size : Int) - (wm.size : Int) < 0
 ·exact ⟨-1,0,fun k _ => by rw [if_pos c2],fun h => by omega⟩
 simp only [if_neg c2]
 rw [wrap_id (n:=1048576 - (gm.size : Int) - (wm.size : Int) - (g.length : Int)) (by omega) (by omega)]
 by_cases c3 : 1048576 - (gm.size : Int) - (wm.size : Int) - (g.length : Int) < 0
 ·exact ⟨-1,0,fun k _ => by simp only [if_pos c3,Option.bind_some];rfl,fun h => by omega⟩
 simp only [if_neg c3,Option.bind_some]
 rw [wrap_id (n:=1048576 - (gm.size : Int) - (wm.size : Int) - (g.length : Int) - (l.length : Int)) (by omega) (by omega)]
 by_cases c4 : 1048576 - (gm.size : Int) - (wm.size : Int) - (g.length : Int) - (l.length : Int) < 0
 ·exact ⟨-1,0,fun k _ => by simp only [if_pos c4,Option.bind_some];rfl,fun h => by omega⟩
 simp only [if_neg c4]
 obtain ⟨t,e,ht,hh⟩:=szRoles_l0 l hw (by omega) l.length 0 (1048576 - (gm.size : Int) - (wm.size : Int) - (g.length : Int) - (l.length : Int)) (by omega) (by omega) (by omega) (by omega)
 by_cases c5 : t < 0
 ·exact ⟨-1,l.length + 1,fun k hk => by rw [e k hk,Option.bind_some,if_pos c5],fun h => by omega⟩
 ·exact ⟨t,l.length + 1,fun k hk => by rw [e k hk,Option.bind_some,if_neg c5],fun h => ⟨by omega,by omega,fun j h0 hj => hh h j h0 hj⟩⟩
end
section
-- NEEDS laws.szConfig laws.toConfig laws.eqConfig impl.ConfigOK spec.ConfigOK
theorem slim_map (l : List S49) (hx : l.length ≤ 1048576) (hr : ∀ j : Int,0 ≤ j → j < l.length → (rd_T49 l j).f0.size ≤ 1048576 ∧ (rd_T49 l j).f1.length ≤ 1048576) : Slim (l.map toRole) 2097152:=by
 intro j
 unfold rd_T54
 rw [List.getD_eq_getElem?_getD,List.getElem?_map]
 by_cases hj : j.toNat < l.length
 ·have e : l[j.toNat]? = some (rd_T49 l (j.toNat : Int)):=by
   unfold rd_T49
   rw [List.getD_eq_getElem?_getD,Int.toNat_natCast,List.getElem?_eq_getElem hj];rfl
  have h:=hr (j.toNat : Int) (by omega) (by omega)
  rw [e,Option.map_some,Option.getD_some]
  simp only [toRole,List.length_map]
  omega
 ·rw [List.getElem?_eq_none (by omega),Option.map_none,Option.getD_none]
  exact Nat.zero_le _
end
section
def to_T100 (x : S116) : S100:=(⟨(⟨x.f0.f0,x.f0.f1⟩ : S26),(⟨x.f1.f0,x.f1.f1⟩ : S34)⟩ : S100)
theorem to_T100_l0 (l : List S116) : ∀ (d : Nat) (acc : List S100) (i : Int),acc.length = l.length → 0 ≤ i → (l.length : Int) - i = d → (l.length : Int) ≤ 1152921504606846976 →
  ∃ ys : List S100,Ev (fun k => laws_toPlaceS.l0 k l acc i) ys ∧ ys.length = l.length ∧ (∀ j : Nat,(j : Int) < i → ys[j]? = acc[j]?) ∧ (∀ j : Nat,i ≤ (j : Int) → ys[j]? = (l.map to_T100)[j]?):=by
 intro d
 induction d with
 | zero =>
  intro acc i ha h0 hd hx
  refine ⟨acc,⟨1,fun k hk => ?_⟩,ha,fun _ _ => rfl,fun j hj => by rw [List.getElem?_eq_none (by omega),List.getElem?_eq_none (by rw [List.length_map];omega)]⟩
  obtain ⟨k,rfl⟩ : ∃ q,k = q + 1:=⟨k - 1,by omega⟩
  simp only [laws_toPlaceS.l0]
  rw [if_neg (by omega)]
 | succ d ih =>
  intro acc i ha h0 hd hx
  have hlt : i < (l.length : Int):=by omega
  have hn : i.toNat < l.length:=by omega
  have ei : wrap64 (i + 1) = i + 1:=wrap_id (by omega) (by omega)
  obtain ⟨ys,hev,hlen,hold,hnew⟩:=ih (acc.set i.toNat (to_T100 (rd_T116 l i))) (i + 1) (by rw [List.length_set];exact ha) (by omega) (by omega) hx
  refine ⟨ys,Ev.step (f:=fun k => laws_toPlaceS.l0 k l (acc.set i.toNat (to_T100 (rd_T116 l i))) (i + 1)) (fun k => ?_) hev,hlen,fun j hj => ?_,fun j hj => ?_⟩
  ·simp only [laws_toPlaceS.l0]
   rw [if_pos hlt,if_pos h0]
   simp only [laws_toPlace.f,Option.bind_some,laws_toNet.f,laws_toRange.f,ei,to_T100]
   rw [if_pos (by omega)]
  ·rw [hold j (by omega),List.getElem?_set_ne (by omega)]
  ·by_cases hji : (j : Int) = i
   ·have e : i.toNat = j:=by omega
    rw [hold j (by omega),e,List.getElem?_set_self (by omega),List.getElem?_map,List.getElem?_eq_getElem (show j < l.length by omega)]
    simp only [Option.map_some,rd_T116,e,List.getD_eq_getElem?_getD,List.getElem?_eq_getElem (show j < l.length by omega),Option.getD_some]
   ·exact hnew j (by omega)
theorem to_T100_ev (l : List S116) (hx : l.length ≤ 1048576) : Ev (fun k => laws_toPlaceS.f k l) (l.map to_T100):=by
 obtain ⟨ys,hev,hlen,_,hnew⟩:=to_T100_l0 l l.length (List.replicate l.length z100) 0 (by simp) (by omega) (by omega) (by omega)
 have e : ys = l.map to_T100:=List.ext_getElem? fun j => hnew j (by omega)
 rw [← e]
 refine Ev.congr (fun k => ?_) hev
 simp only [laws_toPlaceS.f]
 rw [if_pos (by omega),if_pos (by omega)]
 rfl
end
section
def wf116 (x : S116) : Prop:=wf23 x.f0 ∧ (wf30 x.f1)
set_option maxRecDepth 100000 in
theorem opens116 : Opens Try.prog 116 k116 wf116 :=
 Opens.iso (fun x : S116 => (x.f0,x.f1)) (fun y => ⟨y.1,y.2⟩) (fun _ => rfl) (Opens.struct Try.underlying116 (by kernel_rfl) (OpensF.cons rfl opens23 2 rfl (OpensF.one rfl opens30)))
end
section
def wf64 (x : S64) : Prop:=wf23 x.f0 ∧ ((Lit.int .i64 x.f1).wf = true ∧ (x.f2.size ≤ 140737488351232 ∧ (x.f3.size ≤ 140737488351232 ∧ ((Lit.int .i64 x.f4).wf = true ∧ ((x.f5.length * 32 ≤ 140737488351232 ∧ x.f5.length ≤ maxLen ∧ ∀ y ∈ x.f5,wf116 y) ∧ ((x.f6.length * 64 ≤ 140737488351232 ∧ x.f6.length ≤ maxLen ∧ ∀ y ∈ x.f6,wf49 y)))))))
set_option maxRecDepth 100000 in
theorem opens64 : Opens Try.prog 64 k64 wf64 :=
 Opens.iso (fun x : S64 => (x.f0,x.f1,x.f2,x.f3,x.f4,x.f5,x.f6)) (fun y => ⟨y.1,y.2.1,y.2.2.1,y.2.2.2.1,y.2.2.2.2.1,y.2.2.2.2.2.1,y.2.2.2.2.2.2⟩) (fun _ => rfl) (Opens.struct Try.underlying64 (by kernel_rfl) (OpensF.cons rfl opens23 2 rfl (OpensF.cons rfl (Opens.int Try.underlying3 (by kernel_rfl)) 3 rfl (OpensF.cons rfl (Opens.string Try.underlying9 (by kernel_rfl)) 4 rfl (OpensF.cons rfl (Opens.string Try.underlying9 (by kernel_rfl)) 5 rfl (OpensF.cons rfl (Opens.int Try.underlying3 (by kernel_rfl)) 6 rfl (OpensF.cons rfl (Opens.slice Try.underlying61 (by kernel_rfl) 32 (by kernel_rfl) opens116) 7 rfl (OpensF.one rfl (Opens.slice Try.underlying62 (by kernel_rfl) 64 (by kernel_rfl) opens49)))))))))
end
section
def P_FnExactInGarden : Prop:=∀ (a0 : S64) (a1 : Int) (a2 : Int),wf64 a0 → (Lit.int .i64 a1).wf = true → (Lit.int .i64 a2).wf = true → ∃ k,laws_FnExactInGarden.f k a0.f0.f0 a0.f0.f1 a0.f1 a0.f2 a0.f3 a0.f4 a0.f5 a0.f6 a1 a2 = some true
end
section
-- NEEDS laws.FnExactInGarden
theorem pure_FnExactInGarden : P_FnExactInGarden:=by
 intro c ad port hw _ _
 obtain ⟨⟨ip,b⟩,gate,gm,wm,res,g,l⟩:=c
 have hgl : g.length * 32 ≤ 140737488351232:=hw.2.2.2.2.2.1.1
 have hll : l.length * 64 ≤ 140737488351232:=hw.2.2.2.2.2.2.1
 obtain ⟨t,K0,e0,hh⟩:=szConfig_ev ip b gate gm wm res g l hw.2.2.1 hw.2.2.2.1 (by omega) (by omega) hw.2.2.2.2.2.2.2.2
 dsimp only
 by_cases ht : t < 0
 ·refine ⟨K0,?_⟩
  simp only [laws_FnExactInGarden.f,e0 K0 (Nat.le_refl _),Option.bind_some,if_pos ht]
 obtain ⟨hg,hl,hr⟩:=hh (by omega)
 obtain ⟨K1,h1⟩:=to_T100_ev g hg
 obtain ⟨K2,h2⟩:=toRoles_ev l hl (fun j h0 h1 => (hr j h0 h1).2)
 have hml : (l.map toRole).length = l.length:=List.length_map ..
 have hmg : (g.map to_T100).length = g.length:=List.length_map ..
 have hs : Slim (l.map toRole) 2097152:=slim_map l hl hr
 have b2:=spec_InGarden_ev ip b gate gm wm res (g.map to_T100) (l.map toRole) ad port (by omega) (by omega) 2097152 hs (by omega)
 have b3:=impl_InGarden_ev ip b gate gm wm res (g.map to_T100) (l.map toRole) ad port (by omega) (by omega) 2097152 hs (by omega)
 obtain ⟨K4,h4⟩:=eqS_T100_ev (g.map to_T100) (by omega)
 obtain ⟨K5,h5⟩:=eqRoles_ev (l.map toRole) (by omega) (fun j => by have:=hs j;omega)
 obtain ⟨N,hN⟩ : ∃ N,N = K0 + K1 + K2 + K4 + K5 + (g.length + l.length + 2097152 + 8):=⟨_,rfl⟩
 have b0:=e0 (N + 1) (by omega)
 have c1:=h1 (N + 1) (by omega)
 have c2:=h2 (N + 1) (by omega)
 have c4:=h4 N (by omega)
 have c5:=h5 N (by omega)
 replace b2:=b2 (N + 1) (by omega)
 replace b3:=b3 (N + 1) (by omega)
 have c1':=h1 N (by omega)
 have c2':=h2 N (by omega)
 dsimp only at c1 c2 c1' c2' c4 c5
 refine ⟨N + 1,?_⟩
 simp only [laws_FnExactInGarden.f,b0,Option.bind_some,if_neg ht,laws_toConfig.f,laws_toNet.f,c1,c2,b2,b3,bne_self_eq_false,Bool.false_eq_true,if_false,laws_eqConfig.f,laws_eqNet.f,if_true,c4,c5,laws_FnExactInGarden.j0,c1',c2']
end
section
-- IMPORT Derived.Test.YtiemmhhjiplnlaaRows
-- IMPORT Derived.WalkKit
-- IMPORT Derived.ProofKit
-- IMPORT Derived.OpenShut
-- IMPORT Derived.ShutString
-- IMPORT Derived.ChangeOld
-- IMPORT Derived.Below
-- IMPORT Derived.SizedLaws
open Go.ChangeShapes Go.WideShapes Go.ChangeAt
open Go.ChangeMaps (open_string shut_string)
theorem own_FnExactInGarden : ownKnob Try.prog.godebug = none:=by kernel_rfl
theorem laidOut_FnExactInGarden : laidOutB Try.prog = true:=by kernel_rfl
set_option maxHeartbeats 4000000 in
set_option maxRecDepth 100000 in
theorem lifted_FnExactInGarden (os : Os) (started : os.Started) (H : Type) (enc : TypeId × Value → H) :
  ReturnsInHanded {} Try.checked os 10 .any (Rows.fnExactInGardenSpec.pre6 enc Try.prog Try.f10 Rows.fnExactInGardenRow.domain false) (Rows.fnExactInGardenSpec.post enc Try.prog Try.f10 false true false false):=by
 refine returnsInHanded_of_change_sized (C:=Try.checked) own_FnExactInGarden started (by kernel_rfl) Try.func10
  (ChangeSpec.witness6 (enc:=enc) (C:=Try.checked) false ⟨#[],#[.agg #[.int .i64 0,.int .i64 0,.int .i64 0,.string ByteArray.empty,.string ByteArray.empty,.int .i64 0,.slice none 0 0,.slice none 0 0],.int .i64 0,.int .i64 0],[]⟩ 8 (by kernel_rfl) (by kernel_rfl) (by kernel_rfl) (by kernel_rfl)) ?_
 intro W base args ds gs before hval0 hW hcnd hsz0 _
 have hsz : (DataW.weightsEach Try.prog (Try.f10.params.toList ++ Rows.fnExactInGardenSpec.plain.varTypes Try.prog) (ds ++ gs)).all (· ≤ reachBytes) = true:=hsz0
 have hval : ∀ (j : Nat) t v,Try.f10.params[j]? = some t → args[j]? = some v → Value.okWide Try.prog W .any base t v:=hval0
 have hW':=hW
 obtain ⟨p,q,hA0,hV,rfl,hfz,hnd⟩:=hW
 have hA : DataW.TrodAll enc Try.prog W 0 (fun _ => true) true Try.f10.params.toList args.toList ds p:=hA0
 rw [Try.params10] at hA hval hsz
 obtain ⟨v0,vs0,d0,ds0,p0,q0,hargs,rfl,rfl,h0,r0⟩:=trodAll_cons hA
 obtain ⟨v1,vs1,d1,ds1,p1,q1,rfl,rfl,rfl,h1,r1⟩:=trodAll_cons r0
 obtain ⟨v2,vs2,d2,ds2,p2,q2,rfl,rfl,rfl,h2,r2⟩:=trodAll_cons r1
 obtain ⟨rfl,rfl,rfl⟩:=trodAll_nil r2
 obtain rfl : args = #[v0,v1,v2]:=by cases args;simp_all
 obtain ⟨rfl,rfl⟩:=trodVars_none hV
 have k0:=h0
 have lt0 : ∀ x ∈ p0,x.block < W.heap.size:=by obtain ⟨m,hm⟩:=k0;exact DataW.trod_lt m _ _ _ hm
 obtain ⟨cs0,rfl,_⟩:=okWide_struct Try.underlying64 (hval 0 64 v0 rfl rfl)
 obtain ⟨fuel0,hf0⟩:=h0
 obtain ⟨a0,kx0,w0⟩:=opens64.op hf0 (fun n hn => by have z:=List.all_eq_true.1 hsz _ (DataW.weights_mem_each (j:=0) (t:=64) rfl rfl n hn);simpa using z)
 obtain ⟨A0_6,c0_6,A0_7,c0_7,e0,hl0_6,hc0_6,hl0_7,hc0_7⟩:=k64_open kx0
 obtain rfl : cs0 = #[.int .i64 a0.f0.f0,.int .i64 a0.f0.f1,.int .i64 a0.f1,.string a0.f2,.string a0.f3,.int .i64 a0.f4,.slice A0_6 a0.f5.length c0_6,.slice A0_7 a0.f6.length c0_7]:=Array.toList_inj.1 e0
 obtain ⟨a1,rfl,rfl,rfl,w1⟩:=open_int Try.underlying3 (hval 1 3 v1 rfl rfl) h1
 obtain ⟨a2,rfl,rfl,rfl,w2⟩:=open_int Try.underlying3 (hval 2 3 v2 rfl rfl) h2
 clear hA0 hval0 hsz0 hsz
 obtain ⟨k,hk⟩:=pure_FnExactInGarden a0 a1 a2 w0 w1 w2
 refine (laws_FnExactInGarden.calls k a0.f0.f0 a0.f0.f1 a0.f1 a0.f2 a0.f3 a0.f4 _ _ a0.f5 _ _ a0.f6 a1 a2 true W hc0_6 hl0_6 hc0_7 hl0_7 hk).mono fun e W' hh => ?_
 obtain ⟨he,bel0⟩:=hh
 have bel : Below W.heap.size W W':=bel0
 subst he
 exact ⟨_,rfl,_,_,_,[],_,[],hW',trodAll_mk1 (shut_bool Try.underlying4 _),(trodAll_cons_mk (Below.trod laidOut_FnExactInGarden (by kernel_rfl) (of_decide_eq_true (by kernel_rfl)) k0 bel lt0) (trodAll_cons_mk (shut_int Try.underlying3 w1) (trodAll_cons_mk (shut_int Try.underlying3 w2) trodAll_mk0))),rfl,bel.frame _,fun h => by cases h⟩
theorem over_FnExactInGarden : Rows.fnExactInGardenRow.holds Try.pinned (OpenSpec.ofChange Rows.fnExactInGardenSpec) :=
 OpenClaim.holds_of_wide 10 Try.f10 rfl rfl rfl rfl rfl rfl rfl ⟨rfl,rfl,rfl,rfl,rfl⟩ rfl rfl rfl rfl rfl (by kernel_rfl) Try.func10 (by kernel_rfl)
  (of_decide_eq_true (by kernel_rfl)) (by unfold Func.isWrapper;first|(rw [if_pos (by decide +kernel)];kernel_rfl)|(rw [if_neg (by decide +kernel)];exact ⟨rfl,rfl⟩))
  (fun os started H enc _ => lifted_FnExactInGarden os started H enc)
theorem proved_FnExactInGarden : Rows.FnExactInGardenSaid:=over_FnExactInGarden
#print axioms proved_FnExactInGarden
end
end Go.Proofs.Ytiemmhhjiplnlaa.X
