/- Texts that the row of FnExactConfigOK stands on: functions of the program and of the reference, each as a Lean function with the same answers, and the plain lemmas. Conditions: none beside those that each theorem names. -/
import Derived.Test.YtiemmhhjiplnlaaCFnExactConfigOK3
namespace Go.Proofs.Ytiemmhhjiplnlaa.X
open Go.RowKit Go.Proofs.YtiemmhhjiplnlaaW.PrintWords Go.Proofs.YtiemmhhjiplnlaaW.PrintLast Go.Proofs.YtiemmhhjiplnlaaW.PrintMore
attribute [local go_sem] max2_int min2_int max_two min_two max_three min_three max_four min_four   -- for this text's walks alone
set_option linter.unusedVariables false
set_option linter.unusedSimpArgs false
open Go.Proofs.YtiemmhhjiplnlaaW.PrintWords renaming blk_drewN -> bDn
open Go.Proofs.YtiemmhhjiplnlaaW.PrintWords renaming blk_drew -> bDr
open Go.Proofs.YtiemmhhjiplnlaaW.PrintWords renaming blk_alloc -> bAl
open Go.Proofs.YtiemmhhjiplnlaaW.PrintWords renaming blk_frozen -> bFr
open Go.Proofs.YtiemmhhjiplnlaaW.PrintWords renaming blk_cell -> bCe
open Go.Proofs.YtiemmhhjiplnlaaW.PrintWords.Aside0 renaming mk -> aMk
open Go.World renaming block_lt_of_cell? -> wLt
open Go.Proofs.YtiemmhhjiplnlaaW.PrintWords renaming pw_below_drewN -> bwN
open Go.Proofs.YtiemmhhjiplnlaaW.PrintWords renaming below_drew1 -> bw1
open Go.Proofs.YtiemmhhjiplnlaaW.PrintWords renaming below_alloc -> bwA
section
/-! ### laws_eqRange: function 98 -/
def laws_eqRange.f (a0_0 : Int) (a0_1 : Int) (a1_0 : Int) (a1_1 : Int) : Option (Bool):=if a0_0 = a1_0 then (if a0_1 = a1_1 then (some true) else (some false)) else (some false)
set_option maxHeartbeats 8000000 in
set_option maxRecDepth 100000 in
theorem laws_eqRange.calls (a0_0 : Int) (a0_1 : Int) (a1_0 : Int) (a1_1 : Int) (r : Bool) (w : World) (h : laws_eqRange.f a0_0 a0_1 a1_0 a1_1 = some r) :
  Calls Try.prog 98 #[.agg #[.int .i64 a0_0,.int .i64 a0_1],.agg #[.int .i64 a1_0,.int .i64 a1_1]] w fun e w' => e = .returned (.bool r) ∧ Below w.heap.size w w':=by
 have hu34:=Try.underlying34
 have HB:=aMk (Below.refl w.heap.size w)
 have H : (if a0_0 = a1_0 then (if a0_1 = a1_1 then (some true) else (some false)) else (some false)) = some r:=h
 clear h
 by_cases c3 : a0_0 = a1_0
 ·rw [if_pos c3] at H
  have c3b0 : (a0_0 == a1_0) = true:=beq_iff_eq.mpr c3
  have c3b1 : (a0_0 != a1_0) = false:=bne_eq_false_iff_eq.mpr c3
  clear c3
  by_cases c4 : a0_1 = a1_1
  ·rw [if_pos c4] at H
   have c4b0 : (a0_1 == a1_1) = true:=beq_iff_eq.mpr c4
   have c4b1 : (a0_1 != a1_1) = false:=bne_eq_false_iff_eq.mpr c4
   clear c4
   obtain rfl:=Option.some.inj H
   go_enter Try.func98,Try.ntmps98
   go_wp2_with (first|((with_reducible refine gate_dst (N:=2) rfl ?_);refine bxE (N:=2) (cs:=#[.int .i64 a0_0,.int .i64 a0_1]) (t:=34) ?_;intro gb266 hg w5 hbox hb;have n0_:=aMk (bSt hb);have n1_:=aMk (hbox);have n2_:=aMk ((by rw [hg];exact bSz : w.heap.size ≤ gb266));have n3_:=aMk ((by rw [hg];exact bSz : w.heap.size ≤ gb266));clear HB;have HB:=n0_;have BK266:=n1_;have GW266:=n2_;have GE266:=n3_;clear n0_ n1_ n2_ n3_;clear hb hbox hg)|((with_reducible refine gate_dst (N:=3) rfl ?_);refine bxE (N:=3) (cs:=#[.int .i64 a1_0,.int .i64 a1_1]) (t:=34) ?_;intro gb267 hg w6 hbox hb;have n0_:=aMk (bkB BK266.out hb);have n1_:=aMk (below_step (by repeat (first|(with_reducible first|exact HB.out|apply bwA|apply bwN|apply bw1|refine below_set ?_ GE266.out)|exact HB.out)) hb);have n2_:=aMk (hbox);have n3_:=aMk ((by rw [hg];exact (below_size (by repeat (first|(with_reducible first|exact HB.out|apply bwA|apply bwN|apply bw1|refine below_set ?_ GE266.out)|exact HB.out))) : w.heap.size ≤ gb267));have n4_:=aMk ((by rw [hg];exact (below_size (by repeat (first|(with_reducible first|exact HB.out|apply bwA|apply bwN|apply bw1|refine below_set ?_ GE266.out)|exact HB.out))) : w.heap.size ≤ gb267));have n5_:=aMk ((bkL BK266.out hg : gb266 ≠ gb267));have n6_:=aMk ((bkG BK266.out hg : gb267 ≠ gb266));clear BK266;clear HB;have BK266:=n0_;have HB:=n1_;have BK267:=n2_;have GW267:=n3_;have GE267:=n4_;have NB266_267:=n5_;have NB267_266:=n6_;clear n0_ n1_ n2_ n3_ n4_ n5_ n6_;clear hb hbox hg;have hnb7:=NB266_267.out;have hnc7:=NB267_266.out;obtain ⟨hcz8_0,hcz8_1,hfz8_0,hfz8_1⟩:=bC2 BK266.out;obtain ⟨hcz9_0,hcz9_1,hfz9_0,hfz9_1⟩:=bC2 BK267.out))
   go_ret
   exact ⟨eRf,by repeat (first|(with_reducible first|exact HB.out|apply bwA|apply bwN|apply bw1|refine below_set ?_ GE266.out|refine below_set ?_ GE267.out)|exact HB.out)⟩
  ·rw [if_neg c4] at H
   have c4b0 : (a0_1 == a1_1) = false:=beq_eq_false_iff_ne.mpr c4
   have c4b1 : (a0_1 != a1_1) = true:=bne_iff_ne.mpr c4
   obtain rfl:=Option.some.inj H
   go_enter Try.func98,Try.ntmps98
   go_wp2_with (first|((with_reducible refine gate_dst (N:=2) rfl ?_);refine bxE (N:=2) (cs:=#[.int .i64 a0_0,.int .i64 a0_1]) (t:=34) ?_;intro gb266 hg w10 hbox hb;have n0_:=aMk (bSt hb);have n1_:=aMk (hbox);have n2_:=aMk ((by rw [hg];exact bSz : w.heap.size ≤ gb266));have n3_:=aMk ((by rw [hg];exact bSz : w.heap.size ≤ gb266));clear HB;have HB:=n0_;have BK266:=n1_;have GW266:=n2_;have GE266:=n3_;clear n0_ n1_ n2_ n3_;clear hb hbox hg)|((with_reducible refine gate_dst (N:=3) rfl ?_);refine bxE (N:=3) (cs:=#[.int .i64 a1_0,.int .i64 a1_1]) (t:=34) ?_;intro gb267 hg w11 hbox hb;have n0_:=aMk (bkB BK266.out hb);have n1_:=aMk (below_step (by repeat (first|(with_reducible first|exact HB.out|apply bwA|apply bwN|apply bw1|refine below_set ?_ GE266.out)|exact HB.out)) hb);have n2_:=aMk (hbox);have n3_:=aMk ((by rw [hg];exact (below_size (by repeat (first|(with_reducible first|exact HB.out|apply bwA|apply bwN|apply bw1|refine below_set ?_ GE266.out)|exact HB.out))) : w.heap.size ≤ gb267));have n4_:=aMk ((by rw [hg];exact (below_size (by repeat (first|(with_reducible first|exact HB.out|apply bwA|apply bwN|apply bw1|refine below_set ?_ GE266.out)|exact HB.out))) : w.heap.size ≤ gb267));have n5_:=aMk ((bkL BK266.out hg : gb266 ≠ gb267));have n6_:=aMk ((bkG BK266.out hg : gb267 ≠ gb266));clear BK266;clear HB;have BK266:=n0_;have HB:=n1_;have BK267:=n2_;have GW267:=n3_;have GE267:=n4_;have NB266_267:=n5_;have NB267_266:=n6_;clear n0_ n1_ n2_ n3_ n4_ n5_ n6_;clear hb hbox hg;have hnb12:=NB266_267.out;have hnc12:=NB267_266.out;obtain ⟨hcz13_0,hcz13_1,hfz13_0,hfz13_1⟩:=bC2 BK266.out;obtain ⟨hcz14_0,hcz14_1,hfz14_0,hfz14_1⟩:=bC2 BK267.out))
   go_ret
   exact ⟨eRf,by repeat (first|(with_reducible first|exact HB.out|apply bwA|apply bwN|apply bw1|refine below_set ?_ GE266.out|refine below_set ?_ GE267.out)|exact HB.out)⟩
 ·rw [if_neg c3] at H
  have c3b0 : (a0_0 == a1_0) = false:=beq_eq_false_iff_ne.mpr c3
  have c3b1 : (a0_0 != a1_0) = true:=bne_iff_ne.mpr c3
  obtain rfl:=Option.some.inj H
  go_enter Try.func98,Try.ntmps98
  go_wp2_with (first|((with_reducible refine gate_dst (N:=2) rfl ?_);refine bxE (N:=2) (cs:=#[.int .i64 a0_0,.int .i64 a0_1]) (t:=34) ?_;intro gb266 hg w15 hbox hb;have n0_:=aMk (bSt hb);have n1_:=aMk (hbox);have n2_:=aMk ((by rw [hg];exact bSz : w.heap.size ≤ gb266));have n3_:=aMk ((by rw [hg];exact bSz : w.heap.size ≤ gb266));clear HB;have HB:=n0_;have BK266:=n1_;have GW266:=n2_;have GE266:=n3_;clear n0_ n1_ n2_ n3_;clear hb hbox hg)|((with_reducible refine gate_dst (N:=3) rfl ?_);refine bxE (N:=3) (cs:=#[.int .i64 a1_0,.int .i64 a1_1]) (t:=34) ?_;intro gb267 hg w16 hbox hb;have n0_:=aMk (bkB BK266.out hb);have n1_:=aMk (below_step (by repeat (first|(with_reducible first|exact HB.out|apply bwA|apply bwN|apply bw1|refine below_set ?_ GE266.out)|exact HB.out)) hb);have n2_:=aMk (hbox);have n3_:=aMk ((by rw [hg];exact (below_size (by repeat (first|(with_reducible first|exact HB.out|apply bwA|apply bwN|apply bw1|refine below_set ?_ GE266.out)|exact HB.out))) : w.heap.size ≤ gb267));have n4_:=aMk ((by rw [hg];exact (below_size (by repeat (first|(with_reducible first|exact HB.out|apply bwA|apply bwN|apply bw1|refine below_set ?_ GE266.out)|exact HB.out))) : w.heap.size ≤ gb267));have n5_:=aMk ((bkL BK266.out hg : gb266 ≠ gb267));have n6_:=aMk ((bkG BK266.out hg : gb267 ≠ gb266));clear BK266;clear HB;have BK266:=n0_;have HB:=n1_;have BK267:=n2_;have GW267:=n3_;have GE267:=n4_;have NB266_267:=n5_;have NB267_266:=n6_;clear n0_ n1_ n2_ n3_ n4_ n5_ n6_;clear hb hbox hg;have hnb17:=NB266_267.out;have hnc17:=NB267_266.out;obtain ⟨hcz18_0,hcz18_1,hfz18_0,hfz18_1⟩:=bC2 BK266.out;obtain ⟨hcz19_0,hcz19_1,hfz19_0,hfz19_1⟩:=bC2 BK267.out))
  go_ret
  exact ⟨eRf,by repeat (first|(with_reducible first|exact HB.out|apply bwA|apply bwN|apply bw1|refine below_set ?_ GE266.out|refine below_set ?_ GE267.out)|exact HB.out)⟩
end
section
/-! ### laws_eqPlace: function 92 -/
def laws_eqPlace.f (a0_0 : Int) (a0_1 : Int) (a0_2 : Int) (a0_3 : Int) (a1_0 : Int) (a1_1 : Int) (a1_2 : Int) (a1_3 : Int) : Option (Bool):=(laws_eqNet.f a0_0 a0_1 a1_0 a1_1).bind fun t487 => (if t487 = true then ((laws_eqRange.f a0_2 a0_3 a1_2 a1_3).bind fun t488 => (if t488 = true then (some true) else (some false))) else (some false))
set_option maxHeartbeats 8000000 in
set_option maxRecDepth 100000 in
theorem laws_eqPlace.calls (a0_0 : Int) (a0_1 : Int) (a0_2 : Int) (a0_3 : Int) (a1_0 : Int) (a1_1 : Int) (a1_2 : Int) (a1_3 : Int) (r : Bool) (w : World) (h : laws_eqPlace.f a0_0 a0_1 a0_2 a0_3 a1_0 a1_1 a1_2 a1_3 = some r) :
  Calls Try.prog 92 #[.agg #[.int .i64 a0_0,.int .i64 a0_1,.int .i64 a0_2,.int .i64 a0_3],.agg #[.int .i64 a1_0,.int .i64 a1_1,.int .i64 a1_2,.int .i64 a1_3]] w fun e w' => e = .returned (.bool r) ∧ Below w.heap.size w w':=by
 have hu100:=Try.underlying100
 have hu26:=Try.underlying26
 have hu34:=Try.underlying34
 have HB:=aMk (Below.refl w.heap.size w)
 have H : ((laws_eqNet.f a0_0 a0_1 a1_0 a1_1).bind fun t487 => (if t487 = true then ((laws_eqRange.f a0_2 a0_3 a1_2 a1_3).bind fun t488 => (if t488 = true then (some true) else (some false))) else (some false))) = some r:=h
 clear h
 replace H:=Option.bind_eq_some_iff.mp H
 obtain ⟨t487,A30,H⟩:=H
 replace H : (if t487 = true then ((laws_eqRange.f a0_2 a0_3 a1_2 a1_3).bind fun t488 => (if t488 = true then (some true) else (some false))) else (some false)) = some r:=H
 have A3:=aMk A30
 clear A30
 by_cases c4 : t487 = true
 ·subst c4
  have H1 : ((laws_eqRange.f a0_2 a0_3 a1_2 a1_3).bind fun t488 => (if t488 = true then (some true) else (some false))) = some r:=by rw [if_pos rfl] at H;exact H
  clear H
  have H:=H1
  clear H1
  replace H:=Option.bind_eq_some_iff.mp H
  obtain ⟨t488,A50,H⟩:=H
  replace H : (if t488 = true then (some true) else (some false)) = some r:=H
  have A5:=aMk A50
  clear A50
  by_cases c6 : t488 = true
  ·subst c6
   have H1 : (some true) = some r:=by rw [if_pos rfl] at H;exact H
   clear H
   have H:=H1
   clear H1
   obtain rfl:=Option.some.inj H
   go_enter Try.func92,Try.ntmps92
   go_wp2_with (first|((with_reducible refine gate_dst (N:=2) rfl ?_);refine bxE (N:=2) (cs:=#[.int .i64 a0_0,.int .i64 a0_1,.int .i64 a0_2,.int .i64 a0_3]) (t:=100) ?_;intro gb485 hg w7 hbox hb;have n0_:=aMk (bSt hb);have n1_:=aMk (hbox);have n2_:=aMk ((by rw [hg];exact bSz : w.heap.size ≤ gb485));have n3_:=aMk ((by rw [hg];exact bSz : w.heap.size ≤ gb485));clear HB;have HB:=n0_;have BK485:=n1_;have GW485:=n2_;have GE485:=n3_;clear n0_ n1_ n2_ n3_;clear hb hbox hg)|((with_reducible refine gate_dst (N:=3) rfl ?_);refine bxE (N:=3) (cs:=#[.int .i64 a1_0,.int .i64 a1_1,.int .i64 a1_2,.int .i64 a1_3]) (t:=100) ?_;intro gb486 hg w8 hbox hb;have n0_:=aMk (bkB BK485.out hb);have n1_:=aMk (below_step (by repeat (first|(with_reducible first|exact HB.out|apply bwA|apply bwN|apply bw1|refine below_set ?_ GE485.out)|exact HB.out)) hb);have n2_:=aMk (hbox);have n3_:=aMk ((by rw [hg];exact (below_size (by repeat (first|(with_reducible first|exact HB.out|apply bwA|apply bwN|apply bw1|refine below_set ?_ GE485.out)|exact HB.out))) : w.heap.size ≤ gb486));have n4_:=aMk ((by rw [hg];exact (below_size (by repeat (first|(with_reducible first|exact HB.out|apply bwA|apply bwN|apply bw1|refine below_set ?_ GE485.out)|exact HB.out))) : w.heap.size ≤ gb486));have n5_:=aMk ((bkL BK485.out hg : gb485 ≠ gb486));have n6_:=aMk ((bkG BK485.out hg : gb486 ≠ gb485));clear BK485;clear HB;have BK485:=n0_;have HB:=n1_;have BK486:=n2_;have GW486:=n3_;have GE486:=n4_;have NB485_486:=n5_;have NB486_485:=n6_;clear n0_ n1_ n2_ n3_ n4_ n5_ n6_;clear hb hbox hg;have hnb9:=NB485_486.out;have hnc9:=NB486_485.out;obtain ⟨hcz10_0,hcz10_1,hcz10_2,hcz10_3,hfz10_0,hfz10_1,hfz10_2,hfz10_3⟩:=bC4 BK485.out;obtain ⟨hcz11_0,hcz11_1,hcz11_2,hcz11_3,hfz11_0,hfz11_1,hfz11_2,hfz11_3⟩:=bC4 BK486.out)|((with_reducible refine gate_callee (f:=52) rfl ?_);refine gLs 9 Try.func52 #[.agg #[.int .i64 a0_0,.int .i64 a0_1],.agg #[.int .i64 a1_0,.int .i64 a1_1]] ?_;(with_reducible refine (laws_eqNet.calls a0_0 a0_1 a1_0 a1_1 true _ A3.out).mono ?_);rintro e w12 ⟨rfl,hb⟩;refine ⟨_,rfl,?_⟩;have n0_:=aMk (bkB BK485.out hb);have n1_:=aMk (bkB BK486.out hb);have n2_:=aMk (below_step (by repeat (first|(with_reducible first|exact HB.out|apply bwA|apply bwN|apply bw1|refine below_set ?_ GE485.out|refine below_set ?_ GE486.out)|exact HB.out)) hb);clear BK485;clear BK486;clear HB;have BK485:=n0_;have BK486:=n1_;have HB:=n2_;clear n0_ n1_ n2_;(try clear hb);(try clear hb2);(try clear hk);(try clear hi);obtain ⟨hcz13_0,hcz13_1,hcz13_2,hcz13_3,hfz13_0,hfz13_1,hfz13_2,hfz13_3⟩:=bC4 BK485.out;obtain ⟨hcz14_0,hcz14_1,hcz14_2,hcz14_3,hfz14_0,hfz14_1,hfz14_2,hfz14_3⟩:=bC4 BK486.out)|((with_reducible refine gate_callee (f:=98) rfl ?_);refine gLs 15 Try.func98 #[.agg #[.int .i64 a0_2,.int .i64 a0_3],.agg #[.int .i64 a1_2,.int .i64 a1_3]] ?_;(with_reducible refine (laws_eqRange.calls a0_2 a0_3 a1_2 a1_3 true _ A5.out).mono ?_);rintro e w15 ⟨rfl,hb⟩;refine ⟨_,rfl,?_⟩;have n0_:=aMk (bkB BK485.out hb);have n1_:=aMk (bkB BK486.out hb);have n2_:=aMk (below_step (by repeat (first|(with_reducible first|exact HB.out|apply bwA|apply bwN|apply bw1|refine below_set ?_ GE485.out|refine below_set ?_ GE486.out)|exact HB.out)) hb);clear BK485;clear BK486;clear HB;have BK485:=n0_;have BK486:=n1_;have HB:=n2_;clear n0_ n1_ n2_;(try clear hb);(try clear hb2);(try clear hk);(try clear hi)))
   go_ret
   exact ⟨eRf,by repeat (first|(with_reducible first|exact HB.out|apply bwA|apply bwN|apply bw1|refine below_set ?_ GE485.out|refine below_set ?_ GE486.out)|exact HB.out)⟩
  ·replace c6:=Bool.eq_false_iff.mpr c6
   subst c6
   have H1 : (some false) = some r:=by rw [if_neg (show ¬ (false = true) by decide)] at H;exact H
   clear H
   have H:=H1
   clear H1
   obtain rfl:=Option.some.inj H
   go_enter Try.func92,Try.ntmps92
   go_wp2_with (first|((with_reducible refine gate_dst (N:=2) rfl ?_);refine bxE (N:=2) (cs:=#[.int .i64 a0_0,.int .i64 a0_1,.int .i64 a0_2,.int .i64 a0_3]) (t:=100) ?_;intro gb485 hg w16 hbox hb;have n0_:=aMk (bSt hb);have n1_:=aMk (hbox);have n2_:=aMk ((by rw [hg];exact bSz : w.heap.size ≤ gb485));have n3_:=aMk ((by rw [hg];exact bSz : w.heap.size ≤ gb485));clear HB;have HB:=n0_;have BK485:=n1_;have GW485:=n2_;have GE485:=n3_;clear n0_ n1_ n2_ n3_;clear hb hbox hg)|((with_reducible refine gate_dst (N:=3) rfl ?_);refine bxE (N:=3) (cs:=#[.int .i64 a1_0,.int .i64 a1_1,.int .i64 a1_2,.int .i64 a1_3]) (t:=100) ?_;intro gb486 hg w17 hbox hb;have n0_:=aMk (bkB BK485.out hb);have n1_:=aMk (below_step (by repeat (first|(with_reducible first|exact HB.out|apply bwA|apply bwN|apply bw1|refine below_set ?_ GE485.out)|exact HB.out)) hb);have n2_:=aMk (hbox);have n3_:=aMk ((by rw [hg];exact (below_size (by repeat (first|(with_reducible first|exact HB.out|apply bwA|apply bwN|apply bw1|refine below_set ?_ GE485.out)|exact HB.out))) : w.heap.size ≤ gb486));have n4_:=aMk ((by rw [hg];exact (below_size (by repeat (first|(with_reducible first|exact HB.out|apply bwA|apply bwN|apply bw1|refine below_set ?_ GE485.out)|exact HB.out))) : w.heap.size ≤ gb486));have n5_:=aMk ((bkL BK485.out hg : gb485 ≠ gb486));have n6_:=aMk ((bkG BK485.out hg : gb486 ≠ gb485));clear BK485;clear HB;have BK485:=n0_;have HB:=n1_;have BK486:=n2_;have GW486:=n3_;have GE486:=n4_;have NB485_486:=n5_;have NB486_485:=n6_;clear n0_ n1_ n2_ n3_ n4_ n5_ n6_;clear hb hbox hg;have hnb18:=NB485_486.out;have hnc18:=NB486_485.out;obtain ⟨hcz19_0,hcz19_1,hcz19_2,hcz19_3,hfz19_0,hfz19_1,hfz19_2,hfz19_3⟩:=bC4 BK485.out;obtain ⟨hcz20_0,hcz20_1,hcz20_2,hcz20_3,hfz20_0,hfz20_1,hfz20_2,hfz20_3⟩:=bC4 BK486.out)|((with_reducible refine gate_callee (f:=52) rfl ?_);refine gLs 9 Try.func52 #[.agg #[.int .i64 a0_0,.int .i64 a0_1],.agg #[.int .i64 a1_0,.int .i64 a1_1]] ?_;(with_reducible refine (laws_eqNet.calls a0_0 a0_1 a1_0 a1_1 true _ A3.out).mono ?_);rintro e w21 ⟨rfl,hb⟩;refine ⟨_,rfl,?_⟩;have n0_:=aMk (bkB BK485.out hb);have n1_:=aMk (bkB BK486.out hb);have n2_:=aMk (below_step (by repeat (first|(with_reducible first|exact HB.out|apply bwA|apply bwN|apply bw1|refine below_set ?_ GE485.out|refine below_set ?_ GE486.out)|exact HB.out)) hb);clear BK485;clear BK486;clear HB;have BK485:=n0_;have BK486:=n1_;have HB:=n2_;clear n0_ n1_ n2_;(try clear hb);(try clear hb2);(try clear hk);(try clear hi);obtain ⟨hcz22_0,hcz22_1,hcz22_2,hcz22_3,hfz22_0,hfz22_1,hfz22_2,hfz22_3⟩:=bC4 BK485.out;obtain ⟨hcz23_0,hcz23_1,hcz23_2,hcz23_3,hfz23_0,hfz23_1,hfz23_2,hfz23_3⟩:=bC4 BK486.out)|((with_reducible refine gate_callee (f:=98) rfl ?_);refine gLs 15 Try.func98 #[.agg #[.int .i64 a0_2,.int .i64 a0_3],.agg #[.int .i64 a1_2,.int .i64 a1_3]] ?_;(with_reducible refine (laws_eqRange.calls a0_2 a0_3 a1_2 a1_3 false _ A5.out).mono ?_);rintro e w24 ⟨rfl,hb⟩;refine ⟨_,rfl,?_⟩;have n0_:=aMk (bkB BK485.out hb);have n1_:=aMk (bkB BK486.out hb);have n2_:=aMk (below_step (by repeat (first|(with_reducible first|exact HB.out|apply bwA|apply bwN|apply bw1|refine below_set ?_ GE485.out|refine below_set ?_ GE486.out)|exact HB.out)) hb);clear BK485;clear BK486;clear HB;have BK485:=n0_;have BK486:=n1_;have HB:=n2_;clear n0_ n1_ n2_;(try clear hb);(try clear hb2);(try clear hk);(try clear hi)))
   go_ret
   exact ⟨eRf,by repeat (first|(with_reducible first|exact HB.out|apply bwA|apply bwN|apply bw1|refine below_set ?_ GE485.out|refine below_set ?_ GE486.out)|exact HB.out)⟩
 ·replace c4:=Bool.eq_false_iff.mpr c4
  subst c4
  have H1 : (some false) = some r:=by rw [if_neg (show ¬ (false = true) by decide)] at H;exact H
  clear H
  have H:=H1
  clear H1
  obtain rfl:=Option.some.inj H
  go_enter Try.func92,Try.ntmps92
  go_wp2_with (first|((with_reducible refine gate_dst (N:=2) rfl ?_);refine bxE (N:=2) (cs:=#[.int .i64 a0_0,.int .i64 a0_1,.int .i64 a0_2,.int .i64 a0_3]) (t:=100) ?_;intro gb485 hg w25 hbox hb;have n0_:=aMk (bSt hb);have n1_:=aMk (hbox);have n2_:=aMk ((by rw [hg];exact bSz : w.heap.size ≤ gb485));have n3_:=aMk ((by rw [hg];exact bSz : w.heap.size ≤ gb485));clear HB;have HB:=n0_;have BK485:=n1_;have GW485:=n2_;have GE485:=n3_;clear n0_ n1_ n2_ n3_;clear hb hbox hg)|((with_reducible refine gate_dst (N:=3) rfl ?_);refine bxE (N:=3) (cs:=#[.int .i64 a1_0,.int .i64 a1_1,.int .i64 a1_2,.int .i64 a1_3]) (t:=100) ?_;intro gb486 hg w26 hbox hb;have n0_:=aMk (bkB BK485.out hb);have n1_:=aMk (below_step (by repeat (first|(with_reducible first|exact HB.out|apply bwA|apply bwN|apply bw1|refine below_set ?_ GE485.out)|exact HB.out)) hb);have n2_:=aMk (hbox);have n3_:=aMk ((by rw [hg];exact (below_size (by repeat (first|(with_reducible first|exact HB.out|apply bwA|apply bwN|apply bw1|refine below_set ?_ GE485.out)|exact HB.out))) : w.heap.size ≤ gb486));have n4_:=aMk ((by rw [hg];exact (below_size (by repeat (first|(with_reducible first|exact HB.out|apply bwA|apply bwN|apply bw1|refine below_set ?_ GE485.out)|exact HB.out))) : w.heap.size ≤ gb486));have n5_:=aMk ((bkL BK485.out hg : gb485 ≠ gb486));have n6_:=aMk ((bkG BK485.out hg : gb486 ≠ gb485));clear BK485;clear HB;have BK485:=n0_;have HB:=n1_;have BK486:=n2_;have GW486:=n3_;have GE486:=n4_;have NB485_486:=n5_;have NB486_485:=n6_;clear n0_ n1_ n2_ n3_ n4_ n5_ n6_;clear hb hbox hg;have hnb27:=NB485_486.out;have hnc27:=NB486_485.out;obtain ⟨hcz28_0,hcz28_1,hcz28_2,hcz28_3,hfz28_0,hfz28_1,hfz28_2,hfz28_3⟩:=bC4 BK485.out;obtain ⟨hcz29_0,hcz29_1,hcz29_2,hcz29_3,hfz29_0,hfz29_1,hfz29_2,hfz29_3⟩:=bC4 BK486.out)|((with_reducible refine gate_callee (f:=52) rfl ?_);refine gLs 9 Try.func52 #[.agg #[.int .i64 a0_0,.int .i64 a0_1],.agg #[.int .i64 a1_0,.int .i64 a1_1]] ?_;(with_reducible refine (laws_eqNet.calls a0_0 a0_1 a1_0 a1_1 false _ A3.out).mono ?_);rintro e w30 ⟨rfl,hb⟩;refine ⟨_,rfl,?_⟩;have n0_:=aMk (bkB BK485.out hb);have n1_:=aMk (bkB BK486.out hb);have n2_:=aMk (below_step (by repeat (first|(with_reducible first|exact HB.out|apply bwA|apply bwN|apply bw1|refine below_set ?_ GE485.out|refine below_set ?_ GE486.out)|exact HB.out)) hb);clear BK485;clear BK486;clear HB;have BK485:=n0_;have BK486:=n1_;have HB:=n2_;clear n0_ n1_ n2_;(try clear hb);(try clear hb2);(try clear hk);(try clear hi)))
  go_ret
  exact ⟨eRf,by repeat (first|(with_reducible first|exact HB.out|apply bwA|apply bwN|apply bw1|refine below_set ?_ GE485.out|refine below_set ?_ GE486.out)|exact HB.out)⟩
end
section
/-! ### laws_eqPlaceS: function 76 -/
def laws_eqPlaceS.l0 : Nat → List (S100) → List (S100) → Int → Option (Bool)
 | 0,_,_,_ => none
 | k + 1,x0,x1,x5 => if x5 < (x0.length : Int) then (if 0 ≤ x5 then (if x5 < (x1.length : Int) then ((laws_eqPlace.f ((rd_T100 x0 x5).f0.f0) ((rd_T100 x0 x5).f0.f1) ((rd_T100 x0 x5).f1.f0) ((rd_T100 x0 x5).f1.f1) ((rd_T100 x1 x5).f0.f0) ((rd_T100 x1 x5).f0.f1) ((rd_T100 x1 x5).f1.f0) ((rd_T100 x1 x5).f1.f1)).bind fun t491 => (if t491 = true then (laws_eqPlaceS.l0 k x0 x1 (wrap64 (x5 + 1))) else (some false))) else (none)) else (none)) else (some true)
def laws_eqPlaceS.f (k : Nat) (l0 : List (S100)) (l1 : List (S100)) : Option (Bool):=if (l0.length : Int) = (l1.length : Int) then (laws_eqPlaceS.l0 k l0 l1 0) else (some false)
theorem laws_eqPlaceS.mono_l : ∀ k,(∀ y0 y1 y2,LeO (laws_eqPlaceS.l0 k y0 y1 y2) (laws_eqPlaceS.l0 (k + 1) y0 y1 y2))
 | 0 => fun _ _ _ r h => by simp [laws_eqPlaceS.l0] at h
 | k + 1 => by
  have ih0:=laws_eqPlaceS.mono_l k
  ·intro y0 y1 y2
   unfold laws_eqPlaceS.l0
   repeat' first
   | (with_reducible exact ih0 _ _ _)
   | (with_reducible exact LeO.refl _)
   | (with_reducible exact LeO.none _)
   | (with_reducible refine LeO.ite ?_ ?_)
   | (with_reducible refine LeO.bind ?_ (fun _ => ?_))
   | exact ih0 _ _ _
   | exact LeO.none _
   | refine LeO.ite ?_ ?_
   | refine LeO.bind ?_ (fun _ => ?_)
theorem laws_eqPlaceS.mono : ∀ a0 a1 k,LeO (laws_eqPlaceS.f k a0 a1) (laws_eqPlaceS.f (k + 1) a0 a1):=by
 intro a0 a1 k
 have ih0:=laws_eqPlaceS.mono_l k
 unfold laws_eqPlaceS.f
 repeat' first
   | (with_reducible exact ih0 _ _ _)
   | (with_reducible exact LeO.refl _)
   | (with_reducible exact LeO.none _)
   | (with_reducible refine LeO.ite ?_ ?_)
   | (with_reducible refine LeO.bind ?_ (fun _ => ?_))
   | exact ih0 _ _ _
   | exact LeO.none _
   | refine LeO.ite ?_ ?_
   | refine LeO.bind ?_ (fun _ => ?_)
def laws_eqPlaceS.T6 : Bool × List (List Nat × List Nat):=(true,[([],[]),([],[]),([0,1],[0,1]),([2],[2]),([],[]),([],[]),([4,5],[4,5]),([6],[6]),([3,7],[3,7]),([8],[8])])
def laws_eqPlaceS.B6 : List Nat:=[0,0,3,7,0,0,48,112,255,511]
theorem laws_eqPlaceS.tab6 : rtab .any (opsOf Try.f76 6) = laws_eqPlaceS.T6:=by kernel_rfl
theorem laws_eqPlaceS.bits6 : waitsOk laws_eqPlaceS.T6.2 laws_eqPlaceS.B6 = true:=by kernel_rfl
set_option maxHeartbeats 8000000 in
set_option maxRecDepth 100000 in
theorem laws_eqPlaceS.calls (k : Nat) (A0 : Option Addr) (c0 : Nat) (l0 : List (S100)) (A1 : Option Addr) (c1 : Nat) (l1 : List (S100)) (r : Bool) (w : World) (hr0 : Kd.C k100 w A0 l0.length l0) (hc0 : l0.length ≤ c0) (hr1 : Kd.C k100 w A1 l1.length l1) (hc1 : l1.length ≤ c1) (h : laws_eqPlaceS.f k l0 l1 = some r) :
  Calls Try.prog 76 #[.slice A0 l0.length c0,.slice A1 l1.length c1] w fun e w' => e = .returned (.bool r) ∧ Below w.heap.size w w':=by
 have hu100:=Try.underlying100
 have HR0:=aMk hr0
 have HC0:=aMk hc0
 clear hr0 hc0
 have HR1:=aMk hr1
 have HC1:=aMk hc1
 clear hr1 hc1
 have HB:=aMk (Below.refl w.heap.size w)
 have H : (if (l0.length : Int) = (l1.length : Int) then (laws_eqPlaceS.l0 k l0 l1 0) else (some false)) = some r:=h
 clear h
 by_cases c3 : (l0.length : Int) = (l1.length : Int)
 ·rw [if_pos c3] at H
  have c3b0 : ((l0.length : Int) == (l1.length : Int)) = true:=beq_iff_eq.mpr c3
  have c3b1 : ((l0.length : Int) != (l1.length : Int)) = false:=bne_eq_false_iff_eq.mpr c3
  have c3b2 : (l0.length == l1.length) = true:=by first | simpa using c3|(simp at c3 ⊢;omega)
  clear c3
  have H':=aMk H
  clear H
  go_enter Try.func76,Try.ntmps76
  go_wp2
  go_loopg [5] k (fun kq v5 w' => ∃ (x5_1 : Int),v5 = .int .i64 x5_1 ∧ Aside0 (laws_eqPlaceS.l0 kq l0 l1 x5_1 = some r) ∧ Aside0 (kq ≤ k) ∧ Aside0 (Below w.heap.size w w'))
  case atStart => exact ⟨(0),(by first | rfl|(simp;done)|(simp [*];done)|(simp [ne_nil_b];done)|(simp [ne_nil_b, *];done)),H',⟨Nat.le_refl _⟩,⟨by repeat (first|(with_reducible first|exact HB.out|apply bwA|apply bwN|apply bw1)|exact HB.out)⟩⟩
  case round =>
   clear H'
   try clear c1
   try clear p2
   try clear c3
   try clear c3b0
   try clear c3b1
   try clear c3b2
   obtain ⟨x5_1,rfl,HA,HK1,HB⟩:=hrel
   cases gk with
   | zero => exact absurd HA.out (by simp [laws_eqPlaceS.l0])
   | succ k1 =>
    have H:=HA.out
    clear HA
    simp only [laws_eqPlaceS.l0] at H
    by_cases c4 : x5_1 < (l0.length : Int)
    ·rw [if_pos c4] at H
     have c4b0 : decide (x5_1 < (l0.length : Int)) = true:=decide_eq_true c4
     clear c4
     by_cases c5 : 0 ≤ x5_1
     ·rw [if_pos c5] at H
      have c5b0 : decide (0 ≤ x5_1) = true:=decide_eq_true c5
      clear c5
      by_cases c6 : x5_1 < (l1.length : Int)
      ·rw [if_pos c6] at H
       have c6b0 : decide (x5_1 < (l1.length : Int)) = true:=decide_eq_true c6
       clear c6
       replace H:=Option.bind_eq_some_iff.mp H
       obtain ⟨t491,A70,H⟩:=H
       replace H : (if t491 = true then (laws_eqPlaceS.l0 k1 l0 l1 (wrap64 (x5_1 + 1))) else (some false)) = some r:=H
       have A7:=aMk A70
       clear A70
       by_cases c8 : t491 = true
       ·subst c8
        have H1 : (laws_eqPlaceS.l0 k1 l0 l1 (wrap64 (x5_1 + 1))) = some r:=by rw [if_pos rfl] at H;exact H
        clear H
        have H:=H1
        clear H1
        have H':=aMk H
        clear H
        try go_wp2
        have n0_:=aMk (bw1 HB.out)
        clear HB
        have HB:=n0_
        clear n0_
        have p489 : 0 ≤ (x5_1 : Int):=of_decide_eq_true (by first|(with_reducible assumption) | assumption)
        have q489 : x5_1 < (l0.length : Int):=of_decide_eq_true (by first|(with_reducible assumption) | assumption)
        obtain ⟨ad489,e489,hx489_0,hx489_1,hx489_2,hx489_3⟩:=at_T100 HR0.out x5_1 p489 q489
        have hw489_3:=hx489_3
        have hw489_2:=hx489_2
        have hw489_1:=hx489_1
        have hw489_0:=hx489_0
        cases e489
        replace hx489_0:=bXc HB.out hx489_0
        replace hx489_1:=bXc HB.out hx489_1
        replace hx489_2:=bXc HB.out hx489_2
        replace hx489_3:=bXc HB.out hx489_3
        replace p489:=eq_true p489
        replace q489:=eq_true q489
        have p490 : 0 ≤ (x5_1 : Int):=of_decide_eq_true (by first|(with_reducible assumption) | assumption)
        have q490 : x5_1 < (l1.length : Int):=of_decide_eq_true (by first|(with_reducible assumption) | assumption)
        obtain ⟨ad490,e490,hx490_0,hx490_1,hx490_2,hx490_3⟩:=at_T100 HR1.out x5_1 p490 q490
        have hw490_3:=hx490_3
        have hw490_2:=hx490_2
        have hw490_1:=hx490_1
        have hw490_0:=hx490_0
        cases e490
        replace hx490_0:=bXc HB.out hx490_0
        replace hx490_1:=bXc HB.out hx490_1
        replace hx490_2:=bXc HB.out hx490_2
        replace hx490_3:=bXc HB.out hx490_3
        replace p490:=eq_true p490
        replace q490:=eq_true q490
        refine start_ (n:=10) (S:=fun w' => w'.cell? (ad489.add ((x5_1).toNat * 4)) = some (.int .i64 ((rd_T100 l0 x5_1).f0.f0)) ∧ w'.cell? ⟨(ad489.add ((x5_1).toNat * 4)).block,(ad489.add ((x5_1).toNat * 4)).off + 1,none⟩ = some (.int .i64 ((rd_T100 l0 x5_1).f0.f1)) ∧ w'.cell? ⟨(ad489.add ((x5_1).toNat * 4)).block,(ad489.add ((x5_1).toNat * 4)).off + 2,none⟩ = some (.int .i64 ((rd_T100 l0 x5_1).f1.f0)) ∧ w'.cell? ⟨(ad489.add ((x5_1).toNat * 4)).block,(ad489.add ((x5_1).toNat * 4)).off + 3,none⟩ = some (.int .i64 ((rd_T100 l0 x5_1).f1.f1)) ∧ w'.cell? (ad490.add ((x5_1).toNat * 4)) = some (.int .i64 ((rd_T100 l1 x5_1).f0.f0)) ∧ w'.cell? ⟨(ad490.add ((x5_1).toNat * 4)).block,(ad490.add ((x5_1).toNat * 4)).off + 1,none⟩ = some (.int .i64 ((rd_T100 l1 x5_1).f0.f1)) ∧ w'.cell? ⟨(ad490.add ((x5_1).toNat * 4)).block,(ad490.add ((x5_1).toNat * 4)).off + 2,none⟩ = some (.int .i64 ((rd_T100 l1 x5_1).f1.f0)) ∧ w'.cell? ⟨(ad490.add ((x5_1).toNat * 4)).block,(ad490.add ((x5_1).toNat * 4)).off + 3,none⟩ = some (.int .i64 ((rd_T100 l1 x5_1).f1.f1))) (ds:=[]) #[false,false,false,false,false,false,false,false,false,false] (by kernel_rfl) rfl rfl ⟨((HB.out.cell (wLt w _ hw489_0)).trans hw489_0),((HB.out.cell (wLt w _ hw489_1)).trans hw489_1),((HB.out.cell (wLt w _ hw489_2)).trans hw489_2),((HB.out.cell (wLt w _ hw489_3)).trans hw489_3),((HB.out.cell (wLt w _ hw490_0)).trans hw490_0),((HB.out.cell (wLt w _ hw490_1)).trans hw490_1),((HB.out.cell (wLt w _ hw490_2)).trans hw490_2),((HB.out.cell (wLt w _ hw490_3)).trans hw490_3)⟩ (fun hHeld => ?_);refine with_tabW laws_eqPlaceS.tab6 laws_eqPlaceS.bits6 (fun HT_ HW_ => ?_)
        generalize wr.drew = w9 at HB hx489_0 hx489_1 hx489_2 hx489_3 hx490_0 hx490_1 hx490_2 hx490_3 hHeld ⊢
        refine pure_ (i:=0) (N:=some 17) (v:=?_) (a':=?_) #[true,false,false,false,false,false,false,false,false,false] rfl rfl (any_of HT_.out (by kernel_rfl)) (fun _ _ _ h => h) (Or.inl ⟨by rfl,?_⟩) ?_ ?_
        rotate_left
        ·intro w'
         go_simp
         with_reducible rfl
        rotate_left
        ·simp only [Act.put,List.setIfInBounds_toArray,List.set_cons_zero,List.set_cons_succ,i64_w,i32_w]
         rfl
        refine pure_ (i:=1) (N:=some 18) (v:=?_) (a':=?_) #[true,true,false,false,false,false,false,false,false,false] rfl rfl (any_of HT_.out (by kernel_rfl)) (fun _ _ _ h => h) (Or.inl ⟨by rfl,?_⟩) ?_ ?_
        rotate_left
        ·intro w'
         go_simp
         with_reducible rfl
        rotate_left
        ·simp only [Act.put,List.setIfInBounds_toArray,List.set_cons_zero,List.set_cons_succ,i64_w,i32_w]
         rfl
        refine pure_ (i:=2) (N:=some 19) (v:=?_) (a':=?_) #[true,true,true,false,false,false,false,false,false,false] rfl rfl (any_of HT_.out (by kernel_rfl)) (fun _ _ _ h => h) (Or.inl ⟨by rfl,?_⟩) ?_ ?_
        rotate_left
        ·intro w'
         go_simp
         with_reducible rfl
        rotate_left
        ·simp only [Act.put,List.setIfInBounds_toArray,List.set_cons_zero,List.set_cons_succ,i64_w,i32_w]
         rfl
        refine pure_ (i:=4) (N:=some 21) (v:=?_) (a':=?_) #[true,true,true,false,true,false,false,false,false,false] rfl rfl (any_of HT_.out (by kernel_rfl)) (fun _ _ _ h => h) (Or.inl ⟨by rfl,?_⟩) ?_ ?_
        rotate_left
        ·intro w'
         go_simp
         with_reducible rfl
        rotate_left
        ·simp only [Act.put,List.setIfInBounds_toArray,List.set_cons_zero,List.set_cons_succ,i64_w,i32_w]
         rfl
        refine pure_ (i:=5) (N:=some 22) (v:=?_) (a':=?_) #[true,true,true,false,true,true,false,false,false,false] rfl rfl (any_of HT_.out (by kernel_rfl)) (fun _ _ _ h => h) (Or.inl ⟨by rfl,?_⟩) ?_ ?_
        rotate_left
        ·intro w'
         go_simp
         with_reducible rfl
        rotate_left
        ·simp only [Act.put,List.setIfInBounds_toArray,List.set_cons_zero,List.set_cons_succ,i64_w,i32_w]
         rfl
        refine pure_ (i:=6) (N:=some 23) (v:=?_) (a':=?_) #[true,true,true,false,true,true,true,false,false,false] rfl rfl (any_of HT_.out (by kernel_rfl)) (fun _ _ _ h => h) (Or.inl ⟨by rfl,?_⟩) ?_ ?_
        rotate_left
        ·intro w'
         go_simp
         with_reducible rfl
        rotate_left
        ·simp only [Act.put,List.setIfInBounds_toArray,List.set_cons_zero,List.set_cons_succ,i64_w,i32_w]
         rfl
        refine take_ (i:=3) (N:=some 20) (v:=?_) (a':=?_) #[true,true,true,true,true,true,true,false,false,false] rfl rfl (take_ofW HT_.out HW_.out (by kernel_rfl)) (fun _ _ _ h => h) (Or.inl ⟨by rfl,?_⟩) hHeld ?_ ?_
        rotate_left
        ·rintro w' ⟨s0,s1,s2,s3,s4,s5,s6,s7⟩
         go_simp
         with_reducible rfl
        rotate_left
        ·simp only [Act.put,List.setIfInBounds_toArray,List.set_cons_zero,List.set_cons_succ,i64_w,i32_w]
         rfl
        refine take_ (i:=7) (N:=some 24) (v:=?_) (a':=?_) #[true,true,true,true,true,true,true,true,false,false] rfl rfl (take_ofW HT_.out HW_.out (by kernel_rfl)) (fun _ _ _ h => h) (Or.inl ⟨by rfl,?_⟩) hHeld ?_ ?_
        rotate_left
        ·rintro w' ⟨s0,s1,s2,s3,s4,s5,s6,s7⟩
         go_simp
         with_reducible rfl
        rotate_left
        ·simp only [Act.put,List.setIfInBounds_toArray,List.set_cons_zero,List.set_cons_succ,i64_w,i32_w]
         rfl
        refine one_ (i:=8) (N:=some 25) #[true,true,true,true,true,true,true,true,true,false] rfl rfl (one_of HT_.out (by kernel_rfl)) (by decide) (fun K hK => ?_)
        refine goes_ Try.func92 (by kernel_rfl) rfl #[.agg #[.int .i64 ((rd_T100 l0 x5_1).f0.f0),.int .i64 ((rd_T100 l0 x5_1).f0.f1),.int .i64 ((rd_T100 l0 x5_1).f1.f0),.int .i64 ((rd_T100 l0 x5_1).f1.f1)],.agg #[.int .i64 ((rd_T100 l1 x5_1).f0.f0),.int .i64 ((rd_T100 l1 x5_1).f0.f1),.int .i64 ((rd_T100 l1 x5_1).f1.f0),.int .i64 ((rd_T100 l1 x5_1).f1.f1)]] (by rfl) rfl rfl (by (try simp only [List.map_toArray,List.map_cons,List.map_nil]);first | done | rfl|(simp only [List.length_drop,List.length_take];rfl)) ?_
        with_reducible refine (laws_eqPlace.calls ((rd_T100 l0 x5_1).f0.f0) ((rd_T100 l0 x5_1).f0.f1) ((rd_T100 l0 x5_1).f1.f0) ((rd_T100 l0 x5_1).f1.f1) ((rd_T100 l1 x5_1).f0.f0) ((rd_T100 l1 x5_1).f0.f1) ((rd_T100 l1 x5_1).f1.f0) ((rd_T100 l1 x5_1).f1.f1) true _ A7.out).mono ?_
        rintro e w10 ⟨rfl,hb⟩
        refine ⟨_,rfl,?_⟩
        have n0_:=aMk (bSt hb)
        clear HB
        have HB:=n0_
        clear n0_
        (try clear hb)
        (try clear hb2)
        (try clear hk)
        (try clear hi)
        refine hK.out _ _ ⟨((HB.out.cell (wLt w _ hw489_0)).trans hw489_0),((HB.out.cell (wLt w _ hw489_1)).trans hw489_1),((HB.out.cell (wLt w _ hw489_2)).trans hw489_2),((HB.out.cell (wLt w _ hw489_3)).trans hw489_3),((HB.out.cell (wLt w _ hw490_0)).trans hw490_0),((HB.out.cell (wLt w _ hw490_1)).trans hw490_1),((HB.out.cell (wLt w _ hw490_2)).trans hw490_2),((HB.out.cell (wLt w _ hw490_3)).trans hw490_3)⟩ (fun hHeld => ?_)
        clear hK K
        refine norm_ (a':=?_) ?_ ?_
        rotate_left
        ·show Act.put _ (some 25) _ = _
         simp only [Act.put,List.setIfInBounds_toArray,List.set_cons_zero,List.set_cons_succ,i64_w,i32_w]
         rfl
        refine pure_ (i:=9) (N:=some 26) (v:=?_) (a':=?_) #[true,true,true,true,true,true,true,true,true,true] rfl rfl (any_of HT_.out (by kernel_rfl)) (fun _ _ _ h => h) (Or.inl ⟨by rfl,?_⟩) ?_ ?_
        rotate_left
        ·intro w'
         go_simp
         with_reducible rfl
        rotate_left
        ·simp only [Act.put,List.setIfInBounds_toArray,List.set_cons_zero,List.set_cons_succ,i64_w,i32_w]
         rfl
        refine done_ (done_of HT_.out (by kernel_rfl)) ?_
        try go_wp2
        go_roundg k1
        case measure => have:=HK1.out;omega
        case rel => exact ⟨(wrap64 (x5_1 + 1)),(by first | rfl|(simp;done)|(simp [*];done)|(simp [ne_nil_b];done)|(simp [ne_nil_b, *];done)),H',⟨by have:=HK1.out;omega⟩,⟨by repeat (first|(with_reducible first|exact HB.out|apply bwA|apply bwN|apply bw1)|exact HB.out)⟩⟩
       ·replace c8:=Bool.eq_false_iff.mpr c8
        subst c8
        have H1 : (some false) = some r:=by rw [if_neg (show ¬ (false = true) by decide)] at H;exact H
        clear H
        have H:=H1
        clear H1
        obtain rfl:=Option.some.inj H
        try go_wp2
        have n0_:=aMk (bw1 HB.out)
        clear HB
        have HB:=n0_
        clear n0_
        have p489 : 0 ≤ (x5_1 : Int):=of_decide_eq_true (by first|(with_reducible assumption) | assumption)
        have q489 : x5_1 < (l0.length : Int):=of_decide_eq_true (by first|(with_reducible assumption) | assumption)
        obtain ⟨ad489,e489,hx489_0,hx489_1,hx489_2,hx489_3⟩:=at_T100 HR0.out x5_1 p489 q489
        have hw489_3:=hx489_3
        have hw489_2:=hx489_2
        have hw489_1:=hx489_1
        have hw489_0:=hx489_0
        cases e489
        replace hx489_0:=bXc HB.out hx489_0
        replace hx489_1:=bXc HB.out hx489_1
        replace hx489_2:=bXc HB.out hx489_2
        replace hx489_3:=bXc HB.out hx489_3
        replace p489:=eq_true p489
        replace q489:=eq_true q489
        have p490 : 0 ≤ (x5_1 : Int):=of_decide_eq_true (by first|(with_reducible assumption) | assumption)
        have q490 : x5_1 < (l1.length : Int):=of_decide_eq_true (by first|(with_reducible assumption) | assumption)
        obtain ⟨ad490,e490,hx490_0,hx490_1,hx490_2,hx490_3⟩:=at_T100 HR1.out x5_1 p490 q490
        have hw490_3:=hx490_3
        have hw490_2:=hx490_2
        have hw490_1:=hx490_1
        have hw490_0:=hx490_0
        cases e490
        replace hx490_0:=bXc HB.out hx490_0
        replace hx490_1:=bXc HB.out hx490_1
        replace hx490_2:=bXc HB.out hx490_2
        replace hx490_3:=bXc HB.out hx490_3
        replace p490:=eq_true p490
        replace q490:=eq_true q490
        refine start_ (n:=10) (S:=fun w' => w'.cell? (ad489.add ((x5_1).toNat * 4)) = some (.int .i64 ((rd_T100 l0 x5_1).f0.f0)) ∧ w'.cell? ⟨(ad489.add ((x5_1).toNat * 4)).block,(ad489.add ((x5_1).toNat * 4)).off + 1,none⟩ = some (.int .i64 ((rd_T100 l0 x5_1).f0.f1)) ∧ w'.cell? ⟨(ad489.add ((x5_1).toNat * 4)).block,(ad489.add ((x5_1).toNat * 4)).off + 2,none⟩ = some (.int .i64 ((rd_T100 l0 x5_1).f1.f0)) ∧ w'.cell? ⟨(ad489.add ((x5_1).toNat * 4)).block,(ad489.add ((x5_1).toNat * 4)).off + 3,none⟩ = some (.int .i64 ((rd_T100 l0 x5_1).f1.f1)) ∧ w'.cell? (ad490.add ((x5_1).toNat * 4)) = some (.int .i64 ((rd_T100 l1 x5_1).f0.f0)) ∧ w'.cell? ⟨(ad490.add ((x5_1).toNat * 4)).block,(ad490.add ((x5_1).toNat * 4)).off + 1,none⟩ = some (.int .i64 ((rd_T100 l1 x5_1).f0.f1)) ∧ w'.cell? ⟨(ad490.add ((x5_1).toNat * 4)).block,(ad490.add ((x5_1).toNat * 4)).off + 2,none⟩ = some (.int .i64 ((rd_T100 l1 x5_1).f1.f0)) ∧ w'.cell? ⟨(ad490.add ((x5_1).toNat * 4)).block,(ad490.add ((x5_1).toNat * 4)).off + 3,none⟩ = some (.int .i64 ((rd_T100 l1 x5_1).f1.f1))) (ds:=[]) #[false,false,false,false,false,false,false,false,false,false] (by kernel_rfl) rfl rfl ⟨((HB.out.cell (wLt w _ hw489_0)).trans hw489_0),((HB.out.cell (wLt w _ hw489_1)).trans hw489_1),((HB.out.cell (wLt w _ hw489_2)).trans hw489_2),((HB.out.cell (wLt w _ hw489_3)).trans hw489_3),((HB.out.cell (wLt w _ hw490_0)).trans hw490_0),((HB.out.cell (wLt w _ hw490_1)).trans hw490_1),((HB.out.cell (wLt w _ hw490_2)).trans hw490_2),((HB.out.cell (wLt w _ hw490_3)).trans hw490_3)⟩ (fun hHeld => ?_);refine with_tabW laws_eqPlaceS.tab6 laws_eqPlaceS.bits6 (fun HT_ HW_ => ?_)
        generalize wr.drew = w11 at HB hx489_0 hx489_1 hx489_2 hx489_3 hx490_0 hx490_1 hx490_2 hx490_3 hHeld ⊢
        refine pure_ (i:=0) (N:=some 17) (v:=?_) (a':=?_) #[true,false,false,false,false,false,false,false,false,false] rfl rfl (any_of HT_.out (by kernel_rfl)) (fun _ _ _ h => h) (Or.inl ⟨by rfl,?_⟩) ?_ ?_
        rotate_left
        ·intro w'
         go_simp
         with_reducible rfl
        rotate_left
        ·simp only [Act.put,List.setIfInBounds_toArray,List.set_cons_zero,List.set_cons_succ,i64_w,i32_w]
         rfl
        refine pure_ (i:=1) (N:=some 18) (v:=?_) (a':=?_) #[true,true,false,false,false,false,false,false,false,false] rfl rfl (any_of HT_.out (by kernel_rfl)) (fun _ _ _ h => h) (Or.inl ⟨by rfl,?_⟩) ?_ ?_
        rotate_left
        ·intro w'
         go_simp
         with_reducible rfl
        rotate_left
        ·simp only [Act.put,List.setIfInBounds_toArray,List.set_cons_zero,List.set_cons_succ,i64_w,i32_w]
         rfl
        refine pure_ (i:=2) (N:=some 19) (v:=?_) (a':=?_) #[true,true,true,false,false,false,false,false,false,false] rfl rfl (any_of HT_.out (by kernel_rfl)) (fun _ _ _ h => h) (Or.inl ⟨by rfl,?_⟩) ?_ ?_
        rotate_left
        ·intro w'
         go_simp
         with_reducible rfl
        rotate_left
        ·simp only [Act.put,List.setIfInBounds_toArray,List.set_cons_zero,List.set_cons_succ,i64_w,i32_w]
         rfl
        refine pure_ (i:=4) (N:=some 21) (v:=?_) (a':=?_) #[true,true,true,false,true,false,false,false,false,false] rfl rfl (any_of HT_.out (by kernel_rfl)) (fun _ _ _ h => h) (Or.inl ⟨by rfl,?_⟩) ?_ ?_
        rotate_left
        ·intro w'
         go_simp
         with_reducible rfl
        rotate_left
        ·simp only [Act.put,List.setIfInBounds_toArray,List.set_cons_zero,List.set_cons_succ,i64_w,i32_w]
         rfl
        refine pure_ (i:=5) (N:=some 22) (v:=?_) (a':=?_) #[true,true,true,false,true,true,false,false,false,false] rfl rfl (any_of HT_.out (by kernel_rfl)) (fun _ _ _ h => h) (Or.inl ⟨by rfl,?_⟩) ?_ ?_
        rotate_left
        ·intro w'
         go_simp
         with_reducible rfl
        rotate_left
        ·simp only [Act.put,List.setIfInBounds_toArray,List.set_cons_zero,List.set_cons_succ,i64_w,i32_w]
         rfl
        refine pure_ (i:=6) (N:=some 23) (v:=?_) (a':=?_) #[true,true,true,false,true,true,true,false,false,false] rfl rfl (any_of HT_.out (by kernel_rfl)) (fun _ _ _ h => h) (Or.inl ⟨by rfl,?_⟩) ?_ ?_
        rotate_left
        ·intro w'
         go_simp
         with_reducible rfl
        rotate_left
        ·simp only [Act.put,List.setIfInBounds_toArray,List.set_cons_zero,List.set_cons_succ,i64_w,i32_w]
         rfl
        refine take_ (i:=3) (N:=some 20) (v:=?_) (a':=?_) #[true,true,true,true,true,true,true,false,false,false] rfl rfl (take_ofW HT_.out HW_.out (by kernel_rfl)) (fun _ _ _ h => h) (Or.inl ⟨by rfl,?_⟩) hHeld ?_ ?_
        rotate_left
        ·rintro w' ⟨s0,s1,s2,s3,s4,s5,s6,s7⟩
         go_simp
         with_reducible rfl
        rotate_left
        ·simp only [Act.put,List.setIfInBounds_toArray,List.set_cons_zero,List.set_cons_succ,i64_w,i32_w]
         rfl
        refine take_ (i:=7) (N:=some 24) (v:=?_) (a':=?_) #[true,true,true,true,true,true,true,true,false,false] rfl rfl (take_ofW HT_.out HW_.out (by kernel_rfl)) (fun _ _ _ h => h) (Or.inl ⟨by rfl,?_⟩) hHeld ?_ ?_
        rotate_left
        ·rintro w' ⟨s0,s1,s2,s3,s4,s5,s6,s7⟩
         go_simp
         with_reducible rfl
        rotate_left
        ·simp only [Act.put,List.setIfInBounds_toArray,List.set_cons_zero,List.set_cons_succ,i64_w,i32_w]
         rfl
        refine one_ (i:=8) (N:=some 25) #[true,true,true,true,true,true,true,true,true,false] rfl rfl (one_of HT_.out (by kernel_rfl)) (by decide) (fun K hK => ?_)
        refine goes_ Try.func92 (by kernel_rfl) rfl #[.agg #[.int .i64 ((rd_T100 l0 x5_1).f0.f0),.int .i64 ((rd_T100 l0 x5_1).f0.f1),.int .i64 ((rd_T100 l0 x5_1).f1.f0),.int .i64 ((rd_T100 l0 x5_1).f1.f1)],.agg #[.int .i64 ((rd_T100 l1 x5_1).f0.f0),.int .i64 ((rd_T100 l1 x5_1).f0.f1),.int .i64 ((rd_T100 l1 x5_1).f1.f0),.int .i64 ((rd_T100 l1 x5_1).f1.f1)]] (by rfl) rfl rfl (by (try simp only [List.map_toArray,List.map_cons,List.map_nil]);first | done | rfl|(simp only [List.length_drop,List.length_take];rfl)) ?_
        with_reducible refine (laws_eqPlace.calls ((rd_T100 l0 x5_1).f0.f0) ((rd_T100 l0 x5_1).f0.f1) ((rd_T100 l0 x5_1).f1.f0) ((rd_T100 l0 x5_1).f1.f1) ((rd_T100 l1 x5_1).f0.f0) ((rd_T100 l1 x5_1).f0.f1) ((rd_T100 l1 x5_1).f1.f0) ((rd_T100 l1 x5_1).f1.f1) false _ A7.out).mono ?_
        rintro e w12 ⟨rfl,hb⟩
        refine ⟨_,rfl,?_⟩
        have n0_:=aMk (bSt hb)
        clear HB
        have HB:=n0_
        clear n0_
        (try clear hb)
        (try clear hb2)
        (try clear hk)
        (try clear hi)
        refine hK.out _ _ ⟨((HB.out.cell (wLt w _ hw489_0)).trans hw489_0),((HB.out.cell (wLt w _ hw489_1)).trans hw489_1),((HB.out.cell (wLt w _ hw489_2)).trans hw489_2),((HB.out.cell (wLt w _ hw489_3)).trans hw489_3),((HB.out.cell (wLt w _ hw490_0)).trans hw490_0),((HB.out.cell (wLt w _ hw490_1)).trans hw490_1),((HB.out.cell (wLt w _ hw490_2)).trans hw490_2),((HB.out.cell (wLt w _ hw490_3)).trans hw490_3)⟩ (fun hHeld => ?_)
        clear hK K
        refine norm_ (a':=?_) ?_ ?_
        rotate_left
        ·show Act.put _ (some 25) _ = _
         simp only [Act.put,List.setIfInBounds_toArray,List.set_cons_zero,List.set_cons_succ,i64_w,i32_w]
         rfl
        refine pure_ (i:=9) (N:=some 26) (v:=?_) (a':=?_) #[true,true,true,true,true,true,true,true,true,true] rfl rfl (any_of HT_.out (by kernel_rfl)) (fun _ _ _ h => h) (Or.inl ⟨by rfl,?_⟩) ?_ ?_
        rotate_left
        ·intro w'
         go_simp
         with_reducible rfl
        rotate_left
        ·simp only [Act.put,List.setIfInBounds_toArray,List.set_cons_zero,List.set_cons_succ,i64_w,i32_w]
         rfl
        refine done_ (done_of HT_.out (by kernel_rfl)) ?_
        try go_wp2
        go_ret
        exact ⟨eRf,by repeat (first|(with_reducible first|exact HB.out|apply bwA|apply bwN|apply bw1)|exact HB.out)⟩
      ·rw [if_neg c6] at H
       exact absurd H (by simp)
     ·rw [if_neg c5] at H
      exact absurd H (by simp)
    ·rw [if_neg c4] at H
     have c4b0 : decide (x5_1 < (l0.length : Int)) = false:=decide_eq_false c4
     clear c4
     obtain rfl:=Option.some.inj H
     go_wp2
     go_ret
     exact ⟨eRf,by repeat (first|(with_reducible first|exact HB.out|apply bwA|apply bwN|apply bw1)|exact HB.out)⟩
 ·rw [if_neg c3] at H
  have c3b0 : ((l0.length : Int) == (l1.length : Int)) = false:=beq_eq_false_iff_ne.mpr c3
  have c3b1 : ((l0.length : Int) != (l1.length : Int)) = true:=bne_iff_ne.mpr c3
  have c3b2 : (l0.length == l1.length) = false:=by first | simpa using c3|(simp at c3 ⊢;omega)
  obtain rfl:=Option.some.inj H
  go_enter Try.func76,Try.ntmps76
  go_wp2
  go_ret
  exact ⟨eRf,by repeat (first|(with_reducible first|exact HB.out|apply bwA|apply bwN|apply bw1)|exact HB.out)⟩
end
section
/-! ### laws_eqRule: function 86 -/
def laws_eqRule.f (a0_0 : Int) (a0_1 : Int) (a0_2 : Int) (a0_3 : Int) (a0_4 : Int) (a0_5 : Bool) (a1_0 : Int) (a1_1 : Int) (a1_2 : Int) (a1_3 : Int) (a1_4 : Int) (a1_5 : Bool) : Option (Bool):=if a0_0 = a1_0 then ((laws_eqNet.f a0_1 a0_2 a1_1 a1_2).bind fun t270 => (if t270 = true then ((laws_eqRange.f a0_3 a0_4 a1_3 a1_4).bind fun t271 => (if t271 = true then (if (a0_5 != a1_5) = true then (some false) else (some true)) else (some false))) else (some false))) else (some false)
set_option maxHeartbeats 8000000 in
set_option maxRecDepth 100000 in
theorem laws_eqRule.calls (a0_0 : Int) (a0_1 : Int) (a0_2 : Int) (a0_3 : Int) (a0_4 : Int) (a0_5 : Bool) (a1_0 : Int) (a1_1 : Int) (a1_2 : Int) (a1_3 : Int) (a1_4 : Int) (a1_5 : Bool) (r : Bool) (w : World) (h : laws_eqRule.f a0_0 a0_1 a0_2 a0_3 a0_4 a0_5 a1_0 a1_1 a1_2 a1_3 a1_4 a1_5 = some r) :
  Calls Try.prog 86 #[.agg #[.int .i64 a0_0,.int .i64 a0_1,.int .i64 a0_2,.int .i64 a0_3,.int .i64 a0_4,.bool a0_5],.agg #[.int .i64 a1_0,.int .i64 a1_1,.int .i64 a1_2,.int .i64 a1_3,.int .i64 a1_4,.bool a1_5]] w fun e w' => e = .returned (.bool r) ∧ Below w.heap.size w w':=by
 have hu36:=Try.underlying36
 have hu26:=Try.underlying26
 have hu34:=Try.underlying34
 have HB:=aMk (Below.refl w.heap.size w)
 have H : (if a0_0 = a1_0 then ((laws_eqNet.f a0_1 a0_2 a1_1 a1_2).bind fun t270 => (if t270 = true then ((laws_eqRange.f a0_3 a0_4 a1_3 a1_4).bind fun t271 => (if t271 = true then (if (a0_5 != a1_5) = true then (some false) else (some true)) else (some false))) else (some false))) else (some false)) = some r:=h
 clear h
 by_cases c3 : a0_0 = a1_0
 ·rw [if_pos c3] at H
  have c3b0 : (a0_0 == a1_0) = true:=beq_iff_eq.mpr c3
  have c3b1 : (a0_0 != a1_0) = false:=bne_eq_false_iff_eq.mpr c3
  clear c3
  replace H:=Option.bind_eq_some_iff.mp H
  obtain ⟨t270,A40,H⟩:=H
  replace H : (if t270 = true then ((laws_eqRange.f a0_3 a0_4 a1_3 a1_4).bind fun t271 => (if t271 = true then (if (a0_5 != a1_5) = true then (some false) else (some true)) else (some false))) else (some false)) = some r:=H
  have A4:=aMk A40
  clear A40
  by_cases c5 : t270 = true
  ·subst c5
   have H1 : ((laws_eqRange.f a0_3 a0_4 a1_3 a1_4).bind fun t271 => (if t271 = true then (if (a0_5 != a1_5) = true then (some false) else (some true)) else (some false))) = some r:=by rw [if_pos rfl] at H;exact H
   clear H
   have H:=H1
   clear H1
   replace H:=Option.bind_eq_some_iff.mp H
   obtain ⟨t271,A60,H⟩:=H
   replace H : (if t271 = true then (if (a0_5 != a1_5) = true then (some false) else (some true)) else (some false)) = some r:=H
   have A6:=aMk A60
   clear A60
   by_cases c7 : t271 = true
   ·subst c7
    have H1 : (if (a0_5 != a1_5) = true then (some false) else (some true)) = some r:=by rw [if_pos rfl] at H;exact H
    clear H
    have H:=H1
    clear H1
    by_cases c8 : (a0_5 != a1_5) = true
    ·rw [if_pos c8] at H
     have c8b0 : (a0_5 != a1_5) = true:=c8
     (try (have c8b1 : decide (a0_5 = a1_5) = false:=by simpa using c8))
     (try (have c8b2 : (a0_5 == a1_5) = false:=by simpa using c8))
     (try (have c8b3 : ¬ (a0_5 = a1_5):=by simpa using c8))
     clear c8
     obtain rfl:=Option.some.inj H
     go_enter Try.func86,Try.ntmps86
     go_wp2_with (first|((with_reducible refine gate_dst (N:=2) rfl ?_);refine bxE (N:=2) (cs:=#[.int .i64 a0_0,.int .i64 a0_1,.int .i64 a0_2,.int .i64 a0_3,.int .i64 a0_4,.bool a0_5]) (t:=36) ?_;intro gb268 hg w9 hbox hb;have n0_:=aMk (bSt hb);have n1_:=aMk (hbox);have n2_:=aMk ((by rw [hg];exact bSz : w.heap.size ≤ gb268));have n3_:=aMk ((by rw [hg];exact bSz : w.heap.size ≤ gb268));clear HB;have HB:=n0_;have BK268:=n1_;have GW268:=n2_;have GE268:=n3_;clear n0_ n1_ n2_ n3_;clear hb hbox hg)|((with_reducible refine gate_dst (N:=3) rfl ?_);refine bxE (N:=3) (cs:=#[.int .i64 a1_0,.int .i64 a1_1,.int .i64 a1_2,.int .i64 a1_3,.int .i64 a1_4,.bool a1_5]) (t:=36) ?_;intro gb269 hg w10 hbox hb;have n0_:=aMk (bkB BK268.out hb);have n1_:=aMk (below_step (by repeat (first|(with_reducible first|exact HB.out|apply bwA|apply bwN|apply bw1|refine below_set ?_ GE268.out)|exact HB.out)) hb);have n2_:=aMk (hbox);have n3_:=aMk ((by rw [hg];exact (below_size (by repeat (first|(with_reducible first|exact HB.out|apply bwA|apply bwN|apply bw1|refine below_set ?_ GE268.out)|exact HB.out))) : w.heap.size ≤ gb269));have n4_:=aMk ((by rw [hg];exact (below_size (by repeat (first|(with_reducible first|exact HB.out|apply bwA|apply bwN|apply bw1|refine below_set ?_ GE268.out)|exact HB.out))) : w.heap.size ≤ gb269));have n5_:=aMk ((bkL BK268.out hg : gb268 ≠ gb269));have n6_:=aMk ((bkG BK268.out hg : gb269 ≠ gb268));clear BK268;clear HB;have BK268:=n0_;have HB:=n1_;have BK269:=n2_;have GW269:=n3_;have GE269:=n4_;have NB268_269:=n5_;have NB269_268:=n6_;clear n0_ n1_ n2_ n3_ n4_ n5_ n6_;clear hb hbox hg;have hnb11:=NB268_269.out;have hnc11:=NB269_268.out;obtain ⟨hcz12_0,hcz12_1,hcz12_2,hcz12_3,hcz12_4,hcz12_5,hfz12_0,hfz12_1,hfz12_2,hfz12_3,hfz12_4,hfz12_5⟩:=bC6 BK268.out;obtain ⟨hcz13_0,hcz13_1,hcz13_2,hcz13_3,hcz13_4,hcz13_5,hfz13_0,hfz13_1,hfz13_2,hfz13_3,hfz13_4,hfz13_5⟩:=bC6 BK269.out)|((with_reducible refine gate_callee (f:=52) rfl ?_);refine gLs 14 Try.func52 #[.agg #[.int .i64 a0_1,.int .i64 a0_2],.agg #[.int .i64 a1_1,.int .i64 a1_2]] ?_;(with_reducible refine (laws_eqNet.calls a0_1 a0_2 a1_1 a1_2 true _ A4.out).mono ?_);rintro e w14 ⟨rfl,hb⟩;refine ⟨_,rfl,?_⟩;have n0_:=aMk (bkB BK268.out hb);have n1_:=aMk (bkB BK269.out hb);have n2_:=aMk (below_step (by repeat (first|(with_reducible first|exact HB.out|apply bwA|apply bwN|apply bw1|refine below_set ?_ GE268.out|refine below_set ?_ GE269.out)|exact HB.out)) hb);clear BK268;clear BK269;clear HB;have BK268:=n0_;have BK269:=n1_;have HB:=n2_;clear n0_ n1_ n2_;(try clear hb);(try clear hb2);(try clear hk);(try clear hi);obtain ⟨hcz15_0,hcz15_1,hcz15_2,hcz15_3,hcz15_4,hcz15_5,hfz15_0,hfz15_1,hfz15_2,hfz15_3,hfz15_4,hfz15_5⟩:=bC6 BK268.out;obtain ⟨hcz16_0,hcz16_1,hcz16_2,hcz16_3,hcz16_4,hcz16_5,hfz16_0,hfz16_1,hfz16_2,hfz16_3,hfz16_4,hfz16_5⟩:=bC6 BK269.out)|((with_reducible refine gate_callee (f:=98) rfl ?_);refine gLs 20 Try.func98 #[.agg #[.int .i64 a0_3,.int .i64 a0_4],.agg #[.int .i64 a1_3,.int .i64 a1_4]] ?_;(with_reducible refine (laws_eqRange.calls a0_3 a0_4 a1_3 a1_4 true _ A6.out).mono ?_);rintro e w17 ⟨rfl,hb⟩;refine ⟨_,rfl,?_⟩;have n0_:=aMk (bkB BK268.out hb);have n1_:=aMk (bkB BK269.out hb);have n2_:=aMk (below_step (by repeat (first|(with_reducible first|exact HB.out|apply bwA|apply bwN|apply bw1|refine below_set ?_ GE268.out|refine below_set ?_ GE269.out)|exact HB.out)) hb);clear BK268;clear BK269;clear HB;have BK268:=n0_;have BK269:=n1_;have HB:=n2_;clear n0_ n1_ n2_;(try clear hb);(try clear hb2);(try clear hk);(try clear hi);obtain ⟨hcz18_0,hcz18_1,hcz18_2,hcz18_3,hcz18_4,hcz18_5,hfz18_0,hfz18_1,hfz18_2,hfz18_3,hfz18_4,hfz18_5⟩:=bC6 BK268.out;obtain ⟨hcz19_0,hcz19_1,hcz19_2,hcz19_3,hcz19_4,hcz19_5,hfz19_0,hfz19_1,hfz19_2,hfz19_3,hfz19_4,hfz19_5⟩:=bC6 BK269.out))
     go_ret
     exact ⟨eRf,by repeat (first|(with_reducible first|exact HB.out|apply bwA|apply bwN|apply bw1|refine below_set ?_ GE268.out|refine below_set ?_ GE269.out)|exact HB.out)⟩
    ·rw [if_neg c8] at H
     have c8b0 : (a0_5 != a1_5) = false:=by simpa using c8
     (try (have c8b1 : decide (a0_5 = a1_5) = true:=by simpa using c8))
     (try (have c8b2 : (a0_5 == a1_5) = true:=by simpa using c8))
     clear c8
     obtain rfl:=Option.some.inj H
     go_enter Try.func86,Try.ntmps86
     go_wp2_with (first|((with_reducible refine gate_dst (N:=2) rfl ?_);refine bxE (N:=2) (cs:=#[.int .i64 a0_0,.int .i64 a0_1,.int .i64 a0_2,.int .i64 a0_3,.int .i64 a0_4,.bool a0_5]) (t:=36) ?_;intro gb268 hg w20 hbox hb;have n0_:=aMk (bSt hb);have n1_:=aMk (hbox);have n2_:=aMk ((by rw [hg];exact bSz : w.heap.size ≤ gb268));have n3_:=aMk ((by rw [hg];exact bSz : w.heap.size ≤ gb268));clear HB;have HB:=n0_;have BK268:=n1_;have GW268:=n2_;have GE268:=n3_;clear n0_ n1_ n2_ n3_;clear hb hbox hg)|((with_reducible refine gate_dst (N:=3) rfl ?_);refine bxE (N:=3) (cs:=#[.int .i64 a1_0,.int .i64 a1_1,.int .i64 a1_2,.int .i64 a1_3,.int .i64 a1_4,.bool a1_5]) (t:=36) ?_;intro gb269 hg w21 hbox hb;have n0_:=aMk (bkB BK268.out hb);have n1_:=aMk (below_step (by repeat (first|(with_reducible first|exact HB.out|apply bwA|apply bwN|apply bw1|refine below_set ?_ GE268.out)|exact HB.out)) hb);have n2_:=aMk (hbox);have n3_:=aMk ((by rw [hg];exact (below_size (by repeat (first|(with_reducible first|exact HB.out|apply bwA|apply bwN|apply bw1|refine below_set ?_ GE268.out)|exact HB.out))) : w.heap.size ≤ gb269));have n4_:=aMk ((by rw [hg];exact (below_size (by repeat (first|(with_reducible first|exact HB.out|apply bwA|apply bwN|apply bw1|refine below_set ?_ GE268.out)|exact HB.out))) : w.heap.size ≤ gb269));have n5_:=aMk ((bkL BK268.out hg : gb268 ≠ gb269));have n6_:=aMk ((bkG BK268.out hg : gb269 ≠ gb268));clear BK268;clear HB;have BK268:=n0_;have HB:=n1_;have BK269:=n2_;have GW269:=n3_;have GE269:=n4_;have NB268_269:=n5_;have NB269_268:=n6_;clear n0_ n1_ n2_ n3_ n4_ n5_ n6_;clear hb hbox hg;have hnb22:=NB268_269.out;have hnc22:=NB269_268.out;obtain ⟨hcz23_0,hcz23_1,hcz23_2,hcz23_3,hcz23_4,hcz23_5,hfz23_0,hfz23_1,hfz23_2,hfz23_3,hfz23_4,hfz23_5⟩:=bC6 BK268.out;obtain ⟨hcz24_0,hcz24_1,hcz24_2,hcz24_3,hcz24_4,hcz24_5,hfz24_0,hfz24_1,hfz24_2,hfz24_3,hfz24_4,hfz24_5⟩:=bC6 BK269.out)|((with_reducible refine gate_callee (f:=52) rfl ?_);refine gLs 14 Try.func52 #[.agg #[.int .i64 a0_1,.int .i64 a0_2],.agg #[.int .i64 a1_1,.int .i64 a1_2]] ?_;(with_reducible refine (laws_eqNet.calls a0_1 a0_2 a1_1 a1_2 true _ A4.out).mono ?_);rintro e w25 ⟨rfl,hb⟩;refine ⟨_,rfl,?_⟩;have n0_:=aMk (bkB BK268.out hb);have n1_:=aMk (bkB BK269.out hb);have n2_:=aMk (below_step (by repeat (first|(with_reducible first|exact HB.out|apply bwA|apply bwN|apply bw1|refine below_set ?_ GE268.out|refine below_set ?_ GE269.out)|exact HB.out)) hb);clear BK268;clear BK269;clear HB;have BK268:=n0_;have BK269:=n1_;have HB:=n2_;clear n0_ n1_ n2_;(try clear hb);(try clear hb2);(try clear hk);(try clear hi);obtain ⟨hcz26_0,hcz26_1,hcz26_2,hcz26_3,hcz26_4,hcz26_5,hfz26_0,hfz26_1,hfz26_2,hfz26_3,hfz26_4,hfz26_5⟩:=bC6 BK268.out;obtain ⟨hcz27_0,hcz27_1,hcz27_2,hcz27_3,hcz27_4,hcz27_5,hfz27_0,hfz27_1,hfz27_2,hfz27_3,hfz27_4,hfz27_5⟩:=bC6 BK269.out)|((with_reducible refine gate_callee (f:=98) rfl ?_);refine gLs 20 Try.func98 #[.agg #[.int .i64 a0_3,.int .i64 a0_4],.agg #[.int .i64 a1_3,.int .i64 a1_4]] ?_;(with_reducible refine (laws_eqRange.calls a0_3 a0_4 a1_3 a1_4 true _ A6.out).mono ?_);rintro e w28 ⟨rfl,hb⟩;refine ⟨_,rfl,?_⟩;have n0_:=aMk (bkB BK268.out hb);have n1_:=aMk (bkB BK269.out hb);have n2_:=aMk (below_step (by repeat (first|(with_reducible first|exact HB.out|apply bwA|apply bwN|apply bw1|refine below_set ?_ GE268.out|refine below_set ?_ GE269.out)|exact HB.out)) hb);clear BK268;clear BK269;clear HB;have BK268:=n0_;have BK269:=n1_;have HB:=n2_;clear n0_ n1_ n2_;(try clear hb);(try clear hb2);(try clear hk);(try clear hi);obtain ⟨hcz29_0,hcz29_1,hcz29_2,hcz29_3,hcz29_4,hcz29_5,hfz29_0,hfz29_1,hfz29_2,hfz29_3,hfz29_4,hfz29_5⟩:=bC6 BK268.out;obtain ⟨hcz30_0,hcz30_1,hcz30_2,hcz30_3,hcz30_4,hcz30_5,hfz30_0,hfz30_1,hfz30_2,hfz30_3,hfz30_4,hfz30_5⟩:=bC6 BK269.out))
     go_ret
     exact ⟨eRf,by repeat (first|(with_reducible first|exact HB.out|apply bwA|apply bwN|apply bw1|refine below_set ?_ GE268.out|refine below_set ?_ GE269.out)|exact HB.out)⟩
   ·replace c7:=Bool.eq_false_iff.mpr c7
    subst c7
    have H1 : (some false) = some r:=by rw [if_neg (show ¬ (false = true) by decide)] at H;exact H
    clear H
    have H:=H1
    clear H1
    obtain rfl:=Option.some.inj H
    go_enter Try.func86,Try.ntmps86
    go_wp2_with (first|((with_reducible refine gate_dst (N:=2) rfl ?_);refine bxE (N:=2) (cs:=#[.int .i64 a0_0,.int .i64 a0_1,.int .i64 a0_2,.int .i64 a0_3,.int .i64 a0_4,.bool a0_5]) (t:=36) ?_;intro gb268 hg w31 hbox hb;have n0_:=aMk (bSt hb);have n1_:=aMk (hbox);have n2_:=aMk ((by rw [hg];exact bSz : w.heap.size ≤ gb268));have n3_:=aMk ((by rw [hg];exact bSz : w.heap.size ≤ gb268));clear HB;have HB:=n0_;have BK268:=n1_;have GW268:=n2_;have GE268:=n3_;clear n0_ n1_ n2_ n3_;clear hb hbox hg)|((with_reducible refine gate_dst (N:=3) rfl ?_);refine bxE (N:=3) (cs:=#[.int .i64 a1_0,.int .i64 a1_1,.int .i64 a1_2,.int .i64 a1_3,.int .i64 a1_4,.bool a1_5]) (t:=36) ?_;intro gb269 hg w32 hbox hb;have n0_:=aMk (bkB BK268.out hb);have n1_:=aMk (below_step (by repeat (first|(with_reducible first|exact HB.out|apply bwA|apply bwN|apply bw1|refine below_set ?_ GE268.out)|exact HB.out)) hb);have n2_:=aMk (hbox);have n3_:=aMk ((by rw [hg];exact (below_size (by repeat (first|(with_reducible first|exact HB.out|apply bwA|apply bwN|apply bw1|refine below_set ?_ GE268.out)|exact HB.out))) : w.heap.size ≤ gb269));have n4_:=aMk ((by rw [hg];exact (below_size (by repeat (first|(with_reducible first|exact HB.out|apply bwA|apply bwN|apply bw1|refine below_set ?_ GE268.out)|exact HB.out))) : w.heap.size ≤ gb269));have n5_:=aMk ((bkL BK268.out hg : gb268 ≠ gb269));have n6_:=aMk ((bkG BK268.out hg : gb269 ≠ gb268));clear BK268;clear HB;have BK268:=n0_;have HB:=n1_;have BK269:=n2_;have GW269:=n3_;have GE269:=n4_;have NB268_269:=n5_;have NB269_268:=n6_;clear n0_ n1_ n2_ n3_ n4_ n5_ n6_;clear hb hbox hg;have hnb33:=NB268_269.out;have hnc33:=NB269_268.out;obtain ⟨hcz34_0,hcz34_1,hcz34_2,hcz34_3,hcz34_4,hcz34_5,hfz34_0,hfz34_1,hfz34_2,hfz34_3,hfz34_4,hfz34_5⟩:=bC6 BK268.out;obtain ⟨hcz35_0,hcz35_1,hcz35_2,hcz35_3,hcz35_4,hcz35_5,hfz35_0,hfz35_1,hfz35_2,hfz35_3,hfz35_4,hfz35_5⟩:=bC6 BK269.out)|((with_reducible refine gate_callee (f:=52) rfl ?_);refine gLs 14 Try.func52 #[.agg #[.int .i64 a0_1,.int .i64 a0_2],.agg #[.int .i64 a1_1,.int .i64 a1_2]] ?_;(with_reducible refine (laws_eqNet.calls a0_1 a0_2 a1_1 a1_2 true _ A4.out).mono ?_);rintro e w36 ⟨rfl,hb⟩;refine ⟨_,rfl,?_⟩;have n0_:=aMk (bkB BK268.out hb);have n1_:=aMk (bkB BK269.out hb);have n2_:=aMk (below_step (by repeat (first|(with_reducible first|exact HB.out|apply bwA|apply bwN|apply bw1|refine below_set ?_ GE268.out|refine below_set ?_ GE269.out)|exact HB.out)) hb);clear BK268;clear BK269;clear HB;have BK268:=n0_;have BK269:=n1_;have HB:=n2_;clear n0_ n1_ n2_;(try clear hb);(try clear hb2);(try clear hk);(try clear hi);obtain ⟨hcz37_0,hcz37_1,hcz37_2,hcz37_3,hcz37_4,hcz37_5,hfz37_0,hfz37_1,hfz37_2,hfz37_3,hfz37_4,hfz37_5⟩:=bC6 BK268.out;obtain ⟨hcz38_0,hcz38_1,hcz38_2,hcz38_3,hcz38_4,hcz38_5,hfz38_0,hfz38_1,hfz38_2,hfz38_3,hfz38_4,hfz38_5⟩:=bC6 BK269.out)|((with_reducible refine gate_callee (f:=98) rfl ?_);refine gLs 20 Try.func98 #[.agg #[.int .i64 a0_3,.int .i64 a0_4],.agg #[.int .i64 a1_3,.int .i64 a1_4]] ?_;(with_reducible refine (laws_eqRange.calls a0_3 a0_4 a1_3 a1_4 false _ A6.out).mono ?_);rintro e w39 ⟨rfl,hb⟩;refine ⟨_,rfl,?_⟩;have n0_:=aMk (bkB BK268.out hb);have n1_:=aMk (bkB BK269.out hb);have n2_:=aMk (below_step (by repeat (first|(with_reducible first|exact HB.out|apply bwA|apply bwN|apply bw1|refine below_set ?_ GE268.out|refine below_set ?_ GE269.out)|exact HB.out)) hb);clear BK268;clear BK269;clear HB;have BK268:=n0_;have BK269:=n1_;have HB:=n2_;clear n0_ n1_ n2_;(try clear hb);(try clear hb2);(try clear hk);(try clear hi)))
    go_ret
    exact ⟨eRf,by repeat (first|(with_reducible first|exact HB.out|apply bwA|apply bwN|apply bw1|refine below_set ?_ GE268.out|refine below_set ?_ GE269.out)|exact HB.out)⟩
  ·replace c5:=Bool.eq_false_iff.mpr c5
   subst c5
   have H1 : (some false) = some r:=by rw [if_neg (show ¬ (false = true) by decide)] at H;exact H
   clear H
   have H:=H1
   clear H1
   obtain rfl:=Option.some.inj H
   go_enter Try.func86,Try.ntmps86
   go_wp2_with (first|((with_reducible refine gate_dst (N:=2) rfl ?_);refine bxE (N:=2) (cs:=#[.int .i64 a0_0,.int .i64 a0_1,.int .i64 a0_2,.int .i64 a0_3,.int .i64 a0_4,.bool a0_5]) (t:=36) ?_;intro gb268 hg w40 hbox hb;have n0_:=aMk (bSt hb);have n1_:=aMk (hbox);have n2_:=aMk ((by rw [hg];exact bSz : w.heap.size ≤ gb268));have n3_:=aMk ((by rw [hg];exact bSz : w.heap.size ≤ gb268));clear HB;have HB:=n0_;have BK268:=n1_;have GW268:=n2_;have GE268:=n3_;clear n0_ n1_ n2_ n3_;clear hb hbox hg)|((with_reducible refine gate_dst (N:=3) rfl ?_);refine bxE (N:=3) (cs:=#[.int .i64 a1_0,.int .i64 a1_1,.int .i64 a1_2,.int .i64 a1_3,.int .i64 a1_4,.bool a1_5]) (t:=36) ?_;intro gb269 hg w41 hbox hb;have n0_:=aMk (bkB BK268.out hb);have n1_:=aMk (below_step (by repeat (first|(with_reducible first|exact HB.out|apply bwA|apply bwN|apply bw1|refine below_set ?_ GE268.out)|exact HB.out)) hb);have n2_:=aMk (hbox);have n3_:=aMk ((by rw [hg];exact (below_size (by repeat (first|(with_reducible first|exact HB.out|apply bwA|apply bwN|apply bw1|refine below_set ?_ GE268.out)|exact HB.out))) : w.heap.size ≤ gb269));have n4_:=aMk ((by rw [hg];exact (below_size (by repeat (first|(with_reducible first|exact HB.out|apply bwA|apply bwN|apply bw1|refine below_set ?_ GE268.out)|exact HB.out))) : w.heap.size ≤ gb269));have n5_:=aMk ((bkL BK268.out hg : gb268 ≠ gb269));have n6_:=aMk ((bkG BK268.out hg : gb269 ≠ gb268));clear BK268;clear HB;have BK268:=n0_;have HB:=n1_;have BK269:=n2_;have GW269:=n3_;have GE269:=n4_;have NB268_269:=n5_;have NB269_268:=n6_;clear n0_ n1_ n2_ n3_ n4_ n5_ n6_;clear hb hbox hg;have hnb42:=NB268_269.out;have hnc42:=NB269_268.out;obtain ⟨hcz43_0,hcz43_1,hcz43_2,hcz43_3,hcz43_4,hcz43_5,hfz43_0,hfz43_1,hfz43_2,hfz43_3,hfz43_4,hfz43_5⟩:=bC6 BK268.out;obtain ⟨hcz44_0,hcz44_1,hcz44_2,hcz44_3,hcz44_4,hcz44_5,hfz44_0,hfz44_1,hfz44_2,hfz44_3,hfz44_4,hfz44_5⟩:=bC6 BK269.out)|((with_reducible refine gate_callee (f:=52) rfl ?_);refine gLs 14 Try.func52 #[.agg #[.int .i64 a0_1,.int .i64 a0_2],.agg #[.int .i64 a1_1,.int .i64 a1_2]] ?_;(with_reducible refine (laws_eqNet.calls a0_1 a0_2 a1_1 a1_2 false _ A4.out).mono ?_);rintro e w45 ⟨rfl,hb⟩;refine ⟨_,rfl,?_⟩;have n0_:=aMk (bkB BK268.out hb);have n1_:=aMk (bkB BK269.out hb);have n2_:=aMk (below_step (by repeat (first|(with_reducible first|exact HB.out|apply bwA|apply bwN|apply bw1|refine below_set ?_ GE268.out|refine below_set ?_ GE269.out)|exact HB.out)) hb);clear BK268;clear BK269;clear HB;have BK268:=n0_;have BK269:=n1_;have HB:=n2_;clear n0_ n1_ n2_;(try clear hb);(try clear hb2);(try clear hk);(try clear hi)))
   go_ret
   exact ⟨eRf,by repeat (first|(with_reducible first|exact HB.out|apply bwA|apply bwN|apply bw1|refine below_set ?_ GE268.out|refine below_set ?_ GE269.out)|exact HB.out)⟩
 ·rw [if_neg c3] at H
  have c3b0 : (a0_0 == a1_0) = false:=beq_eq_false_iff_ne.mpr c3
  have c3b1 : (a0_0 != a1_0) = true:=bne_iff_ne.mpr c3
  obtain rfl:=Option.some.inj H
  go_enter Try.func86,Try.ntmps86
  go_wp2_with (first|((with_reducible refine gate_dst (N:=2) rfl ?_);refine bxE (N:=2) (cs:=#[.int .i64 a0_0,.int .i64 a0_1,.int .i64 a0_2,.int .i64 a0_3,.int .i64 a0_4,.bool a0_5]) (t:=36) ?_;intro gb268 hg w46 hbox hb;have n0_:=aMk (bSt hb);have n1_:=aMk (hbox);have n2_:=aMk ((by rw [hg];exact bSz : w.heap.size ≤ gb268));have n3_:=aMk ((by rw [hg];exact bSz : w.heap.size ≤ gb268));clear HB;have HB:=n0_;have BK268:=n1_;have GW268:=n2_;have GE268:=n3_;clear n0_ n1_ n2_ n3_;clear hb hbox hg)|((with_reducible refine gate_dst (N:=3) rfl ?_);refine bxE (N:=3) (cs:=#[.int .i64 a1_0,.int .i64 a1_1,.int .i64 a1_2,.int .i64 a1_3,.int .i64 a1_4,.bool a1_5]) (t:=36) ?_;intro gb269 hg w47 hbox hb;have n0_:=aMk (bkB BK268.out hb);have n1_:=aMk (below_step (by repeat (first|(with_reducible first|exact HB.out|apply bwA|apply bwN|apply bw1|refine below_set ?_ GE268.out)|exact HB.out)) hb);have n2_:=aMk (hbox);have n3_:=aMk ((by rw [hg];exact (below_size (by repeat (first|(with_reducible first|exact HB.out|apply bwA|apply bwN|apply bw1|refine below_set ?_ GE268.out)|exact HB.out))) : w.heap.size ≤ gb269));have n4_:=aMk ((by rw [hg];exact (below_size (by repeat (first|(with_reducible first|exact HB.out|apply bwA|apply bwN|apply bw1|refine below_set ?_ GE268.out)|exact HB.out))) : w.heap.size ≤ gb269));have n5_:=aMk ((bkL BK268.out hg : gb268 ≠ gb269));have n6_:=aMk ((bkG BK268.out hg : gb269 ≠ gb268));clear BK268;clear HB;have BK268:=n0_;have HB:=n1_;have BK269:=n2_;have GW269:=n3_;have GE269:=n4_;have NB268_269:=n5_;have NB269_268:=n6_;clear n0_ n1_ n2_ n3_ n4_ n5_ n6_;clear hb hbox hg;have hnb48:=NB268_269.out;have hnc48:=NB269_268.out;obtain ⟨hcz49_0,hcz49_1,hcz49_2,hcz49_3,hcz49_4,hcz49_5,hfz49_0,hfz49_1,hfz49_2,hfz49_3,hfz49_4,hfz49_5⟩:=bC6 BK268.out;obtain ⟨hcz50_0,hcz50_1,hcz50_2,hcz50_3,hcz50_4,hcz50_5,hfz50_0,hfz50_1,hfz50_2,hfz50_3,hfz50_4,hfz50_5⟩:=bC6 BK269.out))
  go_ret
  exact ⟨eRf,by repeat (first|(with_reducible first|exact HB.out|apply bwA|apply bwN|apply bw1|refine below_set ?_ GE268.out|refine below_set ?_ GE269.out)|exact HB.out)⟩
end
section
/-! ### laws_eqRuleS: function 61 -/
def laws_eqRuleS.l0 : Nat → List (S36) → List (S36) → Int → Option (Bool)
 | 0,_,_,_ => none
 | k + 1,x0,x1,x5 => if x5 < (x0.length : Int) then (if 0 ≤ x5 then (if x5 < (x1.length : Int) then ((laws_eqRule.f ((rd_T36 x0 x5).f0) ((rd_T36 x0 x5).f1.f0) ((rd_T36 x0 x5).f1.f1) ((rd_T36 x0 x5).f2.f0) ((rd_T36 x0 x5).f2.f1) ((rd_T36 x0 x5).f3) ((rd_T36 x1 x5).f0) ((rd_T36 x1 x5).f1.f0) ((rd_T36 x1 x5).f1.f1) ((rd_T36 x1 x5).f2.f0) ((rd_T36 x1 x5).f2.f1) ((rd_T36 x1 x5).f3)).bind fun t274 => (if t274 = true then (laws_eqRuleS.l0 k x0 x1 (wrap64 (x5 + 1))) else (some false))) else (none)) else (none)) else (some true)
def laws_eqRuleS.f (k : Nat) (l0 : List (S36)) (l1 : List (S36)) : Option (Bool):=if (l0.length : Int) = (l1.length : Int) then (laws_eqRuleS.l0 k l0 l1 0) else (some false)
theorem laws_eqRuleS.mono_l : ∀ k,(∀ y0 y1 y2,LeO (laws_eqRuleS.l0 k y0 y1 y2) (laws_eqRuleS.l0 (k + 1) y0 y1 y2))
 | 0 => fun _ _ _ r h => by simp [laws_eqRuleS.l0] at h
 | k + 1 => by
  have ih0:=laws_eqRuleS.mono_l k
  ·intro y0 y1 y2
   unfold laws_eqRuleS.l0
   repeat' first
   | (with_reducible exact ih0 _ _ _)
   | (with_reducible exact LeO.refl _)
   | (with_reducible exact LeO.none _)
   | (with_reducible refine LeO.ite ?_ ?_)
   | (with_reducible refine LeO.bind ?_ (fun _ => ?_))
   | exact ih0 _ _ _
   | exact LeO.none _
   | refine LeO.ite ?_ ?_
   | refine LeO.bind ?_ (fun _ => ?_)
theorem laws_eqRuleS.mono : ∀ a0 a1 k,LeO (laws_eqRuleS.f k a0 a1) (laws_eqRuleS.f (k + 1) a0 a1):=by
 intro a0 a1 k
 have ih0:=laws_eqRuleS.mono_l k
 unfold laws_eqRuleS.f
 repeat' first
   | (with_reducible exact ih0 _ _ _)
   | (with_reducible exact LeO.refl _)
   | (with_reducible exact LeO.none _)
   | (with_reducible refine LeO.ite ?_ ?_)
   | (with_reducible refine LeO.bind ?_ (fun _ => ?_))
   | exact ih0 _ _ _
   | exact LeO.none _
   | refine LeO.ite ?_ ?_
   | refine LeO.bind ?_ (fun _ => ?_)
def laws_eqRuleS.T6 : Bool × List (List Nat × List Nat):=(true,[([],[]),([],[]),([0,1],[0,1]),([2],[2]),([],[]),([],[]),([4,5],[4,5]),([6],[6]),([3,7],[3,7]),([8],[8])])
def laws_eqRuleS.B6 : List Nat:=[0,0,3,7,0,0,48,112,255,511]
theorem laws_eqRuleS.tab6 : rtab .any (opsOf Try.f61 6) = laws_eqRuleS.T6:=by kernel_rfl
theorem laws_eqRuleS.bits6 : waitsOk laws_eqRuleS.T6.2 laws_eqRuleS.B6 = true:=by kernel_rfl
set_option maxHeartbeats 8000000 in
set_option maxRecDepth 100000 in
theorem laws_eqRuleS.calls (k : Nat) (A0 : Option Addr) (c0 : Nat) (l0 : List (S36)) (A1 : Option Addr) (c1 : Nat) (l1 : List (S36)) (r : Bool) (w : World) (hr0 : Kd.C k36 w A0 l0.length l0) (hc0 : l0.length ≤ c0) (hr1 : Kd.C k36 w A1 l1.length l1) (hc1 : l1.length ≤ c1) (h : laws_eqRuleS.f k l0 l1 = some r) :
  Calls Try.prog 61 #[.slice A0 l0.length c0,.slice A1 l1.length c1] w fun e w' => e = .returned (.bool r) ∧ Below w.heap.size w w':=by
 have hu36:=Try.underlying36
 have HR0:=aMk hr0
 have HC0:=aMk hc0
 clear hr0 hc0
 have HR1:=aMk hr1
 have HC1:=aMk hc1
 clear hr1 hc1
 have HB:=aMk (Below.refl w.heap.size w)
 have H : (if (l0.length : Int) = (l1.length : Int) then (laws_eqRuleS.l0 k l0 l1 0) else (some false)) = some r:=h
 clear h
 by_cases c3 : (l0.length : Int) = (l1.length : Int)
 ·rw [if_pos c3] at H
  have c3b0 : ((l0.length : Int) == (l1.length : Int)) = true:=beq_iff_eq.mpr c3
  have c3b1 : ((l0.length : Int) != (l1.length : Int)) = false:=bne_eq_false_iff_eq.mpr c3
  have c3b2 : (l0.length == l1.length) = true:=by first | simpa using c3|(simp at c3 ⊢;omega)
  clear c3
  have H':=aMk H
  clear H
  go_enter Try.func61,Try.ntmps61
  go_wp2
  go_loopg [5] k (fun kq v5 w' => ∃ (x5_1 : Int),v5 = .int .i64 x5_1 ∧ Aside0 (laws_eqRuleS.l0 kq l0 l1 x5_1 = some r) ∧ Aside0 (kq ≤ k) ∧ Aside0 (Below w.heap.size w w'))
  case atStart => exact ⟨(0),(by first | rfl|(simp;done)|(simp [*];done)|(simp [ne_nil_b];done)|(simp [ne_nil_b, *];done)),H',⟨Nat.le_refl _⟩,⟨by repeat (first|(with_reducible first|exact HB.out|apply bwA|apply bwN|apply bw1)|exact HB.out)⟩⟩
  case round =>
   clear H'
   try clear c1
   try clear p2
   try clear c3
   try clear c3b0
   try clear c3b1
   try clear c3b2
   obtain ⟨x5_1,rfl,HA,HK1,HB⟩:=hrel
   cases gk with
   | zero => exact absurd HA.out (by simp [laws_eqRuleS.l0])
   | succ k1 =>
    have H:=HA.out
    clear HA
    simp only [laws_eqRuleS.l0] at H
    by_cases c4 : x5_1 < (l0.length : Int)
    ·rw [if_pos c4] at H
     have c4b0 : decide (x5_1 < (l0.length : Int)) = true:=decide_eq_true c4
     clear c4
     by_cases c5 : 0 ≤ x5_1
     ·rw [if_pos c5] at H
      have c5b0 : decide (0 ≤ x5_1) = true:=decide_eq_true c5
      clear c5
      by_cases c6 : x5_1 < (l1.length : Int)
      ·rw [if_pos c6] at H
       have c6b0 : decide (x5_1 < (l1.length : Int)) = true:=decide_eq_true c6
       clear c6
       replace H:=Option.bind_eq_some_iff.mp H
       obtain ⟨t274,A70,H⟩:=H
       replace H : (if t274 = true then (laws_eqRuleS.l0 k1 l0 l1 (wrap64 (x5_1 + 1))) else (some false)) = some r:=H
       have A7:=aMk A70
       clear A70
       by_cases c8 : t274 = true
       ·subst c8
        have H1 : (laws_eqRuleS.l0 k1 l0 l1 (wrap64 (x5_1 + 1))) = some r:=by rw [if_pos rfl] at H;exact H
        clear H
        have H:=H1
        clear H1
        have H':=aMk H
        clear H
        try go_wp2
        have n0_:=aMk (bw1 HB.out)
        clear HB
        have HB:=n0_
        clear n0_
        have p272 : 0 ≤ (x5_1 : Int):=of_decide_eq_true (by first|(with_reducible assumption) | assumption)
        have q272 : x5_1 < (l0.length : Int):=of_decide_eq_true (by first|(with_reducible assumption) | assumption)
        obtain ⟨ad272,e272,hx272_0,hx272_1,hx272_2,hx272_3,hx272_4,hx272_5⟩:=at_T36 HR0.out x5_1 p272 q272
        have hw272_5:=hx272_5
        have hw272_4:=hx272_4
        have hw272_3:=hx272_3
        have hw272_2:=hx272_2
        have hw272_1:=hx272_1
        have hw272_0:=hx272_0
        cases e272
        replace hx272_0:=bXc HB.out hx272_0
        replace hx272_1:=bXc HB.out hx272_1
        replace hx272_2:=bXc HB.out hx272_2
        replace hx272_3:=bXc HB.out hx272_3
        replace hx272_4:=bXc HB.out hx272_4
        replace hx272_5:=bXc HB.out hx272_5
        replace p272:=eq_true p272
        replace q272:=eq_true q272
        have p273 : 0 ≤ (x5_1 : Int):=of_decide_eq_true (by first|(with_reducible assumption) | assumption)
        have q273 : x5_1 < (l1.length : Int):=of_decide_eq_true (by first|(with_reducible assumption) | assumption)
        obtain ⟨ad273,e273,hx273_0,hx273_1,hx273_2,hx273_3,hx273_4,hx273_5⟩:=at_T36 HR1.out x5_1 p273 q273
        have hw273_5:=hx273_5
        have hw273_4:=hx273_4
        have hw273_3:=hx273_3
        have hw273_2:=hx273_2
        have hw273_1:=hx273_1
        have hw273_0:=hx273_0
        cases e273
        replace hx273_0:=bXc HB.out hx273_0
        replace hx273_1:=bXc HB.out hx273_1
        replace hx273_2:=bXc HB.out hx273_2
        replace hx273_3:=bXc HB.out hx273_3
        replace hx273_4:=bXc HB.out hx273_4
        replace hx273_5:=bXc HB.out hx273_5
        replace p273:=eq_true p273
        replace q273:=eq_true q273
        refine start_ (n:=10) (S:=fun w' => w'.cell? (ad272.add ((x5_1).toNat * 6)) = some (.int .i64 ((rd_T36 l0 x5_1).f0)) ∧ w'.cell? ⟨(ad272.add ((x5_1).toNat * 6)).block,(ad272.add ((x5_1).toNat * 6)).off + 1,none⟩ = some (.int .i64 ((rd_T36 l0 x5_1).f1.f0)) ∧ w'.cell? ⟨(ad272.add ((x5_1).toNat * 6)).block,(ad272.add ((x5_1).toNat * 6)).off + 2,none⟩ = some (.int .i64 ((rd_T36 l0 x5_1).f1.f1)) ∧ w'.cell? ⟨(ad272.add ((x5_1).toNat * 6)).block,(ad272.add ((x5_1).toNat * 6)).off + 3,none⟩ = some (.int .i64 ((rd_T36 l0 x5_1).f2.f0)) ∧ w'.cell? ⟨(ad272.add ((x5_1).toNat * 6)).block,(ad272.add ((x5_1).toNat * 6)).off + 4,none⟩ = some (.int .i64 ((rd_T36 l0 x5_1).f2.f1)) ∧ w'.cell? ⟨(ad272.add ((x5_1).toNat * 6)).block,(ad272.add ((x5_1).toNat * 6)).off + 5,none⟩ = some (.bool ((rd_T36 l0 x5_1).f3)) ∧ w'.cell? (ad273.add ((x5_1).toNat * 6)) = some (.int .i64 ((rd_T36 l1 x5_1).f0)) ∧ w'.cell? ⟨(ad273.add ((x5_1).toNat * 6)).block,(ad273.add ((x5_1).toNat * 6)).off + 1,none⟩ = some (.int .i64 ((rd_T36 l1 x5_1).f1.f0)) ∧ w'.cell? ⟨(ad273.add ((x5_1).toNat * 6)).block,(ad273.add ((x5_1).toNat * 6)).off + 2,none⟩ = some (.int .i64 ((rd_T36 l1 x5_1).f1.f1)) ∧ w'.cell? ⟨(ad273.add ((x5_1).toNat * 6)).block,(ad273.add ((x5_1).toNat * 6)).off + 3,none⟩ = some (.int .i64 ((rd_T36 l1 x5_1).f2.f0)) ∧ w'.cell? ⟨(ad273.add ((x5_1).toNat * 6)).block,(ad273.add ((x5_1).toNat * 6)).off + 4,none⟩ = some (.int .i64 ((rd_T36 l1 x5_1).f2.f1)) ∧ w'.cell? ⟨(ad273.add ((x5_1).toNat * 6)).block,(ad273.add ((x5_1).toNat * 6)).off + 5,none⟩ = some (.bool ((rd_T36 l1 x5_1).f3))) (ds:=[]) #[false,false,false,false,false,false,false,false,false,false] (by kernel_rfl) rfl rfl ⟨((HB.out.cell (wLt w _ hw272_0)).trans hw272_0),((HB.out.cell (wLt w _ hw272_1)).trans hw272_1),((HB.out.cell (wLt w _ hw272_2)).trans hw272_2),((HB.out.cell (wLt w _ hw272_3)).trans hw272_3),((HB.out.cell (wLt w _ hw272_4)).trans hw272_4),((HB.out.cell (wLt w _ hw272_5)).trans hw272_5),((HB.out.cell (wLt w _ hw273_0)).trans hw273_0),((HB.out.cell (wLt w _ hw273_1)).trans hw273_1),((HB.out.cell (wLt w _ hw273_2)).trans hw273_2),((HB.out.cell (wLt w _ hw273_3)).trans hw273_3),((HB.out.cell (wLt w _ hw273_4)).trans hw273_4),((HB.out.cell (wLt w _ hw273_5)).trans hw273_5)⟩ (fun hHeld => ?_);refine with_tabW laws_eqRuleS.tab6 laws_eqRuleS.bits6 (fun HT_ HW_ => ?_)
        generalize wr.drew = w9 at HB hx272_0 hx272_1 hx272_2 hx272_3 hx272_4 hx272_5 hx273_0 hx273_1 hx273_2 hx273_3 hx273_4 hx273_5 hHeld ⊢
        refine pure_ (i:=0) (N:=some 17) (v:=?_) (a':=?_) #[true,false,false,false,false,false,false,false,false,false] rfl rfl (any_of HT_.out (by kernel_rfl)) (fun _ _ _ h => h) (Or.inl ⟨by rfl,?_⟩) ?_ ?_
        rotate_left
        ·intro w'
         go_simp
         with_reducible rfl
        rotate_left
        ·simp only [Act.put,List.setIfInBounds_toArray,List.set_cons_zero,List.set_cons_succ,i64_w,i32_w]
         rfl
        refine pure_ (i:=1) (N:=some 18) (v:=?_) (a':=?_) #[true,true,false,false,false,false,false,false,false,false] rfl rfl (any_of HT_.out (by kernel_rfl)) (fun _ _ _ h => h) (Or.inl ⟨by rfl,?_⟩) ?_ ?_
        rotate_left
        ·intro w'
         go_simp
         with_reducible rfl
        rotate_left
        ·simp only [Act.put,List.setIfInBounds_toArray,List.set_cons_zero,List.set_cons_succ,i64_w,i32_w]
         rfl
        refine pure_ (i:=2) (N:=some 19) (v:=?_) (a':=?_) #[true,true,true,false,false,false,false,false,false,false] rfl rfl (any_of HT_.out (by kernel_rfl)) (fun _ _ _ h => h) (Or.inl ⟨by rfl,?_⟩) ?_ ?_
        rotate_left
        ·intro w'
         go_simp
         with_reducible rfl
        rotate_left
        ·simp only [Act.put,List.setIfInBounds_toArray,List.set_cons_zero,List.set_cons_succ,i64_w,i32_w]
         rfl
        refine pure_ (i:=4) (N:=some 21) (v:=?_) (a':=?_) #[true,true,true,false,true,false,false,false,false,false] rfl rfl (any_of HT_.out (by kernel_rfl)) (fun _ _ _ h => h) (Or.inl ⟨by rfl,?_⟩) ?_ ?_
        rotate_left
        ·intro w'
         go_simp
         with_reducible rfl
        rotate_left
        ·simp only [Act.put,List.setIfInBounds_toArray,List.set_cons_zero,List.set_cons_succ,i64_w,i32_w]
         rfl
        refine pure_ (i:=5) (N:=some 22) (v:=?_) (a':=?_) #[true,true,true,false,true,true,false,false,false,false] rfl rfl (any_of HT_.out (by kernel_rfl)) (fun _ _ _ h => h) (Or.inl ⟨by rfl,?_⟩) ?_ ?_
        rotate_left
        ·intro w'
         go_simp
         with_reducible rfl
        rotate_left
        ·simp only [Act.put,List.setIfInBounds_toArray,List.set_cons_zero,List.set_cons_succ,i64_w,i32_w]
         rfl
        refine pure_ (i:=6) (N:=some 23) (v:=?_) (a':=?_) #[true,true,true,false,true,true,true,false,false,false] rfl rfl (any_of HT_.out (by kernel_rfl)) (fun _ _ _ h => h) (Or.inl ⟨by rfl,?_⟩) ?_ ?_
        rotate_left
        ·intro w'
         go_simp
         with_reducible rfl
        rotate_left
        ·simp only [Act.put,List.setIfInBounds_toArray,List.set_cons_zero,List.set_cons_succ,i64_w,i32_w]
         rfl
        refine take_ (i:=3) (N:=some 20) (v:=?_) (a':=?_) #[true,true,true,true,true,true,true,false,false,false] rfl rfl (take_ofW HT_.out HW_.out (by kernel_rfl)) (fun _ _ _ h => h) (Or.inl ⟨by rfl,?_⟩) hHeld ?_ ?_
        rotate_left
        ·rintro w' ⟨s0,s1,s2,s3,s4,s5,s6,s7,s8,s9,s10,s11⟩
         go_simp
         with_reducible rfl
        rotate_left
        ·simp only [Act.put,List.setIfInBounds_toArray,List.set_cons_zero,List.set_cons_succ,i64_w,i32_w]
         rfl
        refine take_ (i:=7) (N:=some 24) (v:=?_) (a':=?_) #[true,true,true,true,true,true,true,true,false,false] rfl rfl (take_ofW HT_.out HW_.out (by kernel_rfl)) (fun _ _ _ h => h) (Or.inl ⟨by rfl,?_⟩) hHeld ?_ ?_
        rotate_left
        ·rintro w' ⟨s0,s1,s2,s3,s4,s5,s6,s7,s8,s9,s10,s11⟩
         go_simp
         with_reducible rfl
        rotate_left
        ·simp only [Act.put,List.setIfInBounds_toArray,List.set_cons_zero,List.set_cons_succ,i64_w,i32_w]
         rfl
        refine one_ (i:=8) (N:=some 25) #[true,true,true,true,true,true,true,true,true,false] rfl rfl (one_of HT_.out (by kernel_rfl)) (by decide) (fun K hK => ?_)
        refine goes_ Try.func86 (by kernel_rfl) rfl #[.agg #[.int .i64 ((rd_T36 l0 x5_1).f0),.int .i64 ((rd_T36 l0 x5_1).f1.f0),.int .i64 ((rd_T36 l0 x5_1).f1.f1),.int .i64 ((rd_T36 l0 x5_1).f2.f0),.int .i64 ((rd_T36 l0 x5_1).f2.f1),.bool ((rd_T36 l0 x5_1).f3)],.agg #[.int .i64 ((rd_T36 l1 x5_1).f0),.int .i64 ((rd_T36 l1 x5_1).f1.f0),.int .i64 ((rd_T36 l1 x5_1).f1.f1),.int .i64 ((rd_T36 l1 x5_1).f2.f0),.int .i64 ((rd_T36 l1 x5_1).f2.f1),.bool ((rd_T36 l1 x5_1).f3)]] (by rfl) rfl rfl (by (try simp only [List.map_toArray,List.map_cons,List.map_nil]);first | done | rfl|(simp only [List.length_drop,List.length_take];rfl)) ?_
        with_reducible refine (laws_eqRule.calls ((rd_T36 l0 x5_1).f0) ((rd_T36 l0 x5_1).f1.f0) ((rd_T36 l0 x5_1).f1.f1) ((rd_T36 l0 x5_1).f2.f0) ((rd_T36 l0 x5_1).f2.f1) ((rd_T36 l0 x5_1).f3) ((rd_T36 l1 x5_1).f0) ((rd_T36 l1 x5_1).f1.f0) ((rd_T36 l1 x5_1).f1.f1) ((rd_T36 l1 x5_1).f2.f0) ((rd_T36 l1 x5_1).f2.f1) ((rd_T36 l1 x5_1).f3) true _ A7.out).mono ?_
        rintro e w10 ⟨rfl,hb⟩
        refine ⟨_,rfl,?_⟩
        have n0_:=aMk (bSt hb)
        clear HB
        have HB:=n0_
        clear n0_
        (try clear hb)
        (try clear hb2)
        (try clear hk)
        (try clear hi)
        refine hK.out _ _ ⟨((HB.out.cell (wLt w _ hw272_0)).trans hw272_0),((HB.out.cell (wLt w _ hw272_1)).trans hw272_1),((HB.out.cell (wLt w _ hw272_2)).trans hw272_2),((HB.out.cell (wLt w _ hw272_3)).trans hw272_3),((HB.out.cell (wLt w _ hw272_4)).trans hw272_4),((HB.out.cell (wLt w _ hw272_5)).trans hw272_5),((HB.out.cell (wLt w _ hw273_0)).trans hw273_0),((HB.out.cell (wLt w _ hw273_1)).trans hw273_1),((HB.out.cell (wLt w _ hw273_2)).trans hw273_2),((HB.out.cell (wLt w _ hw273_3)).trans hw273_3),((HB.out.cell (wLt w _ hw273_4)).trans hw273_4),((HB.out.cell (wLt w _ hw273_5)).trans hw273_5)⟩ (fun hHeld => ?_)
        clear hK K
        refine norm_ (a':=?_) ?_ ?_
        rotate_left
        ·show Act.put _ (some 25) _ = _
         simp only [Act.put,List.setIfInBounds_toArray,List.set_cons_zero,List.set_cons_succ,i64_w,i32_w]
         rfl
        refine pure_ (i:=9) (N:=some 26) (v:=?_) (a':=?_) #[true,true,true,true,true,true,true,true,true,true] rfl rfl (any_of HT_.out (by kernel_rfl)) (fun _ _ _ h => h) (Or.inl ⟨by rfl,?_⟩) ?_ ?_
        rotate_left
        ·intro w'
         go_simp
         with_reducible rfl
        rotate_left
        ·simp only [Act.put,List.setIfInBounds_toArray,List.set_cons_zero,List.set_cons_succ,i64_w,i32_w]
         rfl
        refine done_ (done_of HT_.out (by kernel_rfl)) ?_
        try go_wp2
        go_roundg k1
        case measure => have:=HK1.out;omega
        case rel => exact ⟨(wrap64 (x5_1 + 1)),(by first | rfl|(simp;done)|(simp [*];done)|(simp [ne_nil_b];done)|(simp [ne_nil_b, *];done)),H',⟨by have:=HK1.out;omega⟩,⟨by repeat (first|(with_reducible first|exact HB.out|apply bwA|apply bwN|apply bw1)|exact HB.out)⟩⟩
       ·replace c8:=Bool.eq_false_iff.mpr c8
        subst c8
        have H1 : (some false) = some r:=by rw [if_neg (show ¬ (false = true) by decide)] at H;exact H
        clear H
        have H:=H1
        clear H1
        obtain rfl:=Option.some.inj H
        try go_wp2
        have n0_:=aMk (bw1 HB.out)
        clear HB
        have HB:=n0_
        clear n0_
        have p272 : 0 ≤ (x5_1 : Int):=of_decide_eq_true (by first|(with_reducible assumption) | assumption)
        have q272 : x5_1 < (l0.length : Int):=of_decide_eq_true (by first|(with_reducible assumption) | assumption)
        obtain ⟨ad272,e272,hx272_0,hx272_1,hx272_2,hx272_3,hx272_4,hx272_5⟩:=at_T36 HR0.out x5_1 p272 q272
        have hw272_5:=hx272_5
        have hw272_4:=hx272_4
        have hw272_3:=hx272_3
        have hw272_2:=hx272_2
        have hw272_1:=hx272_1
        have hw272_0:=hx272_0
        cases e272
        replace hx272_0:=bXc HB.out hx272_0
        replace hx272_1:=bXc HB.out hx272_1
        replace hx272_2:=bXc HB.out hx272_2
        replace hx272_3:=bXc HB.out hx272_3
        replace hx272_4:=bXc HB.out hx272_4
        replace hx272_5:=bXc HB.out hx272_5
        replace p272:=eq_true p272
        replace q272:=eq_true q272
        have p273 : 0 ≤ (x5_1 : Int):=of_decide_eq_true (by first|(with_reducible assumption) | assumption)
        have q273 : x5_1 < (l1.length : Int):=of_decide_eq_true (by first|(with_reducible assumption) | assumption)
        obtain ⟨ad273,e273,hx273_0,hx273_1,hx273_2,hx273_3,hx273_4,hx273_5⟩:=at_T36 HR1.out x5_1 p273 q273
        have hw273_5:=hx273_5
        have hw273_4:=hx273_4
        have hw273_3:=hx273_3
        have hw273_2:=hx273_2
        have hw273_1:=hx273_1
        have hw273_0:=hx273_0
        cases e273
        replace hx273_0:=bXc HB.out hx273_0
        replace hx273_1:=bXc HB.out hx273_1
        replace hx273_2:=bXc HB.out hx273_2
        replace hx273_3:=bXc HB.out hx273_3
        replace hx273_4:=bXc HB.out hx273_4
        replace hx273_5:=bXc HB.out hx273_5
        replace p273:=eq_true p273
        replace q273:=eq_true q273
        refine start_ (n:=10) (S:=fun w' => w'.cell? (ad272.add ((x5_1).toNat * 6)) = some (.int .i64 ((rd_T36 l0 x5_1).f0)) ∧ w'.cell? ⟨(ad272.add ((x5_1).toNat * 6)).block,(ad272.add ((x5_1).toNat * 6)).off + 1,none⟩ = some (.int .i64 ((rd_T36 l0 x5_1).f1.f0)) ∧ w'.cell? ⟨(ad272.add ((x5_1).toNat * 6)).block,(ad272.add ((x5_1).toNat * 6)).off + 2,none⟩ = some (.int .i64 ((rd_T36 l0 x5_1).f1.f1)) ∧ w'.cell? ⟨(ad272.add ((x5_1).toNat * 6)).block,(ad272.add ((x5_1).toNat * 6)).off + 3,none⟩ = some (.int .i64 ((rd_T36 l0 x5_1).f2.f0)) ∧ w'.cell? ⟨(ad272.add ((x5_1).toNat * 6)).block,(ad272.add ((x5_1).toNat * 6)).off + 4,none⟩ = some (.int .i64 ((rd_T36 l0 x5_1).f2.f1)) ∧ w'.cell? ⟨(ad272.add ((x5_1).toNat * 6)).block,(ad272.add ((x5_1).toNat * 6)).off + 5,none⟩ = some (.bool ((rd_T36 l0 x5_1).f3)) ∧ w'.cell? (ad273.add ((x5_1).toNat * 6)) = some (.int .i64 ((rd_T36 l1 x5_1).f0)) ∧ w'.cell? ⟨(ad273.add ((x5_1).toNat * 6)).block,(ad273.add ((x5_1).toNat * 6)).off + 1,none⟩ = some (.int .i64 ((rd_T36 l1 x5_1).f1.f0)) ∧ w'.cell? ⟨(ad273.add ((x5_1).toNat * 6)).block,(ad273.add ((x5_1).toNat * 6)).off + 2,none⟩ = some (.int .i64 ((rd_T36 l1 x5_1).f1.f1)) ∧ w'.cell? ⟨(ad273.add ((x5_1).toNat * 6)).block,(ad273.add ((x5_1).toNat * 6)).off + 3,none⟩ = some (.int .i64 ((rd_T36 l1 x5_1).f2.f0)) ∧ w'.cell? ⟨(ad273.add ((x5_1).toNat * 6)).block,(ad273.add ((x5_1).toNat * 6)).off + 4,none⟩ = some (.int .i64 ((rd_T36 l1 x5_1).f2.f1)) ∧ w'.cell? ⟨(ad273.add ((x5_1).toNat * 6)).block,(ad273.add ((x5_1).toNat * 6)).off + 5,none⟩ = some (.bool ((rd_T36 l1 x5_1).f3))) (ds:=[]) #[false,false,false,false,false,false,false,false,false,false] (by kernel_rfl) rfl rfl ⟨((HB.out.cell (wLt w _ hw272_0)).trans hw272_0),((HB.out.cell (wLt w _ hw272_1)).trans hw272_1),((HB.out.cell (wLt w _ hw272_2)).trans hw272_2),((HB.out.cell (wLt w _ hw272_3)).trans hw272_3),((HB.out.cell (wLt w _ hw272_4)).trans hw272_4),((HB.out.cell (wLt w _ hw272_5)).trans hw272_5),((HB.out.cell (wLt w _ hw273_0)).trans hw273_0),((HB.out.cell (wLt w _ hw273_1)).trans hw273_1),((HB.out.cell (wLt w _ hw273_2)).trans hw273_2),((HB.out.cell (wLt w _ hw273_3)).trans hw273_3),((HB.out.cell (wLt w _ hw273_4)).trans hw273_4),((HB.out.cell (wLt w _ hw273_5)).trans hw273_5)⟩ (fun hHeld => ?_);refine with_tabW laws_eqRuleS.tab6 laws_eqRuleS.bits6 (fun HT_ HW_ => ?_)
        generalize wr.drew = w11 at HB hx272_0 hx272_1 hx272_2 hx272_3 hx272_4 hx272_5 hx273_0 hx273_1 hx273_2 hx273_3 hx273_4 hx273_5 hHeld ⊢
        refine pure_ (i:=0) (N:=some 17) (v:=?_) (a':=?_) #[true,false,false,false,false,false,false,false,false,false] rfl rfl (any_of HT_.out (by kernel_rfl)) (fun _ _ _ h => h) (Or.inl ⟨by rfl,?_⟩) ?_ ?_
        rotate_left
        ·intro w'
         go_simp
         with_reducible rfl
        rotate_left
        ·simp only [Act.put,List.setIfInBounds_toArray,List.set_cons_zero,List.set_cons_succ,i64_w,i32_w]
         rfl
        refine pure_ (i:=1) (N:=some 18) (v:=?_) (a':=?_) #[true,true,false,false,false,false,false,false,false,false] rfl rfl (any_of HT_.out (by kernel_rfl)) (fun _ _ _ h => h) (Or.inl ⟨by rfl,?_⟩) ?_ ?_
        rotate_left
        ·intro w'
         go_simp
         with_reducible rfl
        rotate_left
        ·simp only [Act.put,List.setIfInBounds_toArray,List.set_cons_zero,List.set_cons_succ,i64_w,i32_w]
         rfl
        refine pure_ (i:=2) (N:=some 19) (v:=?_) (a':=?_) #[true,true,true,false,false,false,false,false,false,false] rfl rfl (any_of HT_.out (by kernel_rfl)) (fun _ _ _ h => h) (Or.inl ⟨by rfl,?_⟩) ?_ ?_
        rotate_left
        ·intro w'
         go_simp
         with_reducible rfl
        rotate_left
        ·simp only [Act.put,List.setIfInBounds_toArray,List.set_cons_zero,List.set_cons_succ,i64_w,i32_w]
         rfl
        refine pure_ (i:=4) (N:=some 21) (v:=?_) (a':=?_) #[true,true,true,false,true,false,false,false,false,false] rfl rfl (any_of HT_.out (by kernel_rfl)) (fun _ _ _ h => h) (Or.inl ⟨by rfl,?_⟩) ?_ ?_
        rotate_left
        ·intro w'
         go_simp
         with_reducible rfl
        rotate_left
        ·simp only [Act.put,List.setIfInBounds_toArray,List.set_cons_zero,List.set_cons_succ,i64_w,i32_w]
         rfl
        refine pure_ (i:=5) (N:=some 22) (v:=?_) (a':=?_) #[true,true,true,false,true,true,false,false,false,false] rfl rfl (any_of HT_.out (by kernel_rfl)) (fun _ _ _ h => h) (Or.inl ⟨by rfl,?_⟩) ?_ ?_
        rotate_left
        ·intro w'
         go_simp
         with_reducible rfl
        rotate_left
        ·simp only [Act.put,List.setIfInBounds_toArray,List.set_cons_zero,List.set_cons_succ,i64_w,i32_w]
         rfl
        refine pure_ (i:=6) (N:=some 23) (v:=?_) (a':=?_) #[true,true,true,false,true,true,true,false,false,false] rfl rfl (any_of HT_.out (by kernel_rfl)) (fun _ _ _ h => h) (Or.inl ⟨by rfl,?_⟩) ?_ ?_
        rotate_left
        ·intro w'
         go_simp
         with_reducible rfl
        rotate_left
        ·simp only [Act.put,List.setIfInBounds_toArray,List.set_cons_zero,List.set_cons_succ,i64_w,i32_w]
         rfl
        refine take_ (i:=3) (N:=some 20) (v:=?_) (a':=?_) #[true,true,true,true,true,true,true,false,false,false] rfl rfl (take_ofW HT_.out HW_.out (by kernel_rfl)) (fun _ _ _ h => h) (Or.inl ⟨by rfl,?_⟩) hHeld ?_ ?_
        rotate_left
        ·rintro w' ⟨s0,s1,s2,s3,s4,s5,s6,s7,s8,s9,s10,s11⟩
         go_simp
         with_reducible rfl
        rotate_left
        ·simp only [Act.put,List.setIfInBounds_toArray,List.set_cons_zero,List.set_cons_succ,i64_w,i32_w]
         rfl
        refine take_ (i:=7) (N:=some 24) (v:=?_) (a':=?_) #[true,true,true,true,true,true,true,true,false,false] rfl rfl (take_ofW HT_.out HW_.out (by kernel_rfl)) (fun _ _ _ h => h) (Or.inl ⟨by rfl,?_⟩) hHeld ?_ ?_
        rotate_left
        ·rintro w' ⟨s0,s1,s2,s3,s4,s5,s6,s7,s8,s9,s10,s11⟩
         go_simp
         with_reducible rfl
        rotate_left
        ·simp only [Act.put,List.setIfInBounds_toArray,List.set_cons_zero,List.set_cons_succ,i64_w,i32_w]
         rfl
        refine one_ (i:=8) (N:=some 25) #[true,true,true,true,true,true,true,true,true,false] rfl rfl (one_of HT_.out (by kernel_rfl)) (by decide) (fun K hK => ?_)
        refine goes_ Try.func86 (by kernel_rfl) rfl #[.agg #[.int .i64 ((rd_T36 l0 x5_1).f0),.int .i64 ((rd_T36 l0 x5_1).f1.f0),.int .i64 ((rd_T36 l0 x5_1).f1.f1),.int .i64 ((rd_T36 l0 x5_1).f2.f0),.int .i64 ((rd_T36 l0 x5_1).f2.f1),.bool ((rd_T36 l0 x5_1).f3)],.agg #[.int .i64 ((rd_T36 l1 x5_1).f0),.int .i64 ((rd_T36 l1 x5_1).f1.f0),.int .i64 ((rd_T36 l1 x5_1).f1.f1),.int .i64 ((rd_T36 l1 x5_1).f2.f0),.int .i64 ((rd_T36 l1 x5_1).f2.f1),.bool ((rd_T36 l1 x5_1).f3)]] (by rfl) rfl rfl (by (try simp only [List.map_toArray,List.map_cons,List.map_nil]);first | done | rfl|(simp only [List.length_drop,List.length_take];rfl)) ?_
        with_reducible refine (laws_eqRule.calls ((rd_T36 l0 x5_1).f0) ((rd_T36 l0 x5_1).f1.f0) ((rd_T36 l0 x5_1).f1.f1) ((rd_T36 l0 x5_1).f2.f0) ((rd_T36 l0 x5_1).f2.f1) ((rd_T36 l0 x5_1).f3) ((rd_T36 l1 x5_1).f0) ((rd_T36 l1 x5_1).f1.f0) ((rd_T36 l1 x5_1).f1.f1) ((rd_T36 l1 x5_1).f2.f0) ((rd_T36 l1 x5_1).f2.f1) ((rd_T36 l1 x5_1).f3) false _ A7.out).mono ?_
        rintro e w12 ⟨rfl,hb⟩
        refine ⟨_,rfl,?_⟩
        have n0_:=aMk (bSt hb)
        clear HB
        have HB:=n0_
        clear n0_
        (try clear hb)
        (try clear hb2)
        (try clear hk)
        (try clear hi)
        refine hK.out _ _ ⟨((HB.out.cell (wLt w _ hw272_0)).trans hw272_0),((HB.out.cell (wLt w _ hw272_1)).trans hw272_1),((HB.out.cell (wLt w _ hw272_2)).trans hw272_2),((HB.out.cell (wLt w _ hw272_3)).trans hw272_3),((HB.out.cell (wLt w _ hw272_4)).trans hw272_4),((HB.out.cell (wLt w _ hw272_5)).trans hw272_5),((HB.out.cell (wLt w _ hw273_0)).trans hw273_0),((HB.out.cell (wLt w _ hw273_1)).trans hw273_1),((HB.out.cell (wLt w _ hw273_2)).trans hw273_2),((HB.out.cell (wLt w _ hw273_3)).trans hw273_3),((HB.out.cell (wLt w _ hw273_4)).trans hw273_4),((HB.out.cell (wLt w _ hw273_5)).trans hw273_5)⟩ (fun hHeld => ?_)
        clear hK K
        refine norm_ (a':=?_) ?_ ?_
        rotate_left
        ·show Act.put _ (some 25) _ = _
         simp only [Act.put,List.setIfInBounds_toArray,List.set_cons_zero,List.set_cons_succ,i64_w,i32_w]
         rfl
        refine pure_ (i:=9) (N:=some 26) (v:=?_) (a':=?_) #[true,true,true,true,true,true,true,true,true,true] rfl rfl (any_of HT_.out (by kernel_rfl)) (fun _ _ _ h => h) (Or.inl ⟨by rfl,?_⟩) ?_ ?_
        rotate_left
        ·intro w'
         go_simp
         with_reducible rfl
        rotate_left
        ·simp only [Act.put,List.setIfInBounds_toArray,List.set_cons_zero,List.set_cons_succ,i64_w,i32_w]
         rfl
        refine done_ (done_of HT_.out (by kernel_rfl)) ?_
        try go_wp2
        go_ret
        exact ⟨eRf,by repeat (first|(with_reducible first|exact HB.out|apply bwA|apply bwN|apply bw1)|exact HB.out)⟩
      ·rw [if_neg c6] at H
       exact absurd H (by simp)
     ·rw [if_neg c5] at H
      exact absurd H (by simp)
    ·rw [if_neg c4] at H
     have c4b0 : decide (x5_1 < (l0.length : Int)) = false:=decide_eq_false c4
     clear c4
     obtain rfl:=Option.some.inj H
     go_wp2
     go_ret
     exact ⟨eRf,by repeat (first|(with_reducible first|exact HB.out|apply bwA|apply bwN|apply bw1)|exact HB.out)⟩
 ·rw [if_neg c3] at H
  have c3b0 : ((l0.length : Int) == (l1.length : Int)) = false:=beq_eq_false_iff_ne.mpr c3
  have c3b1 : ((l0.length : Int) != (l1.length : Int)) = true:=bne_iff_ne.mpr c3
  have c3b2 : (l0.length == l1.length) = false:=by first | simpa using c3|(simp at c3 ⊢;omega)
  obtain rfl:=Option.some.inj H
  go_enter Try.func61,Try.ntmps61
  go_wp2
  go_ret
  exact ⟨eRf,by repeat (first|(with_reducible first|exact HB.out|apply bwA|apply bwN|apply bw1)|exact HB.out)⟩
end
section
/-! ### laws_eqRole: function 26 -/
def laws_eqRole.f (k : Nat) (a0_0 : ByteArray) (l0_1 : List (S36)) (a0_2 : Int) (a0_3 : Int) (a0_4 : Int) (a1_0 : ByteArray) (l1_1 : List (S36)) (a1_2 : Int) (a1_3 : Int) (a1_4 : Int) : Option (Bool):=if a0_0.toList = a1_0.toList then ((laws_eqRuleS.f k l0_1 l1_1).bind fun t277 => (if t277 = true then (if a0_2 = a1_2 then (if a0_3 = a1_3 then (if a0_4 = a1_4 then (some true) else (some false)) else (some false)) else (some false)) else (some false))) else (some false)
theorem laws_eqRole.mono : ∀ a0 a1 a2 a3 a4 a5 a6 a7 a8 a9 k,LeO (laws_eqRole.f k a0 a1 a2 a3 a4 a5 a6 a7 a8 a9) (laws_eqRole.f (k + 1) a0 a1 a2 a3 a4 a5 a6 a7 a8 a9):=by
 intro a0 a1 a2 a3 a4 a5 a6 a7 a8 a9 k
 unfold laws_eqRole.f
 repeat' first
   | (with_reducible exact laws_eqRuleS.mono ..)
   | (with_reducible exact LeO.refl _)
   | (with_reducible exact LeO.none _)
   | (with_reducible refine LeO.ite ?_ ?_)
   | (with_reducible refine LeO.bind ?_ (fun _ => ?_))
   | exact laws_eqRuleS.mono ..
   | exact LeO.none _
   | refine LeO.ite ?_ ?_
   | refine LeO.bind ?_ (fun _ => ?_)
set_option maxHeartbeats 8000000 in
set_option maxRecDepth 100000 in
theorem laws_eqRole.calls (k : Nat) (a0_0 : ByteArray) (A0_1 : Option Addr) (c0_1 : Nat) (l0_1 : List (S36)) (a0_2 : Int) (a0_3 : Int) (a0_4 : Int) (a1_0 : ByteArray) (A1_1 : Option Addr) (c1_1 : Nat) (l1_1 : List (S36)) (a1_2 : Int) (a1_3 : Int) (a1_4 : Int) (r : Bool) (w : World) (hr0_1 : Kd.C k36 w A0_1 l0_1.length l0_1) (hc0_1 : l0_1.length ≤ c0_1) (hr1_1 : Kd.C k36 w A1_1 l1_1.length l1_1) (hc1_1 : l1_1.length ≤ c1_1) (h : laws_eqRole.f k a0_0 l0_1 a0_2 a0_3 a0_4 a1_0 l1_1 a1_2 a1_3 a1_4 = some r) :
  Calls Try.prog 26 #[.agg #[.string a0_0,.slice A0_1 l0_1.length c0_1,.int .i64 a0_2,.int .i64 a0_3,.int .i64 a0_4],.agg #[.string a1_0,.slice A1_1 l1_1.length c1_1,.int .i64 a1_2,.int .i64 a1_3,.int .i64 a1_4]] w fun e w' => e = .returned (.bool r) ∧ Below w.heap.size w w':=by
 have hu54:=Try.underlying54
 have HR0_1:=aMk hr0_1
 have HC0_1:=aMk hc0_1
 clear hr0_1 hc0_1
 have HR1_1:=aMk hr1_1
 have HC1_1:=aMk hc1_1
 clear hr1_1 hc1_1
 have HB:=aMk (Below.refl w.heap.size w)
 have H : (if a0_0.toList = a1_0.toList then ((laws_eqRuleS.f k l0_1 l1_1).bind fun t277 => (if t277 = true then (if a0_2 = a1_2 then (if a0_3 = a1_3 then (if a0_4 = a1_4 then (some true) else (some false)) else (some false)) else (some false)) else (some false))) else (some false)) = some r:=h
 clear h
 by_cases c3 : a0_0.toList = a1_0.toList
 ·rw [if_pos c3] at H
  have c3b0 : (a0_0.toList == a1_0.toList) = true:=beq_iff_eq.mpr c3
  have c3b1 : (a0_0.toList != a1_0.toList) = false:=bne_eq_false_iff_eq.mpr c3
  clear c3
  replace H:=Option.bind_eq_some_iff.mp H
  obtain ⟨t277,A40,H⟩:=H
  replace H : (if t277 = true then (if a0_2 = a1_2 then (if a0_3 = a1_3 then (if a0_4 = a1_4 then (some true) else (some false)) else (some false)) else (some false)) else (some false)) = some r:=H
  have A4:=aMk A40
  clear A40
  by_cases c5 : t277 = true
  ·subst c5
   have H1 : (if a0_2 = a1_2 then (if a0_3 = a1_3 then (if a0_4 = a1_4 then (some true) else (some false)) else (some false)) else (some false)) = some r:=by rw [if_pos rfl] at H;exact H
   clear H
   have H:=H1
   clear H1
   by_cases c6 : a0_2 = a1_2
   ·rw [if_pos c6] at H
    have c6b0 : (a0_2 == a1_2) = true:=beq_iff_eq.mpr c6
    have c6b1 : (a0_2 != a1_2) = false:=bne_eq_false_iff_eq.mpr c6
    clear c6
    by_cases c7 : a0_3 = a1_3
    ·rw [if_pos c7] at H
     have c7b0 : (a0_3 == a1_3) = true:=beq_iff_eq.mpr c7
     have c7b1 : (a0_3 != a1_3) = false:=bne_eq_false_iff_eq.mpr c7
     clear c7
     by_cases c8 : a0_4 = a1_4
     ·rw [if_pos c8] at H
      have c8b0 : (a0_4 == a1_4) = true:=beq_iff_eq.mpr c8
      have c8b1 : (a0_4 != a1_4) = false:=bne_eq_false_iff_eq.mpr c8
      clear c8
      obtain rfl:=Option.some.inj H
      go_enter Try.func26,Try.ntmps26
      go_wp2_with (first|((with_reducible refine gate_dst (N:=2) rfl ?_);refine bxE (N:=2) (cs:=#[.string a0_0,.slice A0_1 l0_1.length c0_1,.int .i64 a0_2,.int .i64 a0_3,.int .i64 a0_4]) (t:=54) ?_;intro gb275 hg w9 hbox hb;have n0_:=aMk (bSt hb);have n1_:=aMk (hbox);have n2_:=aMk ((by rw [hg];exact bSz : w.heap.size ≤ gb275));have n3_:=aMk ((by rw [hg];exact bSz : w.heap.size ≤ gb275));clear HB;have HB:=n0_;have BK275:=n1_;have GW275:=n2_;have GE275:=n3_;clear n0_ n1_ n2_ n3_;clear hb hbox hg)|((with_reducible refine gate_dst (N:=3) rfl ?_);refine bxE (N:=3) (cs:=#[.string a1_0,.slice A1_1 l1_1.length c1_1,.int .i64 a1_2,.int .i64 a1_3,.int .i64 a1_4]) (t:=54) ?_;intro gb276 hg w10 hbox hb;have n0_:=aMk (bkB BK275.out hb);have n1_:=aMk (below_step (by repeat (first|(with_reducible first|exact HB.out|apply bwA|apply bwN|apply bw1|refine below_set ?_ GE275.out)|exact HB.out)) hb);have n2_:=aMk (hbox);have n3_:=aMk ((by rw [hg];exact (below_size (by repeat (first|(with_reducible first|exact HB.out|apply bwA|apply bwN|apply bw1|refine below_set ?_ GE275.out)|exact HB.out))) : w.heap.size ≤ gb276));have n4_:=aMk ((by rw [hg];exact (below_size (by repeat (first|(with_reducible first|exact HB.out|apply bwA|apply bwN|apply bw1|refine below_set ?_ GE275.out)|exact HB.out))) : w.heap.size ≤ gb276));have n5_:=aMk ((bkL BK275.out hg : gb275 ≠ gb276));have n6_:=aMk ((bkG BK275.out hg : gb276 ≠ gb275));clear BK275;clear HB;have BK275:=n0_;have HB:=n1_;have BK276:=n2_;have GW276:=n3_;have GE276:=n4_;have NB275_276:=n5_;have NB276_275:=n6_;clear n0_ n1_ n2_ n3_ n4_ n5_ n6_;clear hb hbox hg;have hnb11:=NB275_276.out;have hnc11:=NB276_275.out;obtain ⟨hcz12_0,hcz12_1,hcz12_2,hcz12_3,hcz12_4,hfz12_0,hfz12_1,hfz12_2,hfz12_3,hfz12_4⟩:=bC5 BK275.out;obtain ⟨hcz13_0,hcz13_1,hcz13_2,hcz13_3,hcz13_4,hfz13_0,hfz13_1,hfz13_2,hfz13_3,hfz13_4⟩:=bC5 BK276.out)|((with_reducible refine gate_callee (f:=61) rfl ?_);refine gLs 14 Try.func61 #[.slice A0_1 l0_1.length c0_1,.slice A1_1 l1_1.length c1_1] ?_;(with_reducible refine (laws_eqRuleS.calls k _ _ l0_1 _ _ l1_1 true _ ?side1 ?side2 ?side3 ?side4 A4.out).mono ?_);(case side1 => repeat (first|exact (Kd.C_below HR0_1.out HB.out)|(with_reducible refine Kd.C_alloc ?_ _)|(with_reducible refine Kd.C_drewN ?_ _)|(with_reducible refine Kd.C_drew ?_)));(case side2 => exact HC0_1.out);(case side3 => repeat (first|exact (Kd.C_below HR1_1.out HB.out)|(with_reducible refine Kd.C_alloc ?_ _)|(with_reducible refine Kd.C_drewN ?_ _)|(with_reducible refine Kd.C_drew ?_)));(case side4 => exact HC1_1.out);rintro e w14 ⟨rfl,hb⟩;refine ⟨_,rfl,?_⟩;have n0_:=aMk (bkB BK275.out hb);have n1_:=aMk (bkB BK276.out hb);have n2_:=aMk (below_step (by repeat (first|(with_reducible first|exact HB.out|apply bwA|apply bwN|apply bw1|refine below_set ?_ GE275.out|refine below_set ?_ GE276.out)|exact HB.out)) hb);clear BK275;clear BK276;clear HB;have BK275:=n0_;have BK276:=n1_;have HB:=n2_;clear n0_ n1_ n2_;(try clear hb);(try clear hb2);(try clear hk);(try clear hi);obtain ⟨hcz15_0,hcz15_1,hcz15_2,hcz15_3,hcz15_4,hfz15_0,hfz15_1,hfz15_2,hfz15_3,hfz15_4⟩:=bC5 BK275.out;obtain ⟨hcz16_0,hcz16_1,hcz16_2,hcz16_3,hcz16_4,hfz16_0,hfz16_1,hfz16_2,hfz16_3,hfz16_4⟩:=bC5 BK276.out))
      go_ret
      exact ⟨eRf,by repeat (first|(with_reducible first|exact HB.out|apply bwA|apply bwN|apply bw1|refine below_set ?_ GE275.out|refine below_set ?_ GE276.out)|exact HB.out)⟩
     ·rw [if_neg c8] at H
      have c8b0 : (a0_4 == a1_4) = false:=beq_eq_false_iff_ne.mpr c8
      have c8b1 : (a0_4 != a1_4) = true:=bne_iff_ne.mpr c8
      obtain rfl:=Option.some.inj H
      go_enter Try.func26,Try.ntmps26
      go_wp2_with (first|((with_reducible refine gate_dst (N:=2) rfl ?_);refine bxE (N:=2) (cs:=#[.string a0_0,.slice A0_1 l0_1.length c0_1,.int .i64 a0_2,.int .i64 a0_3,.int .i64 a0_4]) (t:=54) ?_;intro gb275 hg w17 hbox hb;have n0_:=aMk (bSt hb);have n1_:=aMk (hbox);have n2_:=aMk ((by rw [hg];exact bSz : w.heap.size ≤ gb275));have n3_:=aMk ((by rw [hg];exact bSz : w.heap.size ≤ gb275));clear HB;have HB:=n0_;have BK275:=n1_;have GW275:=n2_;have GE275:=n3_;clear n0_ n1_ n2_ n3_;clear hb hbox hg)|((with_reducible refine gate_dst (N:=3) rfl ?_);refine bxE (N:=3) (cs:=#[.string a1_0,.slice A1_1 l1_1.length c1_1,.int .i64 a1_2,.int .i64 a1_3,.int .i64 a1_4]) (t:=54) ?_;intro gb276 hg w18 hbox hb;have n0_:=aMk (bkB BK275.out hb);have n1_:=aMk (below_step (by repeat (first|(with_reducible first|exact HB.out|apply bwA|apply bwN|apply bw1|refine below_set ?_ GE275.out)|exact HB.out)) hb);have n2_:=aMk (hbox);have n3_:=aMk ((by rw [hg];exact (below_size (by repeat (first|(with_reducible first|exact HB.out|apply bwA|apply bwN|apply bw1|refine below_set ?_ GE275.out)|exact HB.out))) : w.heap.size ≤ gb276));have n4_:=aMk ((by rw [hg];exact (below_size (by repeat (first|(with_reducible first|exact HB.out|apply bwA|apply bwN|apply bw1|refine below_set ?_ GE275.out)|exact HB.out))) : w.heap.size ≤ gb276));have n5_:=aMk ((bkL BK275.out hg : gb275 ≠ gb276));have n6_:=aMk ((bkG BK275.out hg : gb276 ≠ gb275));clear BK275;clear HB;have BK275:=n0_;have HB:=n1_;have BK276:=n2_;have GW276:=n3_;have GE276:=n4_;have NB275_276:=n5_;have NB276_275:=n6_;clear n0_ n1_ n2_ n3_ n4_ n5_ n6_;clear hb hbox hg;have hnb19:=NB275_276.out;have hnc19:=NB276_275.out;obtain ⟨hcz20_0,hcz20_1,hcz20_2,hcz20_3,hcz20_4,hfz20_0,hfz20_1,hfz20_2,hfz20_3,hfz20_4⟩:=bC5 BK275.out;obtain ⟨hcz21_0,hcz21_1,hcz21_2,hcz21_3,hcz21_4,hfz21_0,hfz21_1,hfz21_2,hfz21_3,hfz21_4⟩:=bC5 BK276.out)|((with_reducible refine gate_callee (f:=61) rfl ?_);refine gLs 14 Try.func61 #[.slice A0_1 l0_1.length c0_1,.slice A1_1 l1_1.length c1_1] ?_;(with_reducible refine (laws_eqRuleS.calls k _ _ l0_1 _ _ l1_1 true _ ?side1 ?side2 ?side3 ?side4 A4.out).mono ?_);(case side1 => repeat (first|exact (Kd.C_below HR0_1.out HB.out)|(with_reducible refine Kd.C_alloc ?_ _)|(with_reducible refine Kd.C_drewN ?_ _)|(with_reducible refine Kd.C_drew ?_)));(case side2 => exact HC0_1.out);(case side3 => repeat (first|exact (Kd.C_below HR1_1.out HB.out)|(with_reducible refine Kd.C_alloc ?_ _)|(with_reducible refine Kd.C_drewN ?_ _)|(with_reducible refine Kd.C_drew ?_)));(case side4 => exact HC1_1.out);rintro e w22 ⟨rfl,hb⟩;refine ⟨_,rfl,?_⟩;have n0_:=aMk (bkB BK275.out hb);have n1_:=aMk (bkB BK276.out hb);have n2_:=aMk (below_step (by repeat (first|(with_reducible first|exact HB.out|apply bwA|apply bwN|apply bw1|refine below_set ?_ GE275.out|refine below_set ?_ GE276.out)|exact HB.out)) hb);clear BK275;clear BK276;clear HB;have BK275:=n0_;have BK276:=n1_;have HB:=n2_;clear n0_ n1_ n2_;(try clear hb);(try clear hb2);(try clear hk);(try clear hi);obtain ⟨hcz23_0,hcz23_1,hcz23_2,hcz23_3,hcz23_4,hfz23_0,hfz23_1,hfz23_2,hfz23_3,hfz23_4⟩:=bC5 BK275.out;obtain ⟨hcz24_0,hcz24_1,hcz24_2,hcz24_3,hcz24_4,hfz24_0,hfz24_1,hfz24_2,hfz24_3,hfz24_4⟩:=bC5 BK276.out))
      go_ret
      exact ⟨eRf,by repeat (first|(with_reducible first|exact HB.out|apply bwA|apply bwN|apply bw1|refine below_set ?_ GE275.out|refine below_set ?_ GE276.out)|exact HB.out)⟩
    ·rw [if_neg c7] at H
     have c7b0 : (a0_3 == a1_3) = false:=beq_eq_false_iff_ne.mpr c7
     have c7b1 : (a0_3 != a1_3) = true:=bne_iff_ne.mpr c7
     obtain rfl:=Option.some.inj H
     go_enter Try.func26,Try.ntmps26
     go_wp2_with (first|((with_reducible refine gate_dst (N:=2) rfl ?_);refine bxE (N:=2) (cs:=#[.string a0_0,.slice A0_1 l0_1.length c0_1,.int .i64 a0_2,.int .i64 a0_3,.int .i64 a0_4]) (t:=54) ?_;intro gb275 hg w25 hbox hb;have n0_:=aMk (bSt hb);have n1_:=aMk (hbox);have n2_:=aMk ((by rw [hg];exact bSz : w.heap.size ≤ gb275));have n3_:=aMk ((by rw [hg];exact bSz : w.heap.size ≤ gb275));clear HB;have HB:=n0_;have BK275:=n1_;have GW275:=n2_;have GE275:=n3_;clear n0_ n1_ n2_ n3_;clear hb hbox hg)|((with_reducible refine gate_dst (N:=3) rfl ?_);refine bxE (N:=3) (cs:=#[.string a1_0,.slice A1_1 l1_1.length c1_1,.int .i64 a1_2,.int .i64 a1_3,.int .i64 a1_4]) (t:=54) ?_;intro gb276 hg w26 hbox hb;have n0_:=aMk (bkB BK275.out hb);have n1_:=aMk (below_step (by repeat (first|(with_reducible first|exact HB.out|apply bwA|apply bwN|apply bw1|refine below_set ?_ GE275.out)|exact HB.out)) hb);have n2_:=aMk (hbox);have n3_:=aMk ((by rw [hg];exact (below_size (by repeat (first|(with_reducible first|exact HB.out|apply bwA|apply bwN|apply bw1|refine below_set ?_ GE275.out)|exact HB.out))) : w.heap.size ≤ gb276));have n4_:=aMk ((by rw [hg];exact (below_size (by repeat (first|(with_reducible first|exact HB.out|apply bwA|apply bwN|apply bw1|refine below_set ?_ GE275.out)|exact HB.out))) : w.heap.size ≤ gb276));have n5_:=aMk ((bkL BK275.out hg : gb275 ≠ gb276));have n6_:=aMk ((bkG BK275.out hg : gb276 ≠ gb275));clear BK275;clear HB;have BK275:=n0_;have HB:=n1_;have BK276:=n2_;have GW276:=n3_;have GE276:=n4_;have NB275_276:=n5_;have NB276_275:=n6_;clear n0_ n1_ n2_ n3_ n4_ n5_ n6_;clear hb hbox hg;have hnb27:=NB275_276.out;have hnc27:=NB276_275.out;obtain ⟨hcz28_0,hcz28_1,hcz28_2,hcz28_3,hcz28_4,hfz28_0,hfz28_1,hfz28_2,hfz28_3,hfz28_4⟩:=bC5 BK275.out;obtain ⟨hcz29_0,hcz29_1,hcz29_2,hcz29_3,hcz29_4,hfz29_0,hfz29_1,hfz29_2,hfz29_3,hfz29_4⟩:=bC5 BK276.out)|((with_reducible refine gate_callee (f:=61) rfl ?_);refine gLs 14 Try.func61 #[.slice A0_1 l0_1.length c0_1,.slice A1_1 l1_1.length c1_1] ?_;(with_reducible refine (laws_eqRuleS.calls k _ _ l0_1 _ _ l1_1 true _ ?side1 ?side2 ?side3 ?side4 A4.out).mono ?_);(case side1 => repeat (first|exact (Kd.C_below HR0_1.out HB.out)|(with_reducible refine Kd.C_alloc ?_ _)|(with_reducible refine Kd.C_drewN ?_ _)|(with_reducible refine Kd.C_drew ?_)));(case side2 => exact HC0_1.out);(case side3 => repeat (first|exact (Kd.C_below HR1_1.out HB.out)|(with_reducible refine Kd.C_alloc ?_ _)|(with_reducible refine Kd.C_drewN ?_ _)|(with_reducible refine Kd.C_drew ?_)));(case side4 => exact HC1_1.out);rintro e w30 ⟨rfl,hb⟩;refine ⟨_,rfl,?_⟩;have n0_:=aMk (bkB BK275.out hb);have n1_:=aMk (bkB BK276.out hb);have n2_:=aMk (below_step (by repeat (first|(with_reducible first|exact HB.out|apply bwA|apply bwN|apply bw1|refine below_set ?_ GE275.out|refine below_set ?_ GE276.out)|exact HB.out)) hb);clear BK275;clear BK276;clear HB;have BK275:=n0_;have BK276:=n1_;have HB:=n2_;clear n0_ n1_ n2_;(try clear hb);(try clear hb2);(try clear hk);(try clear hi);obtain ⟨hcz31_0,hcz31_1,hcz31_2,hcz31_3,hcz31_4,hfz31_0,hfz31_1,hfz31_2,hfz31_3,hfz31_4⟩:=bC5 BK275.out;obtain ⟨hcz32_0,hcz32_1,hcz32_2,hcz32_3,hcz32_4,hfz32_0,hfz32_1,hfz32_2,hfz32_3,hfz32_4⟩:=bC5 BK276.out))
     go_ret
     exact ⟨eRf,by repeat (first|(with_reducible first|exact HB.out|apply bwA|apply bwN|apply bw1|refine below_set ?_ GE275.out|refine below_set ?_ GE276.out)|exact HB.out)⟩
   ·rw [if_neg c6] at H
    have c6b0 : (a0_2 == a1_2) = false:=beq_eq_false_iff_ne.mpr c6
    have c6b1 : (a0_2 != a1_2) = true:=bne_iff_ne.mpr c6
    obtain rfl:=Option.some.inj H
    go_enter Try.func26,Try.ntmps26
    go_wp2_with (first|((with_reducible refine gate_dst (N:=2) rfl ?_);refine bxE (N:=2) (cs:=#[.string a0_0,.slice A0_1 l0_1.length c0_1,.int .i64 a0_2,.int .i64 a0_3,.int .i64 a0_4]) (t:=54) ?_;intro gb275 hg w33 hbox hb;have n0_:=aMk (bSt hb);have n1_:=aMk (hbox);have n2_:=aMk ((by rw [hg];exact bSz : w.heap.size ≤ gb275));have n3_:=aMk ((by rw [hg];exact bSz : w.heap.size ≤ gb275));clear HB;have HB:=n0_;have BK275:=n1_;have GW275:=n2_;have GE275:=n3_;clear n0_ n1_ n2_ n3_;clear hb hbox hg)|((with_reducible refine gate_dst (N:=3) rfl ?_);refine bxE (N:=3) (cs:=#[.string a1_0,.slice A1_1 l1_1.length c1_1,.int .i64 a1_2,.int .i64 a1_3,.int .i64 a1_4]) (t:=54) ?_;intro gb276 hg w34 hbox hb;have n0_:=aMk (bkB BK275.out hb);have n1_:=aMk (below_step (by repeat (first|(with_reducible first|exact HB.out|apply bwA|apply bwN|apply bw1|refine below_set ?_ GE275.out)|exact HB.out)) hb);have n2_:=aMk (hbox);have n3_:=aMk ((by rw [hg];exact (below_size (by repeat (first|(with_reducible first|exact HB.out|apply bwA|apply bwN|apply bw1|refine below_set ?_ GE275.out)|exact HB.out))) : w.heap.size ≤ gb276));have n4_:=aMk ((by rw [hg];exact (below_size (by repeat (first|(with_reducible first|exact HB.out|apply bwA|apply bwN|apply bw1|refine below_set ?_ GE275.out)|exact HB.out))) : w.heap.size ≤ gb276));have n5_:=aMk ((bkL BK275.out hg : gb275 ≠ gb276));have n6_:=aMk ((bkG BK275.out hg : gb276 ≠ gb275));clear BK275;clear HB;have BK275:=n0_;have HB:=n1_;have BK276:=n2_;have GW276:=n3_;have GE276:=n4_;have NB275_276:=n5_;have NB276_275:=n6_;clear n0_ n1_ n2_ n3_ n4_ n5_ n6_;clear hb hbox hg;have hnb35:=NB275_276.out;have hnc35:=NB276_275.out;obtain ⟨hcz36_0,hcz36_1,hcz36_2,hcz36_3,hcz36_4,hfz36_0,hfz36_1,hfz36_2,hfz36_3,hfz36_4⟩:=bC5 BK275.out;obtain ⟨hcz37_0,hcz37_1,hcz37_2,hcz37_3,hcz37_4,hfz37_0,hfz37_1,hfz37_2,hfz37_3,hfz37_4⟩:=bC5 BK276.out)|((with_reducible refine gate_callee (f:=61) rfl ?_);refine gLs 14 Try.func61 #[.slice A0_1 l0_1.length c0_1,.slice A1_1 l1_1.length c1_1] ?_;(with_reducible refine (laws_eqRuleS.calls k _ _ l0_1 _ _ l1_1 true _ ?side1 ?side2 ?side3 ?side4 A4.out).mono ?_);(case side1 => repeat (first|exact (Kd.C_below HR0_1.out HB.out)|(with_reducible refine Kd.C_alloc ?_ _)|(with_reducible refine Kd.C_drewN ?_ _)|(with_reducible refine Kd.C_drew ?_)));(case side2 => exact HC0_1.out);(case side3 => repeat (first|exact (Kd.C_below HR1_1.out HB.out)|(with_reducible refine Kd.C_alloc ?_ _)|(with_reducible refine Kd.C_drewN ?_ _)|(with_reducible refine Kd.C_drew ?_)));(case side4 => exact HC1_1.out);rintro e w38 ⟨rfl,hb⟩;refine ⟨_,rfl,?_⟩;have n0_:=aMk (bkB BK275.out hb);have n1_:=aMk (bkB BK276.out hb);have n2_:=aMk (below_step (by repeat (first|(with_reducible first|exact HB.out|apply bwA|apply bwN|apply bw1|refine below_set ?_ GE275.out|refine below_set ?_ GE276.out)|exact HB.out)) hb);clear BK275;clear BK276;clear HB;have BK275:=n0_;have BK276:=n1_;have HB:=n2_;clear n0_ n1_ n2_;(try clear hb);(try clear hb2);(try clear hk);(try clear hi);obtain ⟨hcz39_0,hcz39_1,hcz39_2,hcz39_3,hcz39_4,hfz39_0,hfz39_1,hfz39_2,hfz39_3,hfz39_4⟩:=bC5 BK275.out;obtain ⟨hcz40_0,hcz40_1,hcz40_2,hcz40_3,hcz40_4,hfz40_0,hfz40_1,hfz40_2,hfz40_3,hfz40_4⟩:=bC5 BK276.out))
    go_ret
    exact ⟨eRf,by repeat (first|(with_reducible first|exact HB.out|apply bwA|apply bwN|apply bw1|refine below_set ?_ GE275.out|refine below_set ?_ GE276.out)|exact HB.out)⟩
  ·replace c5:=Bool.eq_false_iff.mpr c5
   subst c5
   have H1 : (some false) = some r:=by rw [if_neg (show ¬ (false = true) by decide)] at H;exact H
   clear H
   have H:=H1
   clear H1
   obtain rfl:=Option.some.inj H
   go_enter Try.func26,Try.ntmps26
   go_wp2_with (first|((with_reducible refine gate_dst (N:=2) rfl ?_);refine bxE (N:=2) (cs:=#[.string a0_0,.slice A0_1 l0_1.length c0_1,.int .i64 a0_2,.int .i64 a0_3,.int .i64 a0_4]) (t:=54) ?_;intro gb275 hg w41 hbox hb;have n0_:=aMk (bSt hb);have n1_:=aMk (hbox);have n2_:=aMk ((by rw [hg];exact bSz : w.heap.size ≤ gb275));have n3_:=aMk ((by rw [hg];exact bSz : w.heap.size ≤ gb275));clear HB;have HB:=n0_;have BK275:=n1_;have GW275:=n2_;have GE275:=n3_;clear n0_ n1_ n2_ n3_;clear hb hbox hg)|((with_reducible refine gate_dst (N:=3) rfl ?_);refine bxE (N:=3) (cs:=#[.string a1_0,.slice A1_1 l1_1.length c1_1,.int .i64 a1_2,.int .i64 a1_3,.int .i64 a1_4]) (t:=54) ?_;intro gb276 hg w42 hbox hb;have n0_:=aMk (bkB BK275.out hb);have n1_:=aMk (below_step (by repeat (first|(with_reducible first|exact HB.out|apply bwA|apply bwN|apply bw1|refine below_set ?_ GE275.out)|exact HB.out)) hb);have n2_:=aMk (hbox);have n3_:=aMk ((by rw [hg];exact (below_size (by repeat (first|(with_reducible first|exact HB.out|apply bwA|apply bwN|apply bw1|refine below_set ?_ GE275.out)|exact HB.out))) : w.heap.size ≤ gb276));have n4_:=aMk ((by rw [hg];exact (below_size (by repeat (first|(with_reducible first|exact HB.out|apply bwA|apply bwN|apply bw1|refine below_set ?_ GE275.out)|exact HB.out))) : w.heap.size ≤ gb276));have n5_:=aMk ((bkL BK275.out hg : gb275 ≠ gb276));have n6_:=aMk ((bkG BK275.out hg : gb276 ≠ gb275));clear BK275;clear HB;have BK275:=n0_;have HB:=n1_;have BK276:=n2_;have GW276:=n3_;have GE276:=n4_;have NB275_276:=n5_;have NB276_275:=n6_;clear n0_ n1_ n2_ n3_ n4_ n5_ n6_;clear hb hbox hg;have hnb43:=NB275_276.out;have hnc43:=NB276_275.out;obtain ⟨hcz44_0,hcz44_1,hcz44_2,hcz44_3,hcz44_4,hfz44_0,hfz44_1,hfz44_2,hfz44_3,hfz44_4⟩:=bC5 BK275.out;obtain ⟨hcz45_0,hcz45_1,hcz45_2,hcz45_3,hcz45_4,hfz45_0,hfz45_1,hfz45_2,hfz45_3,hfz45_4⟩:=bC5 BK276.out)|((with_reducible refine gate_callee (f:=61) rfl ?_);refine gLs 14 Try.func61 #[.slice A0_1 l0_1.length c0_1,.slice A1_1 l1_1.length c1_1] ?_;(with_reducible refine (laws_eqRuleS.calls k _ _ l0_1 _ _ l1_1 false _ ?side1 ?side2 ?side3 ?side4 A4.out).mono ?_);(case side1 => repeat (first|exact (Kd.C_below HR0_1.out HB.out)|(with_reducible refine Kd.C_alloc ?_ _)|(with_reducible refine Kd.C_drewN ?_ _)|(with_reducible refine Kd.C_drew ?_)));(case side2 => exact HC0_1.out);(case side3 => repeat (first|exact (Kd.C_below HR1_1.out HB.out)|(with_reducible refine Kd.C_alloc ?_ _)|(with_reducible refine Kd.C_drewN ?_ _)|(with_reducible refine Kd.C_drew ?_)));(case side4 => exact HC1_1.out);rintro e w46 ⟨rfl,hb⟩;refine ⟨_,rfl,?_⟩;have n0_:=aMk (bkB BK275.out hb);have n1_:=aMk (bkB BK276.out hb);have n2_:=aMk (below_step (by repeat (first|(with_reducible first|exact HB.out|apply bwA|apply bwN|apply bw1|refine below_set ?_ GE275.out|refine below_set ?_ GE276.out)|exact HB.out)) hb);clear BK275;clear BK276;clear HB;have BK275:=n0_;have BK276:=n1_;have HB:=n2_;clear n0_ n1_ n2_;(try clear hb);(try clear hb2);(try clear hk);(try clear hi)))
   go_ret
   exact ⟨eRf,by repeat (first|(with_reducible first|exact HB.out|apply bwA|apply bwN|apply bw1|refine below_set ?_ GE275.out|refine below_set ?_ GE276.out)|exact HB.out)⟩
 ·rw [if_neg c3] at H
  have c3b0 : (a0_0.toList == a1_0.toList) = false:=beq_eq_false_iff_ne.mpr c3
  have c3b1 : (a0_0.toList != a1_0.toList) = true:=bne_iff_ne.mpr c3
  obtain rfl:=Option.some.inj H
  go_enter Try.func26,Try.ntmps26
  go_wp2_with (first|((with_reducible refine gate_dst (N:=2) rfl ?_);refine bxE (N:=2) (cs:=#[.string a0_0,.slice A0_1 l0_1.length c0_1,.int .i64 a0_2,.int .i64 a0_3,.int .i64 a0_4]) (t:=54) ?_;intro gb275 hg w47 hbox hb;have n0_:=aMk (bSt hb);have n1_:=aMk (hbox);have n2_:=aMk ((by rw [hg];exact bSz : w.heap.size ≤ gb275));have n3_:=aMk ((by rw [hg];exact bSz : w.heap.size ≤ gb275));clear HB;have HB:=n0_;have BK275:=n1_;have GW275:=n2_;have GE275:=n3_;clear n0_ n1_ n2_ n3_;clear hb hbox hg)|((with_reducible refine gate_dst (N:=3) rfl ?_);refine bxE (N:=3) (cs:=#[.string a1_0,.slice A1_1 l1_1.length c1_1,.int .i64 a1_2,.int .i64 a1_3,.int .i64 a1_4]) (t:=54) ?_;intro gb276 hg w48 hbox hb;have n0_:=aMk (bkB BK275.out hb);have n1_:=aMk (below_step (by repeat (first|(with_reducible first|exact HB.out|apply bwA|apply bwN|apply bw1|refine below_set ?_ GE275.out)|exact HB.out)) hb);have n2_:=aMk (hbox);have n3_:=aMk ((by rw [hg];exact (below_size (by repeat (first|(with_reducible first|exact HB.out|apply bwA|apply bwN|apply bw1|refine below_set ?_ GE275.out)|exact HB.out))) : w.heap.size ≤ gb276));have n4_:=aMk ((by rw [hg];exact (below_size (by repeat (first|(with_reducible first|exact HB.out|apply bwA|apply bwN|apply bw1|refine below_set ?_ GE275.out)|exact HB.out))) : w.heap.size ≤ gb276));have n5_:=aMk ((bkL BK275.out hg : gb275 ≠ gb276));have n6_:=aMk ((bkG BK275.out hg : gb276 ≠ gb275));clear BK275;clear HB;have BK275:=n0_;have HB:=n1_;have BK276:=n2_;have GW276:=n3_;have GE276:=n4_;have NB275_276:=n5_;have NB276_275:=n6_;clear n0_ n1_ n2_ n3_ n4_ n5_ n6_;clear hb hbox hg;have hnb49:=NB275_276.out;have hnc49:=NB276_275.out;obtain ⟨hcz50_0,hcz50_1,hcz50_2,hcz50_3,hcz50_4,hfz50_0,hfz50_1,hfz50_2,hfz50_3,hfz50_4⟩:=bC5 BK275.out;obtain ⟨hcz51_0,hcz51_1,hcz51_2,hcz51_3,hcz51_4,hfz51_0,hfz51_1,hfz51_2,hfz51_3,hfz51_4⟩:=bC5 BK276.out))
  go_ret
  exact ⟨eRf,by repeat (first|(with_reducible first|exact HB.out|apply bwA|apply bwN|apply bw1|refine below_set ?_ GE275.out|refine below_set ?_ GE276.out)|exact HB.out)⟩
end
section
/-! ### laws_eqRoleS: function 77 -/
def laws_eqRoleS.l0 : Nat → List (S54) → List (S54) → Int → Option (Bool)
 | 0,_,_,_ => none
 | k + 1,x0,x1,x5 => if x5 < (x0.length : Int) then (if 0 ≤ x5 then (if x5 < (x1.length : Int) then ((laws_eqRole.f k ((rd_T54 x0 x5).f0) ((rd_T54 x0 x5).f1) ((rd_T54 x0 x5).f2) ((rd_T54 x0 x5).f3) ((rd_T54 x0 x5).f4) ((rd_T54 x1 x5).f0) ((rd_T54 x1 x5).f1) ((rd_T54 x1 x5).f2) ((rd_T54 x1 x5).f3) ((rd_T54 x1 x5).f4)).bind fun t494 => (if t494 = true then (laws_eqRoleS.l0 k x0 x1 (wrap64 (x5 + 1))) else (some false))) else (none)) else (none)) else (some true)
def laws_eqRoleS.f (k : Nat) (l0 : List (S54)) (l1 : List (S54)) : Option (Bool):=if (l0.length : Int) = (l1.length : Int) then (laws_eqRoleS.l0 k l0 l1 0) else (some false)
theorem laws_eqRoleS.mono_l : ∀ k,(∀ y0 y1 y2,LeO (laws_eqRoleS.l0 k y0 y1 y2) (laws_eqRoleS.l0 (k + 1) y0 y1 y2))
 | 0 => fun _ _ _ r h => by simp [laws_eqRoleS.l0] at h
 | k + 1 => by
  have ih0:=laws_eqRoleS.mono_l k
  ·intro y0 y1 y2
   unfold laws_eqRoleS.l0
   repeat' first
   | (with_reducible exact ih0 _ _ _)
   | (with_reducible exact laws_eqRole.mono ..)
   | (with_reducible exact LeO.refl _)
   | (with_reducible exact LeO.none _)
   | (with_reducible refine LeO.ite ?_ ?_)
   | (with_reducible refine LeO.bind ?_ (fun _ => ?_))
   | exact ih0 _ _ _
   | exact laws_eqRole.mono ..
   | exact LeO.none _
   | refine LeO.ite ?_ ?_
   | refine LeO.bind ?_ (fun _ => ?_)
theorem laws_eqRoleS.mono : ∀ a0 a1 k,LeO (laws_eqRoleS.f k a0 a1) (laws_eqRoleS.f (k + 1) a0 a1):=by
 intro a0 a1 k
 have ih0:=laws_eqRoleS.mono_l k
 unfold laws_eqRoleS.f
 repeat' first
   | (with_reducible exact ih0 _ _ _)
   | (with_reducible exact laws_eqRole.mono ..)
   | (with_reducible exact LeO.refl _)
   | (with_reducible exact LeO.none _)
   | (with_reducible refine LeO.ite ?_ ?_)
   | (with_reducible refine LeO.bind ?_ (fun _ => ?_))
   | exact ih0 _ _ _
   | exact laws_eqRole.mono ..
   | exact LeO.none _
   | refine LeO.ite ?_ ?_
   | refine LeO.bind ?_ (fun _ => ?_)
def laws_eqRoleS.T6 : Bool × List (List Nat × List Nat):=(true,[([],[]),([],[]),([0,1],[0,1]),([2],[2]),([],[]),([],[]),([4,5],[4,5]),([6],[6]),([3,7],[3,7]),([8],[8])])
def laws_eqRoleS.B6 : List Nat:=[0,0,3,7,0,0,48,112,255,511]
theorem laws_eqRoleS.tab6 : rtab .any (opsOf Try.f77 6) = laws_eqRoleS.T6:=by kernel_rfl
theorem laws_eqRoleS.bits6 : waitsOk laws_eqRoleS.T6.2 laws_eqRoleS.B6 = true:=by kernel_rfl
set_option maxHeartbeats 8000000 in
set_option maxRecDepth 100000 in
theorem laws_eqRoleS.calls (k : Nat) (A0 : Option Addr) (c0 : Nat) (l0 : List (S54)) (A1 : Option Addr) (c1 : Nat) (l1 : List (S54)) (r : Bool) (w : World) (hr0 : Kd.C k54 w A0 l0.length l0) (hc0 : l0.length ≤ c0) (hr1 : Kd.C k54 w A1 l1.length l1) (hc1 : l1.length ≤ c1) (h : laws_eqRoleS.f k l0 l1 = some r) :
  Calls Try.prog 77 #[.slice A0 l0.length c0,.slice A1 l1.length c1] w fun e w' => e = .returned (.bool r) ∧ Below w.heap.size w w':=by
 have hu54:=Try.underlying54
 have HR0:=aMk hr0
 have HC0:=aMk hc0
 clear hr0 hc0
 have HR1:=aMk hr1
 have HC1:=aMk hc1
 clear hr1 hc1
 have HB:=aMk (Below.refl w.heap.size w)
 have H : (if (l0.length : Int) = (l1.length : Int) then (laws_eqRoleS.l0 k l0 l1 0) else (some false)) = some r:=h
 clear h
 by_cases c3 : (l0.length : Int) = (l1.length : Int)
 ·rw [if_pos c3] at H
  have c3b0 : ((l0.length : Int) == (l1.length : Int)) = true:=beq_iff_eq.mpr c3
  have c3b1 : ((l0.length : Int) != (l1.length : Int)) = false:=bne_eq_false_iff_eq.mpr c3
  have c3b2 : (l0.length == l1.length) = true:=by first | simpa using c3|(simp at c3 ⊢;omega)
  clear c3
  have H':=aMk H
  clear H
  go_enter Try.func77,Try.ntmps77
  go_wp2
  go_loopg [5] k (fun kq v5 w' => ∃ (x5_1 : Int),v5 = .int .i64 x5_1 ∧ Aside0 (laws_eqRoleS.l0 kq l0 l1 x5_1 = some r) ∧ Aside0 (kq ≤ k) ∧ Aside0 (Below w.heap.size w w'))
  case atStart => exact ⟨(0),(by first | rfl|(simp;done)|(simp [*];done)|(simp [ne_nil_b];done)|(simp [ne_nil_b, *];done)),H',⟨Nat.le_refl _⟩,⟨by repeat (first|(with_reducible first|exact HB.out|apply bwA|apply bwN|apply bw1)|exact HB.out)⟩⟩
  case round =>
   clear H'
   try clear c1
   try clear p2
   try clear c3
   try clear c3b0
   try clear c3b1
   try clear c3b2
   obtain ⟨x5_1,rfl,HA,HK1,HB⟩:=hrel
   cases gk with
   | zero => exact absurd HA.out (by simp [laws_eqRoleS.l0])
   | succ k1 =>
    have H:=HA.out
    clear HA
    simp only [laws_eqRoleS.l0] at H
    by_cases c4 : x5_1 < (l0.length : Int)
    ·rw [if_pos c4] at H
     have c4b0 : decide (x5_1 < (l0.length : Int)) = true:=decide_eq_true c4
     clear c4
     by_cases c5 : 0 ≤ x5_1
     ·rw [if_pos c5] at H
      have c5b0 : decide (0 ≤ x5_1) = true:=decide_eq_true c5
      clear c5
      by_cases c6 : x5_1 < (l1.length : Int)
      ·rw [if_pos c6] at H
       have c6b0 : decide (x5_1 < (l1.length : Int)) = true:=decide_eq_true c6
       clear c6
       replace H:=Option.bind_eq_some_iff.mp H
       obtain ⟨t494,A70,H⟩:=H
       replace H : (if t494 = true then (laws_eqRoleS.l0 k1 l0 l1 (wrap64 (x5_1 + 1))) else (some false)) = some r:=H
       have A7:=aMk A70
       clear A70
       by_cases c8 : t494 = true
       ·subst c8
        have H1 : (laws_eqRoleS.l0 k1 l0 l1 (wrap64 (x5_1 + 1))) = some r:=by rw [if_pos rfl] at H;exact H
        clear H
        have H:=H1
        clear H1
        have H':=aMk H
        clear H
        try go_wp2
        have n0_:=aMk (bw1 HB.out)
        clear HB
        have HB:=n0_
        clear n0_
        have p492 : 0 ≤ (x5_1 : Int):=of_decide_eq_true (by first|(with_reducible assumption) | assumption)
        have q492 : x5_1 < (l0.length : Int):=of_decide_eq_true (by first|(with_reducible assumption) | assumption)
        obtain ⟨ad492,A492_1,c492_1,e492,hx492_0,hx492_1,hx492_2,hx492_3,hx492_4,hl492_1,hi492_1⟩:=at_T54 HR0.out x5_1 p492 q492
        have hw492_4:=hx492_4
        have hw492_3:=hx492_3
        have hw492_2:=hx492_2
        have hw492_1:=hx492_1
        have hw492_0:=hx492_0
        cases e492
        replace hx492_0:=bXc HB.out hx492_0
        replace hx492_1:=bXc HB.out hx492_1
        replace hx492_2:=bXc HB.out hx492_2
        replace hx492_3:=bXc HB.out hx492_3
        replace hx492_4:=bXc HB.out hx492_4
        have HR492_1:=aMk hi492_1
        have HC492_1:=aMk hl492_1
        clear hi492_1 hl492_1
        replace p492:=eq_true p492
        replace q492:=eq_true q492
        have p493 : 0 ≤ (x5_1 : Int):=of_decide_eq_true (by first|(with_reducible assumption) | assumption)
        have q493 : x5_1 < (l1.length : Int):=of_decide_eq_true (by first|(with_reducible assumption) | assumption)
        obtain ⟨ad493,A493_1,c493_1,e493,hx493_0,hx493_1,hx493_2,hx493_3,hx493_4,hl493_1,hi493_1⟩:=at_T54 HR1.out x5_1 p493 q493
        have hw493_4:=hx493_4
        have hw493_3:=hx493_3
        have hw493_2:=hx493_2
        have hw493_1:=hx493_1
        have hw493_0:=hx493_0
        cases e493
        replace hx493_0:=bXc HB.out hx493_0
        replace hx493_1:=bXc HB.out hx493_1
        replace hx493_2:=bXc HB.out hx493_2
        replace hx493_3:=bXc HB.out hx493_3
        replace hx493_4:=bXc HB.out hx493_4
        have HR493_1:=aMk hi493_1
        have HC493_1:=aMk hl493_1
        clear hi493_1 hl493_1
        replace p493:=eq_true p493
        replace q493:=eq_true q493
        refine start_ (n:=10) (S:=fun w' => w'.cell? (ad492.add ((x5_1).toNat * 5)) = some (.string ((rd_T54 l0 x5_1).f0)) ∧ w'.cell? ⟨(ad492.add ((x5_1).toNat * 5)).block,(ad492.add ((x5_1).toNat * 5)).off + 1,none⟩ = some (.slice A492_1 ((rd_T54 l0 x5_1).f1).length c492_1) ∧ w'.cell? ⟨(ad492.add ((x5_1).toNat * 5)).block,(ad492.add ((x5_1).toNat * 5)).off + 2,none⟩ = some (.int .i64 ((rd_T54 l0 x5_1).f2)) ∧ w'.cell? ⟨(ad492.add ((x5_1).toNat * 5)).block,(ad492.add ((x5_1).toNat * 5)).off + 3,none⟩ = some (.int .i64 ((rd_T54 l0 x5_1).f3)) ∧ w'.cell? ⟨(ad492.add ((x5_1).toNat * 5)).block,(ad492.add ((x5_1).toNat * 5)).off + 4,none⟩ = some (.int .i64 ((rd_T54 l0 x5_1).f4)) ∧ w'.cell? (ad493.add ((x5_1).toNat * 5)) = some (.string ((rd_T54 l1 x5_1).f0)) ∧ w'.cell? ⟨(ad493.add ((x5_1).toNat * 5)).block,(ad493.add ((x5_1).toNat * 5)).off + 1,none⟩ = some (.slice A493_1 ((rd_T54 l1 x5_1).f1).length c493_1) ∧ w'.cell? ⟨(ad493.add ((x5_1).toNat * 5)).block,(ad493.add ((x5_1).toNat * 5)).off + 2,none⟩ = some (.int .i64 ((rd_T54 l1 x5_1).f2)) ∧ w'.cell? ⟨(ad493.add ((x5_1).toNat * 5)).block,(ad493.add ((x5_1).toNat * 5)).off + 3,none⟩ = some (.int .i64 ((rd_T54 l1 x5_1).f3)) ∧ w'.cell? ⟨(ad493.add ((x5_1).toNat * 5)).block,(ad493.add ((x5_1).toNat * 5)).off + 4,none⟩ = some (.int .i64 ((rd_T54 l1 x5_1).f4))) (ds:=[]) #[false,false,false,false,false,false,false,false,false,false] (by kernel_rfl) rfl rfl ⟨((HB.out.cell (wLt w _ hw492_0)).trans hw492_0),((HB.out.cell (wLt w _ hw492_1)).trans hw492_1),((HB.out.cell (wLt w _ hw492_2)).trans hw492_2),((HB.out.cell (wLt w _ hw492_3)).trans hw492_3),((HB.out.cell (wLt w _ hw492_4)).trans hw492_4),((HB.out.cell (wLt w _ hw493_0)).trans hw493_0),((HB.out.cell (wLt w _ hw493_1)).trans hw493_1),((HB.out.cell (wLt w _ hw493_2)).trans hw493_2),((HB.out.cell (wLt w _ hw493_3)).trans hw493_3),((HB.out.cell (wLt w _ hw493_4)).trans hw493_4)⟩ (fun hHeld => ?_);refine with_tabW laws_eqRoleS.tab6 laws_eqRoleS.bits6 (fun HT_ HW_ => ?_)
        generalize wr.drew = w9 at HB HR492_1 HR493_1 hx492_0 hx492_1 hx492_2 hx492_3 hx492_4 hx493_0 hx493_1 hx493_2 hx493_3 hx493_4 hHeld ⊢
        refine pure_ (i:=0) (N:=some 17) (v:=?_) (a':=?_) #[true,false,false,false,false,false,false,false,false,false] rfl rfl (any_of HT_.out (by kernel_rfl)) (fun _ _ _ h => h) (Or.inl ⟨by rfl,?_⟩) ?_ ?_
        rotate_left
        ·intro w'
         go_simp
         with_reducible rfl
        rotate_left
        ·simp only [Act.put,List.setIfInBounds_toArray,List.set_cons_zero,List.set_cons_succ,i64_w,i32_w]
         rfl
        refine pure_ (i:=1) (N:=some 18) (v:=?_) (a':=?_) #[true,true,false,false,false,false,false,false,false,false] rfl rfl (any_of HT_.out (by kernel_rfl)) (fun _ _ _ h => h) (Or.inl ⟨by rfl,?_⟩) ?_ ?_
        rotate_left
        ·intro w'
         go_simp
         with_reducible rfl
        rotate_left
        ·simp only [Act.put,List.setIfInBounds_toArray,List.set_cons_zero,List.set_cons_succ,i64_w,i32_w]
         rfl
        refine pure_ (i:=2) (N:=some 19) (v:=?_) (a':=?_) #[true,true,true,false,false,false,false,false,false,false] rfl rfl (any_of HT_.out (by kernel_rfl)) (fun _ _ _ h => h) (Or.inl ⟨by rfl,?_⟩) ?_ ?_
        rotate_left
        ·intro w'
         go_simp
         with_reducible rfl
        rotate_left
        ·simp only [Act.put,List.setIfInBounds_toArray,List.set_cons_zero,List.set_cons_succ,i64_w,i32_w]
         rfl
        refine pure_ (i:=4) (N:=some 21) (v:=?_) (a':=?_) #[true,true,true,false,true,false,false,false,false,false] rfl rfl (any_of HT_.out (by kernel_rfl)) (fun _ _ _ h => h) (Or.inl ⟨by rfl,?_⟩) ?_ ?_
        rotate_left
        ·intro w'
         go_simp
         with_reducible rfl
        rotate_left
        ·simp only [Act.put,List.setIfInBounds_toArray,List.set_cons_zero,List.set_cons_succ,i64_w,i32_w]
         rfl
        refine pure_ (i:=5) (N:=some 22) (v:=?_) (a':=?_) #[true,true,true,false,true,true,false,false,false,false] rfl rfl (any_of HT_.out (by kernel_rfl)) (fun _ _ _ h => h) (Or.inl ⟨by rfl,?_⟩) ?_ ?_
        rotate_left
        ·intro w'
         go_simp
         with_reducible rfl
        rotate_left
        ·simp only [Act.put,List.setIfInBounds_toArray,List.set_cons_zero,List.set_cons_succ,i64_w,i32_w]
         rfl
        refine pure_ (i:=6) (N:=some 23) (v:=?_) (a':=?_) #[true,true,true,false,true,true,true,false,false,false] rfl rfl (any_of HT_.out (by kernel_rfl)) (fun _ _ _ h => h) (Or.inl ⟨by rfl,?_⟩) ?_ ?_
        rotate_left
        ·intro w'
         go_simp
         with_reducible rfl
        rotate_left
        ·simp only [Act.put,List.setIfInBounds_toArray,List.set_cons_zero,List.set_cons_succ,i64_w,i32_w]
         rfl
        refine take_ (i:=3) (N:=some 20) (v:=?_) (a':=?_) #[true,true,true,true,true,true,true,false,false,false] rfl rfl (take_ofW HT_.out HW_.out (by kernel_rfl)) (fun _ _ _ h => h) (Or.inl ⟨by rfl,?_⟩) hHeld ?_ ?_
        rotate_left
        ·rintro w' ⟨s0,s1,s2,s3,s4,s5,s6,s7,s8,s9⟩
         go_simp
         with_reducible rfl
        rotate_left
        ·simp only [Act.put,List.setIfInBounds_toArray,List.set_cons_zero,List.set_cons_succ,i64_w,i32_w]
         rfl
        refine take_ (i:=7) (N:=some 24) (v:=?_) (a':=?_) #[true,true,true,true,true,true,true,true,false,false] rfl rfl (take_ofW HT_.out HW_.out (by kernel_rfl)) (fun _ _ _ h => h) (Or.inl ⟨by rfl,?_⟩) hHeld ?_ ?_
        rotate_left
        ·rintro w' ⟨s0,s1,s2,s3,s4,s5,s6,s7,s8,s9⟩
         go_simp
         with_reducible rfl
        rotate_left
        ·simp only [Act.put,List.setIfInBounds_toArray,List.set_cons_zero,List.set_cons_succ,i64_w,i32_w]
         rfl
        refine one_ (i:=8) (N:=some 25) #[true,true,true,true,true,true,true,true,true,false] rfl rfl (one_of HT_.out (by kernel_rfl)) (by decide) (fun K hK => ?_)
        refine goes_ Try.func26 (by kernel_rfl) rfl #[.agg #[.string ((rd_T54 l0 x5_1).f0),.slice A492_1 ((rd_T54 l0 x5_1).f1).length c492_1,.int .i64 ((rd_T54 l0 x5_1).f2),.int .i64 ((rd_T54 l0 x5_1).f3),.int .i64 ((rd_T54 l0 x5_1).f4)],.agg #[.string ((rd_T54 l1 x5_1).f0),.slice A493_1 ((rd_T54 l1 x5_1).f1).length c493_1,.int .i64 ((rd_T54 l1 x5_1).f2),.int .i64 ((rd_T54 l1 x5_1).f3),.int .i64 ((rd_T54 l1 x5_1).f4)]] (by rfl) rfl rfl (by (try simp only [List.map_toArray,List.map_cons,List.map_nil]);first | done | rfl|(simp only [List.length_drop,List.length_take];rfl)) ?_
        with_reducible refine (laws_eqRole.calls k1 ((rd_T54 l0 x5_1).f0) _ _ ((rd_T54 l0 x5_1).f1) ((rd_T54 l0 x5_1).f2) ((rd_T54 l0 x5_1).f3) ((rd_T54 l0 x5_1).f4) ((rd_T54 l1 x5_1).f0) _ _ ((rd_T54 l1 x5_1).f1) ((rd_T54 l1 x5_1).f2) ((rd_T54 l1 x5_1).f3) ((rd_T54 l1 x5_1).f4) true _ ?side1 ?side2 ?side3 ?side4 A7.out).mono ?_
        (case side1 => repeat (first|exact (Kd.C_below HR492_1.out HB.out)|(with_reducible refine Kd.C_alloc ?_ _)|(with_reducible refine Kd.C_drewN ?_ _)|(with_reducible refine Kd.C_drew ?_)))
        (case side2 => exact HC492_1.out)
        (case side3 => repeat (first|exact (Kd.C_below HR493_1.out HB.out)|(with_reducible refine Kd.C_alloc ?_ _)|(with_reducible refine Kd.C_drewN ?_ _)|(with_reducible refine Kd.C_drew ?_)))
        (case side4 => exact HC493_1.out)
        rintro e w10 ⟨rfl,hb⟩
        refine ⟨_,rfl,?_⟩
        have n0_:=aMk (bSt hb)
        clear HB
        have HB:=n0_
        clear n0_
        (try clear hb)
        (try clear hb2)
        (try clear hk)
        (try clear hi)
        refine hK.out _ _ ⟨((HB.out.cell (wLt w _ hw492_0)).trans hw492_0),((HB.out.cell (wLt w _ hw492_1)).trans hw492_1),((HB.out.cell (wLt w _ hw492_2)).trans hw492_2),((HB.out.cell (wLt w _ hw492_3)).trans hw492_3),((HB.out.cell (wLt w _ hw492_4)).trans hw492_4),((HB.out.cell (wLt w _ hw493_0)).trans hw493_0),((HB.out.cell (wLt w _ hw493_1)).trans hw493_1),((HB.out.cell (wLt w _ hw493_2)).trans hw493_2),((HB.out.cell (wLt w _ hw493_3)).trans hw493_3),((HB.out.cell (wLt w _ hw493_4)).trans hw493_4)⟩ (fun hHeld => ?_)
        clear hK K
        refine norm_ (a':=?_) ?_ ?_
        rotate_left
        ·show Act.put _ (some 25) _ = _
         simp only [Act.put,List.setIfInBounds_toArray,List.set_cons_zero,List.set_cons_succ,i64_w,i32_w]
         rfl
        refine pure_ (i:=9) (N:=some 26) (v:=?_) (a':=?_) #[true,true,true,true,true,true,true,true,true,true] rfl rfl (any_of HT_.out (by kernel_rfl)) (fun _ _ _ h => h) (Or.inl ⟨by rfl,?_⟩) ?_ ?_
        rotate_left
        ·intro w'
         go_simp
         with_reducible rfl
        rotate_left
        ·simp only [Act.put,List.setIfInBounds_toArray,List.set_cons_zero,List.set_cons_succ,i64_w,i32_w]
         rfl
        refine done_ (done_of HT_.out (by kernel_rfl)) ?_
        try go_wp2
        go_roundg k1
        case measure => have:=HK1.out;omega
        case rel => exact ⟨(wrap64 (x5_1 + 1)),(by first | rfl|(simp;done)|(simp [*];done)|(simp [ne_nil_b];done)|(simp [ne_nil_b, *];done)),H',⟨by have:=HK1.out;omega⟩,⟨by repeat (first|(with_reducible first|exact HB.out|apply bwA|apply bwN|apply bw1)|exact HB.out)⟩⟩
       ·replace c8:=Bool.eq_false_iff.mpr c8
        subst c8
        have H1 : (some false) = some r:=by rw [if_neg (show ¬ (false = true) by decide)] at H;exact H
        clear H
        have H:=H1
        clear H1
        obtain rfl:=Option.some.inj H
        try go_wp2
        have n0_:=aMk (bw1 HB.out)
        clear HB
        have HB:=n0_
        clear n0_
        have p492 : 0 ≤ (x5_1 : Int):=of_decide_eq_true (by first|(with_reducible assumption) | assumption)
        have q492 : x5_1 < (l0.length : Int):=of_decide_eq_true (by first|(with_reducible assumption) | assumption)
        obtain ⟨ad492,A492_1,c492_1,e492,hx492_0,hx492_1,hx492_2,hx492_3,hx492_4,hl492_1,hi492_1⟩:=at_T54 HR0.out x5_1 p492 q492
        have hw492_4:=hx492_4
        have hw492_3:=hx492_3
        have hw492_2:=hx492_2
        have hw492_1:=hx492_1
        have hw492_0:=hx492_0
        cases e492
        replace hx492_0:=bXc HB.out hx492_0
        replace hx492_1:=bXc HB.out hx492_1
        replace hx492_2:=bXc HB.out hx492_2
        replace hx492_3:=bXc HB.out hx492_3
        replace hx492_4:=bXc HB.out hx492_4
        have HR492_1:=aMk hi492_1
        have HC492_1:=aMk hl492_1
        clear hi492_1 hl492_1
        replace p492:=eq_true p492
        replace q492:=eq_true q492
        have p493 : 0 ≤ (x5_1 : Int):=of_decide_eq_true (by first|(with_reducible assumption) | assumption)
        have q493 : x5_1 < (l1.length : Int):=of_decide_eq_true (by first|(with_reducible assumption) | assumption)
        obtain ⟨ad493,A493_1,c493_1,e493,hx493_0,hx493_1,hx493_2,hx493_3,hx493_4,hl493_1,hi493_1⟩:=at_T54 HR1.out x5_1 p493 q493
        have hw493_4:=hx493_4
        have hw493_3:=hx493_3
        have hw493_2:=hx493_2
        have hw493_1:=hx493_1
        have hw493_0:=hx493_0
        cases e493
        replace hx493_0:=bXc HB.out hx493_0
        replace hx493_1:=bXc HB.out hx493_1
        replace hx493_2:=bXc HB.out hx493_2
        replace hx493_3:=bXc HB.out hx493_3
        replace hx493_4:=bXc HB.out hx493_4
        have HR493_1:=aMk hi493_1
        have HC493_1:=aMk hl493_1
        clear hi493_1 hl493_1
        replace p493:=eq_true p493
        replace q493:=eq_true q493
        refine start_ (n:=10) (S:=fun w' => w'.cell? (ad492.add ((x5_1).toNat * 5)) = some (.string ((rd_T54 l0 x5_1).f0)) ∧ w'.cell? ⟨(ad492.add ((x5_1).toNat * 5)).block,(ad492.add ((x5_1).toNat * 5)).off + 1,none⟩ = some (.slice A492_1 ((rd_T54 l0 x5_1).f1).length c492_1) ∧ w'.cell? ⟨(ad492.add ((x5_1).toNat * 5)).block,(ad492.add ((x5_1).toNat * 5)).off + 2,none⟩ = some (.int .i64 ((rd_T54 l0 x5_1).f2)) ∧ w'.cell? ⟨(ad492.add ((x5_1).toNat * 5)).block,(ad492.add ((x5_1).toNat * 5)).off + 3,none⟩ = some (.int .i64 ((rd_T54 l0 x5_1).f3)) ∧ w'.cell? ⟨(ad492.add ((x5_1).toNat * 5)).block,(ad492.add ((x5_1).toNat * 5)).off + 4,none⟩ = some (.int .i64 ((rd_T54 l0 x5_1).f4)) ∧ w'.cell? (ad493.add ((x5_1).toNat * 5)) = some (.string ((rd_T54 l1 x5_1).f0)) ∧ w'.cell? ⟨(ad493.add ((x5_1).toNat * 5)).block,(ad493.add ((x5_1).toNat * 5)).off + 1,none⟩ = some (.slice A493_1 ((rd_T54 l1 x5_1).f1).length c493_1) ∧ w'.cell? ⟨(ad493.add ((x5_1).toNat * 5)).block,(ad493.add ((x5_1).toNat * 5)).off + 2,none⟩ = some (.int .i64 ((rd_T54 l1 x5_1).f2)) ∧ w'.cell? ⟨(ad493.add ((x5_1).toNat * 5)).block,(ad493.add ((x5_1).toNat * 5)).off + 3,none⟩ = some (.int .i64 ((rd_T54 l1 x5_1).f3)) ∧ w'.cell? ⟨(ad493.add ((x5_1).toNat * 5)).block,(ad493.add ((x5_1).toNat * 5)).off + 4,none⟩ = some (.int .i64 ((rd_T54 l1 x5_1).f4))) (ds:=[]) #[false,false,false,false,false,false,false,false,false,false] (by kernel_rfl) rfl rfl ⟨((HB.out.cell (wLt w _ hw492_0)).trans hw492_0),((HB.out.cell (wLt w _ hw492_1)).trans hw492_1),((HB.out.cell (wLt w _ hw492_2)).trans hw492_2),((HB.out.cell (wLt w _ hw492_3)).trans hw492_3),((HB.out.cell (wLt w _ hw492_4)).trans hw492_4),((HB.out.cell (wLt w _ hw493_0)).trans hw493_0),((HB.out.cell (wLt w _ hw493_1)).trans hw493_1),((HB.out.cell (wLt w _ hw493_2)).trans hw493_2),((HB.out.cell (wLt w _ hw493_3)).trans hw493_3),((HB.out.cell (wLt w _ hw493_4)).trans hw493_4)⟩ (fun hHeld => ?_);refine with_tabW laws_eqRoleS.tab6 laws_eqRoleS.bits6 (fun HT_ HW_ => ?_)
        generalize wr.drew = w11 at HB HR492_1 HR493_1 hx492_0 hx492_1 hx492_2 hx492_3 hx492_4 hx493_0 hx493_1 hx493_2 hx493_3 hx493_4 hHeld ⊢
        refine pure_ (i:=0) (N:=some 17) (v:=?_) (a':=?_) #[true,false,false,false,false,false,false,false,false,false] rfl rfl (any_of HT_.out (by kernel_rfl)) (fun _ _ _ h => h) (Or.inl ⟨by rfl,?_⟩) ?_ ?_
        rotate_left
        ·intro w'
         go_simp
         with_reducible rfl
        rotate_left
        ·simp only [Act.put,List.setIfInBounds_toArray,List.set_cons_zero,List.set_cons_succ,i64_w,i32_w]
         rfl
        refine pure_ (i:=1) (N:=some 18) (v:=?_) (a':=?_) #[true,true,false,false,false,false,false,false,false,false] rfl rfl (any_of HT_.out (by kernel_rfl)) (fun _ _ _ h => h) (Or.inl ⟨by rfl,?_⟩) ?_ ?_
        rotate_left
        ·intro w'
         go_simp
         with_reducible rfl
        rotate_left
        ·simp only [Act.put,List.setIfInBounds_toArray,List.set_cons_zero,List.set_cons_succ,i64_w,i32_w]
         rfl
        refine pure_ (i:=2) (N:=some 19) (v:=?_) (a':=?_) #[true,true,true,false,false,false,false,false,false,false] rfl rfl (any_of HT_.out (by kernel_rfl)) (fun _ _ _ h => h) (Or.inl ⟨by rfl,?_⟩) ?_ ?_
        rotate_left
        ·intro w'
         go_simp
         with_reducible rfl
        rotate_left
        ·simp only [Act.put,List.setIfInBounds_toArray,List.set_cons_zero,List.set_cons_succ,i64_w,i32_w]
         rfl
        refine pure_ (i:=4) (N:=some 21) (v:=?_) (a':=?_) #[true,true,true,false,true,false,false,false,false,false] rfl rfl (any_of HT_.out (by kernel_rfl)) (fun _ _ _ h => h) (Or.inl ⟨by rfl,?_⟩) ?_ ?_
        rotate_left
        ·intro w'
         go_simp
         with_reducible rfl
        rotate_left
        ·simp only [Act.put,List.setIfInBounds_toArray,List.set_cons_zero,List.set_cons_succ,i64_w,i32_w]
         rfl
        refine pure_ (i:=5) (N:=some 22) (v:=?_) (a':=?_) #[true,true,true,false,true,true,false,false,false,false] rfl rfl (any_of HT_.out (by kernel_rfl)) (fun _ _ _ h => h) (Or.inl ⟨by rfl,?_⟩) ?_ ?_
        rotate_left
        ·intro w'
         go_simp
         with_reducible rfl
        rotate_left
        ·simp only [Act.put,List.setIfInBounds_toArray,List.set_cons_zero,List.set_cons_succ,i64_w,i32_w]
         rfl
        refine pure_ (i:=6) (N:=some 23) (v:=?_) (a':=?_) #[true,true,true,false,true,true,true,false,false,false] rfl rfl (any_of HT_.out (by kernel_rfl)) (fun _ _ _ h => h) (Or.inl ⟨by rfl,?_⟩) ?_ ?_
        rotate_left
        ·intro w'
         go_simp
         with_reducible rfl
        rotate_left
        ·simp only [Act.put,List.setIfInBounds_toArray,List.set_cons_zero,List.set_cons_succ,i64_w,i32_w]
         rfl
        refine take_ (i:=3) (N:=some 20) (v:=?_) (a':=?_) #[true,true,true,true,true,true,true,false,false,false] rfl rfl (take_ofW HT_.out HW_.out (by kernel_rfl)) (fun _ _ _ h => h) (Or.inl ⟨by rfl,?_⟩) hHeld ?_ ?_
        rotate_left
        ·rintro w' ⟨s0,s1,s2,s3,s4,s5,s6,s7,s8,s9⟩
         go_simp
         with_reducible rfl
        rotate_left
        ·simp only [Act.put,List.setIfInBounds_toArray,List.set_cons_zero,List.set_cons_succ,i64_w,i32_w]
         rfl
        refine take_ (i:=7) (N:=some 24) (v:=?_) (a':=?_) #[true,true,true,true,true,true,true,true,false,false] rfl rfl (take_ofW HT_.out HW_.out (by kernel_rfl)) (fun _ _ _ h => h) (Or.inl ⟨by rfl,?_⟩) hHeld ?_ ?_
        rotate_left
        ·rintro w' ⟨s0,s1,s2,s3,s4,s5,s6,s7,s8,s9⟩
         go_simp
         with_reducible rfl
        rotate_left
        ·simp only [Act.put,List.setIfInBounds_toArray,List.set_cons_zero,List.set_cons_succ,i64_w,i32_w]
         rfl
        refine one_ (i:=8) (N:=some 25) #[true,true,true,true,true,true,true,true,true,false] rfl rfl (one_of HT_.out (by kernel_rfl)) (by decide) (fun K hK => ?_)
        refine goes_ Try.func26 (by kernel_rfl) rfl #[.agg #[.string ((rd_T54 l0 x5_1).f0),.slice A492_1 ((rd_T54 l0 x5_1).f1).length c492_1,.int .i64 ((rd_T54 l0 x5_1).f2),.int .i64 ((rd_T54 l0 x5_1).f3),.int .i64 ((rd_T54 l0 x5_1).f4)],.agg #[.string ((rd_T54 l1 x5_1).f0),.slice A493_1 ((rd_T54 l1 x5_1).f1).length c493_1,.int .i64 ((rd_T54 l1 x5_1).f2),.int .i64 ((rd_T54 l1 x5_1).f3),.int .i64 ((rd_T54 l1 x5_1).f4)]] (by rfl) rfl rfl (by (try simp only [List.map_toArray,List.map_cons,List.map_nil]);first | done | rfl|(simp only [List.length_drop,List.length_take];rfl)) ?_
        with_reducible refine (laws_eqRole.calls k1 ((rd_T54 l0 x5_1).f0) _ _ ((rd_T54 l0 x5_1).f1) ((rd_T54 l0 x5_1).f2) ((rd_T54 l0 x5_1).f3) ((rd_T54 l0 x5_1).f4) ((rd_T54 l1 x5_1).f0) _ _ ((rd_T54 l1 x5_1).f1) ((rd_T54 l1 x5_1).f2) ((rd_T54 l1 x5_1).f3) ((rd_T54 l1 x5_1).f4) false _ ?side1 ?side2 ?side3 ?side4 A7.out).mono ?_
        (case side1 => repeat (first|exact (Kd.C_below HR492_1.out HB.out)|(with_reducible refine Kd.C_alloc ?_ _)|(with_reducible refine Kd.C_drewN ?_ _)|(with_reducible refine Kd.C_drew ?_)))
        (case side2 => exact HC492_1.out)
        (case side3 => repeat (first|exact (Kd.C_below HR493_1.out HB.out)|(with_reducible refine Kd.C_alloc ?_ _)|(with_reducible refine Kd.C_drewN ?_ _)|(with_reducible refine Kd.C_drew ?_)))
        (case side4 => exact HC493_1.out)
        rintro e w12 ⟨rfl,hb⟩
        refine ⟨_,rfl,?_⟩
        have n0_:=aMk (bSt hb)
        clear HB
        have HB:=n0_
        clear n0_
        (try clear hb)
        (try clear hb2)
        (try clear hk)
        (try clear hi)
        refine hK.out _ _ ⟨((HB.out.cell (wLt w _ hw492_0)).trans hw492_0),((HB.out.cell (wLt w _ hw492_1)).trans hw492_1),((HB.out.cell (wLt w _ hw492_2)).trans hw492_2),((HB.out.cell (wLt w _ hw492_3)).trans hw492_3),((HB.out.cell (wLt w _ hw492_4)).trans hw492_4),((HB.out.cell (wLt w _ hw493_0)).trans hw493_0),((HB.out.cell (wLt w _ hw493_1)).trans hw493_1),((HB.out.cell (wLt w _ hw493_2)).trans hw493_2),((HB.out.cell (wLt w _ hw493_3)).trans hw493_3),((HB.out.cell (wLt w _ hw493_4)).trans hw493_4)⟩ (fun hHeld => ?_)
        clear hK K
        refine norm_ (a':=?_) ?_ ?_
        rotate_left
        ·show Act.put _ (some 25) _ = _
         simp only [Act.put,List.setIfInBounds_toArray,List.set_cons_zero,List.set_cons_succ,i64_w,i32_w]
         rfl
        refine pure_ (i:=9) (N:=some 26) (v:=?_) (a':=?_) #[true,true,true,true,true,true,true,true,true,true] rfl rfl (any_of HT_.out (by kernel_rfl)) (fun _ _ _ h => h) (Or.inl ⟨by rfl,?_⟩) ?_ ?_
        rotate_left
        ·intro w'
         go_simp
         with_reducible rfl
        rotate_left
        ·simp only [Act.put,List.setIfInBounds_toArray,List.set_cons_zero,List.set_cons_succ,i64_w,i32_w]
         rfl
        refine done_ (done_of HT_.out (by kernel_rfl)) ?_
        try go_wp2
        go_ret
        exact ⟨eRf,by repeat (first|(with_reducible first|exact HB.out|apply bwA|apply bwN|apply bw1)|exact HB.out)⟩
      ·rw [if_neg c6] at H
       exact absurd H (by simp)
     ·rw [if_neg c5] at H
      exact absurd H (by simp)
    ·rw [if_neg c4] at H
     have c4b0 : decide (x5_1 < (l0.length : Int)) = false:=decide_eq_false c4
     clear c4
     obtain rfl:=Option.some.inj H
     go_wp2
     go_ret
     exact ⟨eRf,by repeat (first|(with_reducible first|exact HB.out|apply bwA|apply bwN|apply bw1)|exact HB.out)⟩
 ·rw [if_neg c3] at H
  have c3b0 : ((l0.length : Int) == (l1.length : Int)) = false:=beq_eq_false_iff_ne.mpr c3
  have c3b1 : ((l0.length : Int) != (l1.length : Int)) = true:=bne_iff_ne.mpr c3
  have c3b2 : (l0.length == l1.length) = false:=by first | simpa using c3|(simp at c3 ⊢;omega)
  obtain rfl:=Option.some.inj H
  go_enter Try.func77,Try.ntmps77
  go_wp2
  go_ret
  exact ⟨eRf,by repeat (first|(with_reducible first|exact HB.out|apply bwA|apply bwN|apply bw1)|exact HB.out)⟩
end
section
/-! ### laws_eqConfig: function 35 -/
def laws_eqConfig.f (k : Nat) (a0_0 : Int) (a0_1 : Int) (a0_2 : Int) (a0_3 : ByteArray) (a0_4 : ByteArray) (a0_5 : Int) (l0_6 : List (S100)) (l0_7 : List (S54)) (a1_0 : Int) (a1_1 : Int) (a1_2 : Int) (a1_3 : ByteArray) (a1_4 : ByteArray) (a1_5 : Int) (l1_6 : List (S100)) (l1_7 : List (S54)) : Option (Bool):=(laws_eqNet.f a0_0 a0_1 a1_0 a1_1).bind fun t497 => (if t497 = true then (if a0_2 = a1_2 then (if a0_3.toList = a1_3.toList then (if a0_4.toList = a1_4.toList then (if a0_5 = a1_5 then ((laws_eqPlaceS.f k l0_6 l1_6).bind fun t498 => (if t498 = true then ((laws_eqRoleS.f k l0_7 l1_7).bind fun t499 => (if t499 = true then (some true) else (some false))) else (some false))) else (some false)) else (some false)) else (some false)) else (some false)) else (some false))
theorem laws_eqConfig.mono : ∀ a0 a1 a2 a3 a4 a5 a6 a7 a8 a9 a10 a11 a12 a13 a14 a15 k,LeO (laws_eqConfig.f k a0 a1 a2 a3 a4 a5 a6 a7 a8 a9 a10 a11 a12 a13 a14 a15) (laws_eqConfig.f (k + 1) a0 a1 a2 a3 a4 a5 a6 a7 a8 a9 a10 a11 a12 a13 a14 a15):=by
 intro a0 a1 a2 a3 a4 a5 a6 a7 a8 a9 a10 a11 a12 a13 a14 a15 k
 unfold laws_eqConfig.f
 repeat' first
   | (with_reducible exact laws_eqPlaceS.mono ..)
   | (with_reducible exact laws_eqRoleS.mono ..)
   | (with_reducible exact LeO.refl _)
   | (with_reducible exact LeO.none _)
   | (with_reducible refine LeO.ite ?_ ?_)
   | (with_reducible refine LeO.bind ?_ (fun _ => ?_))
   | exact laws_eqPlaceS.mono ..
   | exact laws_eqRoleS.mono ..
   | exact LeO.none _
   | refine LeO.ite ?_ ?_
   | refine LeO.bind ?_ (fun _ => ?_)
set_option maxHeartbeats 8000000 in
set_option maxRecDepth 100000 in
theorem laws_eqConfig.calls (k : Nat) (a0_0 : Int) (a0_1 : Int) (a0_2 : Int) (a0_3 : ByteArray) (a0_4 : ByteArray) (a0_5 : Int) (A0_6 : Option Addr) (c0_6 : Nat) (l0_6 : List (S100)) (A0_7 : Option Addr) (c0_7 : Nat) (l0_7 : List (S54)) (a1_0 : Int) (a1_1 : Int) (a1_2 : Int) (a1_3 : ByteArray) (a1_4 : ByteArray) (a1_5 : Int) (A1_6 : Option Addr) (c1_6 : Nat) (l1_6 : List (S100)) (A1_7 : Option Addr) (c1_7 : Nat) (l1_7 : List (S54)) (r : Bool) (w : World) (hr0_6 : Kd.C k100 w A0_6 l0_6.length l0_6) (hc0_6 : l0_6.length ≤ c0_6) (hr0_7 : Kd.C k54 w A0_7 l0_7.length l0_7) (hc0_7 : l0_7.length ≤ c0_7) (hr1_6 : Kd.C k100 w A1_6 l1_6.length l1_6) (hc1_6 : l1_6.length ≤ c1_6) (hr1_7 : Kd.C k54 w A1_7 l1_7.length l1_7) (hc1_7 : l1_7.length ≤ c1_7) (h : laws_eqConfig.f k a0_0 a0_1 a0_2 a0_3 a0_4 a0_5 l0_6 l0_7 a1_0 a1_1 a1_2 a1_3 a1_4 a1_5 l1_6 l1_7 = some r) :
  Calls Try.prog 35 #[.agg #[.int .i64 a0_0,.int .i64 a0_1,.int .i64 a0_2,.string a0_3,.string a0_4,.int .i64 a0_5,.slice A0_6 l0_6.length c0_6,.slice A0_7 l0_7.length c0_7],.agg #[.int .i64 a1_0,.int .i64 a1_1,.int .i64 a1_2,.string a1_3,.string a1_4,.int .i64 a1_5,.slice A1_6 l1_6.length c1_6,.slice A1_7 l1_7.length c1_7]] w fun e w' => e = .returned (.bool r) ∧ Below w.heap.size w w':=by
 have hu70:=Try.underlying70
 have hu26:=Try.underlying26
 have HR0_6:=aMk hr0_6
 have HC0_6:=aMk hc0_6
 clear hr0_6 hc0_6
 have HR0_7:=aMk hr0_7
 have HC0_7:=aMk hc0_7
 clear hr0_7 hc0_7
 have HR1_6:=aMk hr1_6
 have HC1_6:=aMk hc1_6
 clear hr1_6 hc1_6
 have HR1_7:=aMk hr1_7
 have HC1_7:=aMk hc1_7
 clear hr1_7 hc1_7
 have HB:=aMk (Below.refl w.heap.size w)
 have H : ((laws_eqNet.f a0_0 a0_1 a1_0 a1_1).bind fun t497 => (if t497 = true then (if a0_2 = a1_2 then (if a0_3.toList = a1_3.toList then (if a0_4.toList = a1_4.toList then (if a0_5 = a1_5 then ((laws_eqPlaceS.f k l0_6 l1_6).bind fun t498 => (if t498 = true then ((laws_eqRoleS.f k l0_7 l1_7).bind fun t499 => (if t499 = true then (some true) else (some false))) else (some false))) else (some false)) else (some false)) else (some false)) else (some false)) else (some false))) = some r:=h
 clear h
 replace H:=Option.bind_eq_some_iff.mp H
 obtain ⟨t497,A30,H⟩:=H
 replace H : (if t497 = true then (if a0_2 = a1_2 then (if a0_3.toList = a1_3.toList then (if a0_4.toList = a1_4.toList then (if a0_5 = a1_5 then ((laws_eqPlaceS.f k l0_6 l1_6).bind fun t498 => (if t498 = true then ((laws_eqRoleS.f k l0_7 l1_7).bind fun t499 => (if t499 = true then (some true) else (some false))) else (some false))) else (some false)) else (some false)) else (some false)) else (some false)) else (some false)) = some r:=H
 have A3:=aMk A30
 clear A30
 by_cases c4 : t497 = true
 ·subst c4
  have H1 : (if a0_2 = a1_2 then (if a0_3.toList = a1_3.toList then (if a0_4.toList = a1_4.toList then (if a0_5 = a1_5 then ((laws_eqPlaceS.f k l0_6 l1_6).bind fun t498 => (if t498 = true then ((laws_eqRoleS.f k l0_7 l1_7).bind fun t499 => (if t499 = true then (some true) else (some false))) else (some false))) else (some false)) else (some false)) else (some false)) else (some false)) = some r:=by rw [if_pos rfl] at H;exact H
  clear H
  have H:=H1
  clear H1
  by_cases c5 : a0_2 = a1_2
  ·rw [if_pos c5] at H
   have c5b0 : (a0_2 == a1_2) = true:=beq_iff_eq.mpr c5
   have c5b1 : (a0_2 != a1_2) = false:=bne_eq_false_iff_eq.mpr c5
   clear c5
   by_cases c6 : a0_3.toList = a1_3.toList
   ·rw [if_pos c6] at H
    have c6b0 : (a0_3.toList == a1_3.toList) = true:=beq_iff_eq.mpr c6
    have c6b1 : (a0_3.toList != a1_3.toList) = false:=bne_eq_false_iff_eq.mpr c6
    clear c6
    by_cases c7 : a0_4.toList = a1_4.toList
    ·rw [if_pos c7] at H
     have c7b0 : (a0_4.toList == a1_4.toList) = true:=beq_iff_eq.mpr c7
     have c7b1 : (a0_4.toList != a1_4.toList) = false:=bne_eq_false_iff_eq.mpr c7
     clear c7
     by_cases c8 : a0_5 = a1_5
     ·rw [if_pos c8] at H
      have c8b0 : (a0_5 == a1_5) = true:=beq_iff_eq.mpr c8
      have c8b1 : (a0_5 != a1_5) = false:=bne_eq_false_iff_eq.mpr c8
      clear c8
      replace H:=Option.bind_eq_some_iff.mp H
      obtain ⟨t498,A90,H⟩:=H
      replace H : (if t498 = true then ((laws_eqRoleS.f k l0_7 l1_7).bind fun t499 => (if t499 = true then (some true) else (some false))) else (some false)) = some r:=H
      have A9:=aMk A90
      clear A90
      by_cases c10 : t498 = true
      ·subst c10
       have H1 : ((laws_eqRoleS.f k l0_7 l1_7).bind fun t499 => (if t499 = true then (some true) else (some false))) = some r:=by rw [if_pos rfl] at H;exact H
       clear H
       have H:=H1
       clear H1
       replace H:=Option.bind_eq_some_iff.mp H
       obtain ⟨t499,A110,H⟩:=H
       replace H : (if t499 = true then (some true) else (some false)) = some r:=H
       have A11:=aMk A110
       clear A110
       by_cases c12 : t499 = true
       ·subst c12
        have H1 : (some true) = some r:=by rw [if_pos rfl] at H;exact H
        clear H
        have H:=H1
        clear H1
        obtain rfl:=Option.some.inj H
        go_enter Try.func35,Try.ntmps35
        go_wp2_with (first|((with_reducible refine gate_dst (N:=2) rfl ?_);refine bxE (N:=2) (cs:=#[.int .i64 a0_0,.int .i64 a0_1,.int .i64 a0_2,.string a0_3,.string a0_4,.int .i64 a0_5,.slice A0_6 l0_6.length c0_6,.slice A0_7 l0_7.length c0_7]) (t:=70) ?_;intro gb495 hg w13 hbox hb;have n0_:=aMk (bSt hb);have n1_:=aMk (hbox);have n2_:=aMk ((by rw [hg];exact bSz : w.heap.size ≤ gb495));have n3_:=aMk ((by rw [hg];exact bSz : w.heap.size ≤ gb495));clear HB;have HB:=n0_;have BK495:=n1_;have GW495:=n2_;have GE495:=n3_;clear n0_ n1_ n2_ n3_;clear hb hbox hg)|((with_reducible refine gate_dst (N:=3) rfl ?_);refine bxE (N:=3) (cs:=#[.int .i64 a1_0,.int .i64 a1_1,.int .i64 a1_2,.string a1_3,.string a1_4,.int .i64 a1_5,.slice A1_6 l1_6.length c1_6,.slice A1_7 l1_7.length c1_7]) (t:=70) ?_;intro gb496 hg w14 hbox hb;have n0_:=aMk (bkB BK495.out hb);have n1_:=aMk (below_step (by repeat (first|(with_reducible first|exact HB.out|apply bwA|apply bwN|apply bw1|refine below_set ?_ GE495.out)|exact HB.out)) hb);have n2_:=aMk (hbox);have n3_:=aMk ((by rw [hg];exact (below_size (by repeat (first|(with_reducible first|exact HB.out|apply bwA|apply bwN|apply bw1|refine below_set ?_ GE495.out)|exact HB.out))) : w.heap.size ≤ gb496));have n4_:=aMk ((by rw [hg];exact (below_size (by repeat (first|(with_reducible first|exact HB.out|apply bwA|apply bwN|apply bw1|refine below_set ?_ GE495.out)|exact HB.out))) : w.heap.size ≤ gb496));have n5_:=aMk ((bkL BK495.out hg : gb495 ≠ gb496));have n6_:=aMk ((bkG BK495.out hg : gb496 ≠ gb495));clear BK495;clear HB;have BK495:=n0_;have HB:=n1_;have BK496:=n2_;have GW496:=n3_;have GE496:=n4_;have NB495_496:=n5_;have NB496_495:=n6_;clear n0_ n1_ n2_ n3_ n4_ n5_ n6_;clear hb hbox hg;have hnb15:=NB495_496.out;have hnc15:=NB496_495.out;obtain ⟨hcz16_0,hcz16_1,hcz16_2,hcz16_3,hcz16_4,hcz16_5,hcz16_6,hcz16_7,hfz16_0,hfz16_1,hfz16_2,hfz16_3,hfz16_4,hfz16_5,hfz16_6,hfz16_7⟩:=bC8 BK495.out;obtain ⟨hcz17_0,hcz17_1,hcz17_2,hcz17_3,hcz17_4,hcz17_5,hcz17_6,hcz17_7,hfz17_0,hfz17_1,hfz17_2,hfz17_3,hfz17_4,hfz17_5,hfz17_6,hfz17_7⟩:=bC8 BK496.out)|((with_reducible refine gate_callee (f:=52) rfl ?_);refine gLs 9 Try.func52 #[.agg #[.int .i64 a0_0,.int .i64 a0_1],.agg #[.int .i64 a1_0,.int .i64 a1_1]] ?_;(with_reducible refine (laws_eqNet.calls a0_0 a0_1 a1_0 a1_1 true _ A3.out).mono ?_);rintro e w18 ⟨rfl,hb⟩;refine ⟨_,rfl,?_⟩;have n0_:=aMk (bkB BK495.out hb);have n1_:=aMk (bkB BK496.out hb);have n2_:=aMk (below_step (by repeat (first|(with_reducible first|exact HB.out|apply bwA|apply bwN|apply bw1|refine below_set ?_ GE495.out|refine below_set ?_ GE496.out)|exact HB.out)) hb);clear BK495;clear BK496;clear HB;have BK495:=n0_;have BK496:=n1_;have HB:=n2_;clear n0_ n1_ n2_;(try clear hb);(try clear hb2);(try clear hk);(try clear hi);obtain ⟨hcz19_0,hcz19_1,hcz19_2,hcz19_3,hcz19_4,hcz19_5,hcz19_6,hcz19_7,hfz19_0,hfz19_1,hfz19_2,hfz19_3,hfz19_4,hfz19_5,hfz19_6,hfz19_7⟩:=bC8 BK495.out;obtain ⟨hcz20_0,hcz20_1,hcz20_2,hcz20_3,hcz20_4,hcz20_5,hcz20_6,hcz20_7,hfz20_0,hfz20_1,hfz20_2,hfz20_3,hfz20_4,hfz20_5,hfz20_6,hfz20_7⟩:=bC8 BK496.out)|((with_reducible refine gate_callee (f:=76) rfl ?_);refine gLs 35 Try.func76 #[.slice A0_6 l0_6.length c0_6,.slice A1_6 l1_6.length c1_6] ?_;(with_reducible refine (laws_eqPlaceS.calls k _ _ l0_6 _ _ l1_6 true _ ?side1 ?side2 ?side3 ?side4 A9.out).mono ?_);(case side1 => repeat (first|exact (Kd.C_below HR0_6.out HB.out)|(with_reducible refine Kd.C_alloc ?_ _)|(with_reducible refine Kd.C_drewN ?_ _)|(with_reducible refine Kd.C_drew ?_)));(case side2 => exact HC0_6.out);(case side3 => repeat (first|exact (Kd.C_below HR1_6.out HB.out)|(with_reducible refine Kd.C_alloc ?_ _)|(with_reducible refine Kd.C_drewN ?_ _)|(with_reducible refine Kd.C_drew ?_)));(case side4 => exact HC1_6.out);rintro e w21 ⟨rfl,hb⟩;refine ⟨_,rfl,?_⟩;have n0_:=aMk (bkB BK495.out hb);have n1_:=aMk (bkB BK496.out hb);have n2_:=aMk (below_step (by repeat (first|(with_reducible first|exact HB.out|apply bwA|apply bwN|apply bw1|refine below_set ?_ GE495.out|refine below_set ?_ GE496.out)|exact HB.out)) hb);clear BK495;clear BK496;clear HB;have BK495:=n0_;have BK496:=n1_;have HB:=n2_;clear n0_ n1_ n2_;(try clear hb);(try clear hb2);(try clear hk);(try clear hi);obtain ⟨hcz22_0,hcz22_1,hcz22_2,hcz22_3,hcz22_4,hcz22_5,hcz22_6,hcz22_7,hfz22_0,hfz22_1,hfz22_2,hfz22_3,hfz22_4,hfz22_5,hfz22_6,hfz22_7⟩:=bC8 BK495.out;obtain ⟨hcz23_0,hcz23_1,hcz23_2,hcz23_3,hcz23_4,hcz23_5,hcz23_6,hcz23_7,hfz23_0,hfz23_1,hfz23_2,hfz23_3,hfz23_4,hfz23_5,hfz23_6,hfz23_7⟩:=bC8 BK496.out)|((with_reducible refine gate_callee (f:=77) rfl ?_);refine gLs 41 Try.func77 #[.slice A0_7 l0_7.length c0_7,.slice A1_7 l1_7.length c1_7] ?_;(with_reducible refine (laws_eqRoleS.calls k _ _ l0_7 _ _ l1_7 true _ ?side1 ?side2 ?side3 ?side4 A11.out).mono ?_);(case side1 => repeat (first|exact (Kd.C_below HR0_7.out HB.out)|(with_reducible refine Kd.C_alloc ?_ _)|(with_reducible refine Kd.C_drewN ?_ _)|(with_reducible refine Kd.C_drew ?_)));(case side2 => exact HC0_7.out);(case side3 => repeat (first|exact (Kd.C_below HR1_7.out HB.out)|(with_reducible refine Kd.C_alloc ?_ _)|(with_reducible refine Kd.C_drewN ?_ _)|(with_reducible refine Kd.C_drew ?_)));(case side4 => exact HC1_7.out);rintro e w24 ⟨rfl,hb⟩;refine ⟨_,rfl,?_⟩;have n0_:=aMk (bkB BK495.out hb);have n1_:=aMk (bkB BK496.out hb);have n2_:=aMk (below_step (by repeat (first|(with_reducible first|exact HB.out|apply bwA|apply bwN|apply bw1|refine below_set ?_ GE495.out|refine below_set ?_ GE496.out)|exact HB.out)) hb);clear BK495;clear BK496;clear HB;have BK495:=n0_;have BK496:=n1_;have HB:=n2_;clear n0_ n1_ n2_;(try clear hb);(try clear hb2);(try clear hk);(try clear hi)))
        go_ret
        exact ⟨eRf,by repeat (first|(with_reducible first|exact HB.out|apply bwA|apply bwN|apply bw1|refine below_set ?_ GE495.out|refine below_set ?_ GE496.out)|exact HB.out)⟩
       ·replace c12:=Bool.eq_false_iff.mpr c12
        subst c12
        have H1 : (some false) = some r:=by rw [if_neg (show ¬ (false = true) by decide)] at H;exact H
        clear H
        have H:=H1
        clear H1
        obtain rfl:=Option.some.inj H
        go_enter Try.func35,Try.ntmps35
        go_wp2_with (first|((with_reducible refine gate_dst (N:=2) rfl ?_);refine bxE (N:=2) (cs:=#[.int .i64 a0_0,.int .i64 a0_1,.int .i64 a0_2,.string a0_3,.string a0_4,.int .i64 a0_5,.slice A0_6 l0_6.length c0_6,.slice A0_7 l0_7.length c0_7]) (t:=70) ?_;intro gb495 hg w25 hbox hb;have n0_:=aMk (bSt hb);have n1_:=aMk (hbox);have n2_:=aMk ((by rw [hg];exact bSz : w.heap.size ≤ gb495));have n3_:=aMk ((by rw [hg];exact bSz : w.heap.size ≤ gb495));clear HB;have HB:=n0_;have BK495:=n1_;have GW495:=n2_;have GE495:=n3_;clear n0_ n1_ n2_ n3_;clear hb hbox hg)|((with_reducible refine gate_dst (N:=3) rfl ?_);refine bxE (N:=3) (cs:=#[.int .i64 a1_0,.int .i64 a1_1,.int .i64 a1_2,.string a1_3,.string a1_4,.int .i64 a1_5,.slice A1_6 l1_6.length c1_6,.slice A1_7 l1_7.length c1_7]) (t:=70) ?_;intro gb496 hg w26 hbox hb;have n0_:=aMk (bkB BK495.out hb);have n1_:=aMk (below_step (by repeat (first|(with_reducible first|exact HB.out|apply bwA|apply bwN|apply bw1|refine below_set ?_ GE495.out)|exact HB.out)) hb);have n2_:=aMk (hbox);have n3_:=aMk ((by rw [hg];exact (below_size (by repeat (first|(with_reducible first|exact HB.out|apply bwA|apply bwN|apply bw1|refine below_set ?_ GE495.out)|exact HB.out))) : w.heap.size ≤ gb496));have n4_:=aMk ((by rw [hg];exact (below_size (by repeat (first|(with_reducible first|exact HB.out|apply bwA|apply bwN|apply bw1|refine below_set ?_ GE495.out)|exact HB.out))) : w.heap.size ≤ gb496));have n5_:=aMk ((bkL BK495.out hg : gb495 ≠ gb496));have n6_:=aMk ((bkG BK495.out hg : gb496 ≠ gb495));clear BK495;clear HB;have BK495:=n0_;have HB:=n1_;have BK496:=n2_;have GW496:=n3_;have GE496:=n4_;have NB495_496:=n5_;have NB496_495:=n6_;clear n0_ n1_ n2_ n3_ n4_ n5_ n6_;clear hb hbox hg;have hnb27:=NB495_496.out;have hnc27:=NB496_495.out;obtain ⟨hcz28_0,hcz28_1,hcz28_2,hcz28_3,hcz28_4,hcz28_5,hcz28_6,hcz28_7,hfz28_0,hfz28_1,hfz28_2,hfz28_3,hfz28_4,hfz28_5,hfz28_6,hfz28_7⟩:=bC8 BK495.out;obtain ⟨hcz29_0,hcz29_1,hcz29_2,hcz29_3,hcz29_4,hcz29_5,hcz29_6,hcz29_7,hfz29_0,hfz29_1,hfz29_2,hfz29_3,hfz29_4,hfz29_5,hfz29_6,hfz29_7⟩:=bC8 BK496.out)|((with_reducible refine gate_callee (f:=52) rfl ?_);refine gLs 9 Try.func52 #[.agg #[.int .i64 a0_0,.int .i64 a0_1],.agg #[.int .i64 a1_0,.int .i64 a1_1]] ?_;(with_reducible refine (laws_eqNet.calls a0_0 a0_1 a1_0 a1_1 true _ A3.out).mono ?_);rintro e w30 ⟨rfl,hb⟩;refine ⟨_,rfl,?_⟩;have n0_:=aMk (bkB BK495.out hb);have n1_:=aMk (bkB BK496.out hb);have n2_:=aMk (below_step (by repeat (first|(with_reducible first|exact HB.out|apply bwA|apply bwN|apply bw1|refine below_set ?_ GE495.out|refine below_set ?_ GE496.out)|exact HB.out)) hb);clear BK495;clear BK496;clear HB;have BK495:=n0_;have BK496:=n1_;have HB:=n2_;clear n0_ n1_ n2_;(try clear hb);(try clear hb2);(try clear hk);(try clear hi);obtain ⟨hcz31_0,hcz31_1,hcz31_2,hcz31_3,hcz31_4,hcz31_5,hcz31_6,hcz31_7,hfz31_0,hfz31_1,hfz31_2,hfz31_3,hfz31_4,hfz31_5,hfz31_6,hfz31_7⟩:=bC8 BK495.out;obtain ⟨hcz32_0,hcz32_1,hcz32_2,hcz32_3,hcz32_4,hcz32_5,hcz32_6,hcz32_7,hfz32_0,hfz32_1,hfz32_2,hfz32_3,hfz32_4,hfz32_5,hfz32_6,hfz32_7⟩:=bC8 BK496.out)|((with_reducible refine gate_callee (f:=76) rfl ?_);refine gLs 35 Try.func76 #[.slice A0_6 l0_6.length c0_6,.slice A1_6 l1_6.length c1_6] ?_;(with_reducible refine (laws_eqPlaceS.calls k _ _ l0_6 _ _ l1_6 true _ ?side1 ?side2 ?side3 ?side4 A9.out).mono ?_);(case side1 => repeat (first|exact (Kd.C_below HR0_6.out HB.out)|(with_reducible refine Kd.C_alloc ?_ _)|(with_reducible refine Kd.C_drewN ?_ _)|(with_reducible refine Kd.C_drew ?_)));(case side2 => exact HC0_6.out);(case side3 => repeat (first|exact (Kd.C_below HR1_6.out HB.out)|(with_reducible refine Kd.C_alloc ?_ _)|(with_reducible refine Kd.C_drewN ?_ _)|(with_reducible refine Kd.C_drew ?_)));(case side4 => exact HC1_6.out);rintro e w33 ⟨rfl,hb⟩;refine ⟨_,rfl,?_⟩;have n0_:=aMk (bkB BK495.out hb);have n1_:=aMk (bkB BK496.out hb);have n2_:=aMk (below_step (by repeat (first|(with_reducible first|exact HB.out|apply bwA|apply bwN|apply bw1|refine below_set ?_ GE495.out|refine below_set ?_ GE496.out)|exact HB.out)) hb);clear BK495;clear BK496;clear HB;have BK495:=n0_;have BK496:=n1_;have HB:=n2_;clear n0_ n1_ n2_;(try clear hb);(try clear hb2);(try clear hk);(try clear hi);obtain ⟨hcz34_0,hcz34_1,hcz34_2,hcz34_3,hcz34_4,hcz34_5,hcz34_6,hcz34_7,hfz34_0,hfz34_1,hfz34_2,hfz34_3,hfz34_4,hfz34_5,hfz34_6,hfz34_7⟩:=bC8 BK495.out;obtain ⟨hcz35_0,hcz35_1,hcz35_2,hcz35_3,hcz35_4,hcz35_5,hcz35_6,hcz35_7,hfz35_0,hfz35_1,hfz35_2,hfz35_3,hfz35_4,hfz35_5,hfz35_6,hfz35_7⟩:=bC8 BK496.out)|((with_reducible refine gate_callee (f:=77) rfl ?_);refine gLs 41 Try.func77 #[.slice A0_7 l0_7.length c0_7,.slice A1_7 l1_7.length c1_7] ?_;(with_reducible refine (laws_eqRoleS.calls k _ _ l0_7 _ _ l1_7 false _ ?side1 ?side2 ?side3 ?side4 A11.out).mono ?_);(case side1 => repeat (first|exact (Kd.C_below HR0_7.out HB.out)|(with_reducible refine Kd.C_alloc ?_ _)|(with_reducible refine Kd.C_drewN ?_ _)|(with_reducible refine Kd.C_drew ?_)));(case side2 => exact HC0_7.out);(case side3 => repeat (first|exact (Kd.C_below HR1_7.out HB.out)|(with_reducible refine Kd.C_alloc ?_ _)|(with_reducible refine Kd.C_drewN ?_ _)|(with_reducible refine Kd.C_drew ?_)));(case side4 => exact HC1_7.out);rintro e w36 ⟨rfl,hb⟩;refine ⟨_,rfl,?_⟩;have n0_:=aMk (bkB BK495.out hb);have n1_:=aMk (bkB BK496.out hb);have n2_:=aMk (below_step (by repeat (first|(with_reducible first|exact HB.out|apply bwA|apply bwN|apply bw1|refine below_set ?_ GE495.out|refine below_set ?_ GE496.out)|exact HB.out)) hb);clear BK495;clear BK496;clear HB;have BK495:=n0_;have BK496:=n1_;have HB:=n2_;clear n0_ n1_ n2_;(try clear hb);(try clear hb2);(try clear hk);(try clear hi)))
        go_ret
        exact ⟨eRf,by repeat (first|(with_reducible first|exact HB.out|apply bwA|apply bwN|apply bw1|refine below_set ?_ GE495.out|refine below_set ?_ GE496.out)|exact HB.out)⟩
      ·replace c10:=Bool.eq_false_iff.mpr c10
       subst c10
       have H1 : (some false) = some r:=by rw [if_neg (show ¬ (false = true) by decide)] at H;exact H
       clear H
       have H:=H1
       clear H1
       obtain rfl:=Option.some.inj H
       go_enter Try.func35,Try.ntmps35
       go_wp2_with (first|((with_reducible refine gate_dst (N:=2) rfl ?_);refine bxE (N:=2) (cs:=#[.int .i64 a0_0,.int .i64 a0_1,.int .i64 a0_2,.string a0_3,.string a0_4,.int .i64 a0_5,.slice A0_6 l0_6.length c0_6,.slice A0_7 l0_7.length c0_7]) (t:=70) ?_;intro gb495 hg w37 hbox hb;have n0_:=aMk (bSt hb);have n1_:=aMk (hbox);have n2_:=aMk ((by rw [hg];exact bSz : w.heap.size ≤ gb495));have n3_:=aMk ((by rw [hg];exact bSz : w.heap.size ≤ gb495));clear HB;have HB:=n0_;have BK495:=n1_;have GW495:=n2_;have GE495:=n3_;clear n0_ n1_ n2_ n3_;clear hb hbox hg)|((with_reducible refine gate_dst (N:=3) rfl ?_);refine bxE (N:=3) (cs:=#[.int .i64 a1_0,.int .i64 a1_1,.int .i64 a1_2,.string a1_3,.string a1_4,.int .i64 a1_5,.slice A1_6 l1_6.length c1_6,.slice A1_7 l1_7.length c1_7]) (t:=70) ?_;intro gb496 hg w38 hbox hb;have n0_:=aMk (bkB BK495.out hb);have n1_:=aMk (below_step (by repeat (first|(with_reducible first|exact HB.out|apply bwA|apply bwN|apply bw1|refine below_set ?_ GE495.out)|exact HB.out)) hb);have n2_:=aMk (hbox);have n3_:=aMk ((by rw [hg];exact (below_size (by repeat (first|(with_reducible first|exact HB.out|apply bwA|apply bwN|apply bw1|refine below_set ?_ GE495.out)|exact HB.out))) : w.heap.size ≤ gb496));have n4_:=aMk ((by rw [hg];exact (below_size (by repeat (first|(with_reducible first|exact HB.out|apply bwA|apply bwN|apply bw1|refine below_set ?_ GE495.out)|exact HB.out))) : w.heap.size ≤ gb496));have n5_:=aMk ((bkL BK495.out hg : gb495 ≠ gb496));have n6_:=aMk ((bkG BK495.out hg : gb496 ≠ gb495));clear BK495;clear HB;have BK495:=n0_;have HB:=n1_;have BK496:=n2_;have GW496:=n3_;have GE496:=n4_;have NB495_496:=n5_;have NB496_495:=n6_;clear n0_ n1_ n2_ n3_ n4_ n5_ n6_;clear hb hbox hg;have hnb39:=NB495_496.out;have hnc39:=NB496_495.out;obtain ⟨hcz40_0,hcz40_1,hcz40_2,hcz40_3,hcz40_4,hcz40_5,hcz40_6,hcz40_7,hfz40_0,hfz40_1,hfz40_2,hfz40_3,hfz40_4,hfz40_5,hfz40_6,hfz40_7⟩:=bC8 BK495.out;obtain ⟨hcz41_0,hcz41_1,hcz41_2,hcz41_3,hcz41_4,hcz41_5,hcz41_6,hcz41_7,hfz41_0,hfz41_1,hfz41_2,hfz41_3,hfz41_4,hfz41_5,hfz41_6,hfz41_7⟩:=bC8 BK496.out)|((with_reducible refine gate_callee (f:=52) rfl ?_);refine gLs 9 Try.func52 #[.agg #[.int .i64 a0_0,.int .i64 a0_1],.agg #[.int .i64 a1_0,.int .i64 a1_1]] ?_;(with_reducible refine (laws_eqNet.calls a0_0 a0_1 a1_0 a1_1 true _ A3.out).mono ?_);rintro e w42 ⟨rfl,hb⟩;refine ⟨_,rfl,?_⟩;have n0_:=aMk (bkB BK495.out hb);have n1_:=aMk (bkB BK496.out hb);have n2_:=aMk (below_step (by repeat (first|(with_reducible first|exact HB.out|apply bwA|apply bwN|apply bw1|refine below_set ?_ GE495.out|refine below_set ?_ GE496.out)|exact HB.out)) hb);clear BK495;clear BK496;clear HB;have BK495:=n0_;have BK496:=n1_;have HB:=n2_;clear n0_ n1_ n2_;(try clear hb);(try clear hb2);(try clear hk);(try clear hi);obtain ⟨hcz43_0,hcz43_1,hcz43_2,hcz43_3,hcz43_4,hcz43_5,hcz43_6,hcz43_7,hfz43_0,hfz43_1,hfz43_2,hfz43_3,hfz43_4,hfz43_5,hfz43_6,hfz43_7⟩:=bC8 BK495.out;obtain ⟨hcz44_0,hcz44_1,hcz44_2,hcz44_3,hcz44_4,hcz44_5,hcz44_6,hcz44_7,hfz44_0,hfz44_1,hfz44_2,hfz44_3,hfz44_4,hfz44_5,hfz44_6,hfz44_7⟩:=bC8 BK496.out)|((with_reducible refine gate_callee (f:=76) rfl ?_);refine gLs 35 Try.func76 #[.slice A0_6 l0_6.length c0_6,.slice A1_6 l1_6.length c1_6] ?_;(with_reducible refine (laws_eqPlaceS.calls k _ _ l0_6 _ _ l1_6 false _ ?side1 ?side2 ?side3 ?side4 A9.out).mono ?_);(case side1 => repeat (first|exact (Kd.C_below HR0_6.out HB.out)|(with_reducible refine Kd.C_alloc ?_ _)|(with_reducible refine Kd.C_drewN ?_ _)|(with_reducible refine Kd.C_drew ?_)));(case side2 => exact HC0_6.out);(case side3 => repeat (first|exact (Kd.C_below HR1_6.out HB.out)|(with_reducible refine Kd.C_alloc ?_ _)|(with_reducible refine Kd.C_drewN ?_ _)|(with_reducible refine Kd.C_drew ?_)));(case side4 => exact HC1_6.out);rintro e w45 ⟨rfl,hb⟩;refine ⟨_,rfl,?_⟩;have n0_:=aMk (bkB BK495.out hb);have n1_:=aMk (bkB BK496.out hb);have n2_:=aMk (below_step (by repeat (first|(with_reducible first|exact HB.out|apply bwA|apply bwN|apply bw1|refine below_set ?_ GE495.out|refine below_set ?_ GE496.out)|exact HB.out)) hb);clear BK495;clear BK496;clear HB;have BK495:=n0_;have BK496:=n1_;have HB:=n2_;clear n0_ n1_ n2_;(try clear hb);(try clear hb2);(try clear hk);(try clear hi)))
       go_ret
       exact ⟨eRf,by repeat (first|(with_reducible first|exact HB.out|apply bwA|apply bwN|apply bw1|refine below_set ?_ GE495.out|refine below_set ?_ GE496.out)|exact HB.out)⟩
     ·rw [if_neg c8] at H
      have c8b0 : (a0_5 == a1_5) = false:=beq_eq_false_iff_ne.mpr c8
      have c8b1 : (a0_5 != a1_5) = true:=bne_iff_ne.mpr c8
      obtain rfl:=Option.some.inj H
      go_enter Try.func35,Try.ntmps35
      go_wp2_with (first|((with_reducible refine gate_dst (N:=2) rfl ?_);refine bxE (N:=2) (cs:=#[.int .i64 a0_0,.int .i64 a0_1,.int .i64 a0_2,.string a0_3,.string a0_4,.int .i64 a0_5,.slice A0_6 l0_6.length c0_6,.slice A0_7 l0_7.length c0_7]) (t:=70) ?_;intro gb495 hg w46 hbox hb;have n0_:=aMk (bSt hb);have n1_:=aMk (hbox);have n2_:=aMk ((by rw [hg];exact bSz : w.heap.size ≤ gb495));have n3_:=aMk ((by rw [hg];exact bSz : w.heap.size ≤ gb495));clear HB;have HB:=n0_;have BK495:=n1_;have GW495:=n2_;have GE495:=n3_;clear n0_ n1_ n2_ n3_;clear hb hbox hg)|((with_reducible refine gate_dst (N:=3) rfl ?_);refine bxE (N:=3) (cs:=#[.int .i64 a1_0,.int .i64 a1_1,.int .i64 a1_2,.string a1_3,.string a1_4,.int .i64 a1_5,.slice A1_6 l1_6.length c1_6,.slice A1_7 l1_7.length c1_7]) (t:=70) ?_;intro gb496 hg w47 hbox hb;have n0_:=aMk (bkB BK495.out hb);have n1_:=aMk (below_step (by repeat (first|(with_reducible first|exact HB.out|apply bwA|apply bwN|apply bw1|refine below_set ?_ GE495.out)|exact HB.out)) hb);have n2_:=aMk (hbox);have n3_:=aMk ((by rw [hg];exact (below_size (by repeat (first|(with_reducible first|exact HB.out|apply bwA|apply bwN|apply bw1|refine below_set ?_ GE495.out)|exact HB.out))) : w.heap.size ≤ gb496));have n4_:=aMk ((by rw [hg];exact (below_size (by repeat (first|(with_reducible first|exact HB.out|apply bwA|apply bwN|apply bw1|refine below_set ?_ GE495.out)|exact HB.out))) : w.heap.size ≤ gb496));have n5_:=aMk ((bkL BK495.out hg : gb495 ≠ gb496));have n6_:=aMk ((bkG BK495.out hg : gb496 ≠ gb495));clear BK495;clear HB;have BK495:=n0_;have HB:=n1_;have BK496:=n2_;have GW496:=n3_;have GE496:=n4_;have NB495_496:=n5_;have NB496_495:=n6_;clear n0_ n1_ n2_ n3_ n4_ n5_ n6_;clear hb hbox hg;have hnb48:=NB495_496.out;have hnc48:=NB496_495.out;obtain ⟨hcz49_0,hcz49_1,hcz49_2,hcz49_3,hcz49_4,hcz49_5,hcz49_6,hcz49_7,hfz49_0,hfz49_1,hfz49_2,hfz49_3,hfz49_4,hfz49_5,hfz49_6,hfz49_7⟩:=bC8 BK495.out;obtain ⟨hcz50_0,hcz50_1,hcz50_2,hcz50_3,hcz50_4,hcz50_5,hcz50_6,hcz50_7,hfz50_0,hfz50_1,hfz50_2,hfz50_3,hfz50_4,hfz50_5,hfz50_6,hfz50_7⟩:=bC8 BK496.out)|((with_reducible refine gate_callee (f:=52) rfl ?_);refine gLs 9 Try.func52 #[.agg #[.int .i64 a0_0,.int .i64 a0_1],.agg #[.int .i64 a1_0,.int .i64 a1_1]] ?_;(with_reducible refine (laws_eqNet.calls a0_0 a0_1 a1_0 a1_1 true _ A3.out).mono ?_);rintro e w51 ⟨rfl,hb⟩;refine ⟨_,rfl,?_⟩;have n0_:=aMk (bkB BK495.out hb);have n1_:=aMk (bkB BK496.out hb);have n2_:=aMk (below_step (by repeat (first|(with_reducible first|exact HB.out|apply bwA|apply bwN|apply bw1|refine below_set ?_ GE495.out|refine below_set ?_ GE496.out)|exact HB.out)) hb);clear BK495;clear BK496;clear HB;have BK495:=n0_;have BK496:=n1_;have HB:=n2_;clear n0_ n1_ n2_;(try clear hb);(try clear hb2);(try clear hk);(try clear hi);obtain ⟨hcz52_0,hcz52_1,hcz52_2,hcz52_3,hcz52_4,hcz52_5,hcz52_6,hcz52_7,hfz52_0,hfz52_1,hfz52_2,hfz52_3,hfz52_4,hfz52_5,hfz52_6,hfz52_7⟩:=bC8 BK495.out;obtain ⟨hcz53_0,hcz53_1,hcz53_2,hcz53_3,hcz53_4,hcz53_5,hcz53_6,hcz53_7,hfz53_0,hfz53_1,hfz53_2,hfz53_3,hfz53_4,hfz53_5,hfz53_6,hfz53_7⟩:=bC8 BK496.out))
      go_ret
      exact ⟨eRf,by repeat (first|(with_reducible first|exact HB.out|apply bwA|apply bwN|apply bw1|refine below_set ?_ GE495.out|refine below_set ?_ GE496.out)|exact HB.out)⟩
    ·rw [if_neg c7] at H
     have c7b0 : (a0_4.toList == a1_4.toList) = false:=beq_eq_false_iff_ne.mpr c7
     have c7b1 : (a0_4.toList != a1_4.toList) = true:=bne_iff_ne.mpr c7
     obtain rfl:=Option.some.inj H
     go_enter Try.func35,Try.ntmps35
     go_wp2_with (first|((with_reducible refine gate_dst (N:=2) rfl ?_);refine bxE (N:=2) (cs:=#[.int .i64 a0_0,.int .i64 a0_1,.int .i64 a0_2,.string a0_3,.string a0_4,.int .i64 a0_5,.slice A0_6 l0_6.length c0_6,.slice A0_7 l0_7.length c0_7]) (t:=70) ?_;intro gb495 hg w54 hbox hb;have n0_:=aMk (bSt hb);have n1_:=aMk (hbox);have n2_:=aMk ((by rw [hg];exact bSz : w.heap.size ≤ gb495));have n3_:=aMk ((by rw [hg];exact bSz : w.heap.size ≤ gb495));clear HB;have HB:=n0_;have BK495:=n1_;have GW495:=n2_;have GE495:=n3_;clear n0_ n1_ n2_ n3_;clear hb hbox hg)|((with_reducible refine gate_dst (N:=3) rfl ?_);refine bxE (N:=3) (cs:=#[.int .i64 a1_0,.int .i64 a1_1,.int .i64 a1_2,.string a1_3,.string a1_4,.int .i64 a1_5,.slice A1_6 l1_6.length c1_6,.slice A1_7 l1_7.length c1_7]) (t:=70) ?_;intro gb496 hg w55 hbox hb;have n0_:=aMk (bkB BK495.out hb);have n1_:=aMk (below_step (by repeat (first|(with_reducible first|exact HB.out|apply bwA|apply bwN|apply bw1|refine below_set ?_ GE495.out)|exact HB.out)) hb);have n2_:=aMk (hbox);have n3_:=aMk ((by rw [hg];exact (below_size (by repeat (first|(with_reducible first|exact HB.out|apply bwA|apply bwN|apply bw1|refine below_set ?_ GE495.out)|exact HB.out))) : w.heap.size ≤ gb496));have n4_:=aMk ((by rw [hg];exact (below_size (by repeat (first|(with_reducible first|exact HB.out|apply bwA|apply bwN|apply bw1|refine below_set ?_ GE495.out)|exact HB.out))) : w.heap.size ≤ gb496));have n5_:=aMk ((bkL BK495.out hg : gb495 ≠ gb496));have n6_:=aMk ((bkG BK495.out hg : gb496 ≠ gb495));clear BK495;clear HB;have BK495:=n0_;have HB:=n1_;have BK496:=n2_;have GW496:=n3_;have GE496:=n4_;have NB495_496:=n5_;have NB496_495:=n6_;clear n0_ n1_ n2_ n3_ n4_ n5_ n6_;clear hb hbox hg;have hnb56:=NB495_496.out;have hnc56:=NB496_495.out;obtain ⟨hcz57_0,hcz57_1,hcz57_2,hcz57_3,hcz57_4,hcz57_5,hcz57_6,hcz57_7,hfz57_0,hfz57_1,hfz57_2,hfz57_3,hfz57_4,hfz57_5,hfz57_6,hfz57_7⟩:=bC8 BK495.out;obtain ⟨hcz58_0,hcz58_1,hcz58_2,hcz58_3,hcz58_4,hcz58_5,hcz58_6,hcz58_7,hfz58_0,hfz58_1,hfz58_2,hfz58_3,hfz58_4,hfz58_5,hfz58_6,hfz58_7⟩:=bC8 BK496.out)|((with_reducible refine gate_callee (f:=52) rfl ?_);refine gLs 9 Try.func52 #[.agg #[.int .i64 a0_0,.int .i64 a0_1],.agg #[.int .i64 a1_0,.int .i64 a1_1]] ?_;(with_reducible refine (laws_eqNet.calls a0_0 a0_1 a1_0 a1_1 true _ A3.out).mono ?_);rintro e w59 ⟨rfl,hb⟩;refine ⟨_,rfl,?_⟩;have n0_:=aMk (bkB BK495.out hb);have n1_:=aMk (bkB BK496.out hb);have n2_:=aMk (below_step (by repeat (first|(with_reducible first|exact HB.out|apply bwA|apply bwN|apply bw1|refine below_set ?_ GE495.out|refine below_set ?_ GE496.out)|exact HB.out)) hb);clear BK495;clear BK496;clear HB;have BK495:=n0_;have BK496:=n1_;have HB:=n2_;clear n0_ n1_ n2_;(try clear hb);(try clear hb2);(try clear hk);(try clear hi);obtain ⟨hcz60_0,hcz60_1,hcz60_2,hcz60_3,hcz60_4,hcz60_5,hcz60_6,hcz60_7,hfz60_0,hfz60_1,hfz60_2,hfz60_3,hfz60_4,hfz60_5,hfz60_6,hfz60_7⟩:=bC8 BK495.out;obtain ⟨hcz61_0,hcz61_1,hcz61_2,hcz61_3,hcz61_4,hcz61_5,hcz61_6,hcz61_7,hfz61_0,hfz61_1,hfz61_2,hfz61_3,hfz61_4,hfz61_5,hfz61_6,hfz61_7⟩:=bC8 BK496.out))
     go_ret
     exact ⟨eRf,by repeat (first|(with_reducible first|exact HB.out|apply bwA|apply bwN|apply bw1|refine below_set ?_ GE495.out|refine below_set ?_ GE496.out)|exact HB.out)⟩
   ·rw [if_neg c6] at H
    have c6b0 : (a0_3.toList == a1_3.toList) = false:=beq_eq_false_iff_ne.mpr c6
    have c6b1 : (a0_3.toList != a1_3.toList) = true:=bne_iff_ne.mpr c6
    obtain rfl:=Option.some.inj H
    go_enter Try.func35,Try.ntmps35
    go_wp2_with (first|((with_reducible refine gate_dst (N:=2) rfl ?_);refine bxE (N:=2) (cs:=#[.int .i64 a0_0,.int .i64 a0_1,.int .i64 a0_2,.string a0_3,.string a0_4,.int .i64 a0_5,.slice A0_6 l0_6.length c0_6,.slice A0_7 l0_7.length c0_7]) (t:=70) ?_;intro gb495 hg w62 hbox hb;have n0_:=aMk (bSt hb);have n1_:=aMk (hbox);have n2_:=aMk ((by rw [hg];exact bSz : w.heap.size ≤ gb495));have n3_:=aMk ((by rw [hg];exact bSz : w.heap.size ≤ gb495));clear HB;have HB:=n0_;have BK495:=n1_;have GW495:=n2_;have GE495:=n3_;clear n0_ n1_ n2_ n3_;clear hb hbox hg)|((with_reducible refine gate_dst (N:=3) rfl ?_);refine bxE (N:=3) (cs:=#[.int .i64 a1_0,.int .i64 a1_1,.int .i64 a1_2,.string a1_3,.string a1_4,.int .i64 a1_5,.slice A1_6 l1_6.length c1_6,.slice A1_7 l1_7.length c1_7]) (t:=70) ?_;intro gb496 hg w63 hbox hb;have n0_:=aMk (bkB BK495.out hb);have n1_:=aMk (below_step (by repeat (first|(with_reducible first|exact HB.out|apply bwA|apply bwN|apply bw1|refine below_set ?_ GE495.out)|exact HB.out)) hb);have n2_:=aMk (hbox);have n3_:=aMk ((by rw [hg];exact (below_size (by repeat (first|(with_reducible first|exact HB.out|apply bwA|apply bwN|apply bw1|refine below_set ?_ GE495.out)|exact HB.out))) : w.heap.size ≤ gb496));have n4_:=aMk ((by rw [hg];exact (below_size (by repeat (first|(with_reducible first|exact HB.out|apply bwA|apply bwN|apply bw1|refine below_set ?_ GE495.out)|exact HB.out))) : w.heap.size ≤ gb496));have n5_:=aMk ((bkL BK495.out hg : gb495 ≠ gb496));have n6_:=aMk ((bkG BK495.out hg : gb496 ≠ gb495));clear BK495;clear HB;have BK495:=n0_;have HB:=n1_;have BK496:=n2_;have GW496:=n3_;have GE496:=n4_;have NB495_496:=n5_;have NB496_495:=n6_;clear n0_ n1_ n2_ n3_ n4_ n5_ n6_;clear hb hbox hg;have hnb64:=NB495_496.out;have hnc64:=NB496_495.out;obtain ⟨hcz65_0,hcz65_1,hcz65_2,hcz65_3,hcz65_4,hcz65_5,hcz65_6,hcz65_7,hfz65_0,hfz65_1,hfz65_2,hfz65_3,hfz65_4,hfz65_5,hfz65_6,hfz65_7⟩:=bC8 BK495.out;obtain ⟨hcz66_0,hcz66_1,hcz66_2,hcz66_3,hcz66_4,hcz66_5,hcz66_6,hcz66_7,hfz66_0,hfz66_1,hfz66_2,hfz66_3,hfz66_4,hfz66_5,hfz66_6,hfz66_7⟩:=bC8 BK496.out)|((with_reducible refine gate_callee (f:=52) rfl ?_);refine gLs 9 Try.func52 #[.agg #[.int .i64 a0_0,.int .i64 a0_1],.agg #[.int .i64 a1_0,.int .i64 a1_1]] ?_;(with_reducible refine (laws_eqNet.calls a0_0 a0_1 a1_0 a1_1 true _ A3.out).mono ?_);rintro e w67 ⟨rfl,hb⟩;refine ⟨_,rfl,?_⟩;have n0_:=aMk (bkB BK495.out hb);have n1_:=aMk (bkB BK496.out hb);have n2_:=aMk (below_step (by repeat (first|(with_reducible first|exact HB.out|apply bwA|apply bwN|apply bw1|refine below_set ?_ GE495.out|refine below_set ?_ GE496.out)|exact HB.out)) hb);clear BK495;clear BK496;clear HB;have BK495:=n0_;have BK496:=n1_;have HB:=n2_;clear n0_ n1_ n2_;(try clear hb);(try clear hb2);(try clear hk);(try clear hi);obtain ⟨hcz68_0,hcz68_1,hcz68_2,hcz68_3,hcz68_4,hcz68_5,hcz68_6,hcz68_7,hfz68_0,hfz68_1,hfz68_2,hfz68_3,hfz68_4,hfz68_5,hfz68_6,hfz68_7⟩:=bC8 BK495.out;obtain ⟨hcz69_0,hcz69_1,hcz69_2,hcz69_3,hcz69_4,hcz69_5,hcz69_6,hcz69_7,hfz69_0,hfz69_1,hfz69_2,hfz69_3,hfz69_4,hfz69_5,hfz69_6,hfz69_7⟩:=bC8 BK496.out))
    go_ret
    exact ⟨eRf,by repeat (first|(with_reducible first|exact HB.out|apply bwA|apply bwN|apply bw1|refine below_set ?_ GE495.out|refine below_set ?_ GE496.out)|exact HB.out)⟩
  ·rw [if_neg c5] at H
   have c5b0 : (a0_2 == a1_2) = false:=beq_eq_false_iff_ne.mpr c5
   have c5b1 : (a0_2 != a1_2) = true:=bne_iff_ne.mpr c5
   obtain rfl:=Option.some.inj H
   go_enter Try.func35,Try.ntmps35
   go_wp2_with (first|((with_reducible refine gate_dst (N:=2) rfl ?_);refine bxE (N:=2) (cs:=#[.int .i64 a0_0,.int .i64 a0_1,.int .i64 a0_2,.string a0_3,.string a0_4,.int .i64 a0_5,.slice A0_6 l0_6.length c0_6,.slice A0_7 l0_7.length c0_7]) (t:=70) ?_;intro gb495 hg w70 hbox hb;have n0_:=aMk (bSt hb);have n1_:=aMk (hbox);have n2_:=aMk ((by rw [hg];exact bSz : w.heap.size ≤ gb495));have n3_:=aMk ((by rw [hg];exact bSz : w.heap.size ≤ gb495));clear HB;have HB:=n0_;have BK495:=n1_;have GW495:=n2_;have GE495:=n3_;clear n0_ n1_ n2_ n3_;clear hb hbox hg)|((with_reducible refine gate_dst (N:=3) rfl ?_);refine bxE (N:=3) (cs:=#[.int .i64 a1_0,.int .i64 a1_1,.int .i64 a1_2,.string a1_3,.string a1_4,.int .i64 a1_5,.slice A1_6 l1_6.length c1_6,.slice A1_7 l1_7.length c1_7]) (t:=70) ?_;intro gb496 hg w71 hbox hb;have n0_:=aMk (bkB BK495.out hb);have n1_:=aMk (below_step (by repeat (first|(with_reducible first|exact HB.out|apply bwA|apply bwN|apply bw1|refine below_set ?_ GE495.out)|exact HB.out)) hb);have n2_:=aMk (hbox);have n3_:=aMk ((by rw [hg];exact (below_size (by repeat (first|(with_reducible first|exact HB.out|apply bwA|apply bwN|apply bw1|refine below_set ?_ GE495.out)|exact HB.out))) : w.heap.size ≤ gb496));have n4_:=aMk ((by rw [hg];exact (below_size (by repeat (first|(with_reducible first|exact HB.out|apply bwA|apply bwN|apply bw1|refine below_set ?_ GE495.out)|exact HB.out))) : w.heap.size ≤ gb496));have n5_:=aMk ((bkL BK495.out hg : gb495 ≠ gb496));have n6_:=aMk ((bkG BK495.out hg : gb496 ≠ gb495));clear BK495;clear HB;have BK495:=n0_;have HB:=n1_;have BK496:=n2_;have GW496:=n3_;have GE496:=n4_;have NB495_496:=n5_;have NB496_495:=n6_;clear n0_ n1_ n2_ n3_ n4_ n5_ n6_;clear hb hbox hg;have hnb72:=NB495_496.out;have hnc72:=NB496_495.out;obtain ⟨hcz73_0,hcz73_1,hcz73_2,hcz73_3,hcz73_4,hcz73_5,hcz73_6,hcz73_7,hfz73_0,hfz73_1,hfz73_2,hfz73_3,hfz73_4,hfz73_5,hfz73_6,hfz73_7⟩:=bC8 BK495.out;obtain ⟨hcz74_0,hcz74_1,hcz74_2,hcz74_3,hcz74_4,hcz74_5,hcz74_6,hcz74_7,hfz74_0,hfz74_1,hfz74_2,hfz74_3,hfz74_4,hfz74_5,hfz74_6,hfz74_7⟩:=bC8 BK496.out)|((with_reducible refine gate_callee (f:=52) rfl ?_);refine gLs 9 Try.func52 #[.agg #[.int .i64 a0_0,.int .i64 a0_1],.agg #[.int .i64 a1_0,.int .i64 a1_1]] ?_;(with_reducible refine (laws_eqNet.calls a0_0 a0_1 a1_0 a1_1 true _ A3.out).mono ?_);rintro e w75 ⟨rfl,hb⟩;refine ⟨_,rfl,?_⟩;have n0_:=aMk (bkB BK495.out hb);have n1_:=aMk (bkB BK496.out hb);have n2_:=aMk (below_step (by repeat (first|(with_reducible first|exact HB.out|apply bwA|apply bwN|apply bw1|refine below_set ?_ GE495.out|refine below_set ?_ GE496.out)|exact HB.out)) hb);clear BK495;clear BK496;clear HB;have BK495:=n0_;have BK496:=n1_;have HB:=n2_;clear n0_ n1_ n2_;(try clear hb);(try clear hb2);(try clear hk);(try clear hi);obtain ⟨hcz76_0,hcz76_1,hcz76_2,hcz76_3,hcz76_4,hcz76_5,hcz76_6,hcz76_7,hfz76_0,hfz76_1,hfz76_2,hfz76_3,hfz76_4,hfz76_5,hfz76_6,hfz76_7⟩:=bC8 BK495.out;obtain ⟨hcz77_0,hcz77_1,hcz77_2,hcz77_3,hcz77_4,hcz77_5,hcz77_6,hcz77_7,hfz77_0,hfz77_1,hfz77_2,hfz77_3,hfz77_4,hfz77_5,hfz77_6,hfz77_7⟩:=bC8 BK496.out))
   go_ret
   exact ⟨eRf,by repeat (first|(with_reducible first|exact HB.out|apply bwA|apply bwN|apply bw1|refine below_set ?_ GE495.out|refine below_set ?_ GE496.out)|exact HB.out)⟩
 ·replace c4:=Bool.eq_false_iff.mpr c4
  subst c4
  have H1 : (some false) = some r:=by rw [if_neg (show ¬ (false = true) by decide)] at H;exact H
  clear H
  have H:=H1
  clear H1
  obtain rfl:=Option.some.inj H
  go_enter Try.func35,Try.ntmps35
  go_wp2_with (first|((with_reducible refine gate_dst (N:=2) rfl ?_);refine bxE (N:=2) (cs:=#[.int .i64 a0_0,.int .i64 a0_1,.int .i64 a0_2,.string a0_3,.string a0_4,.int .i64 a0_5,.slice A0_6 l0_6.length c0_6,.slice A0_7 l0_7.length c0_7]) (t:=70) ?_;intro gb495 hg w78 hbox hb;have n0_:=aMk (bSt hb);have n1_:=aMk (hbox);have n2_:=aMk ((by rw [hg];exact bSz : w.heap.size ≤ gb495));have n3_:=aMk ((by rw [hg];exact bSz : w.heap.size ≤ gb495));clear HB;have HB:=n0_;have BK495:=n1_;have GW495:=n2_;have GE495:=n3_;clear n0_ n1_ n2_ n3_;clear hb hbox hg)|((with_reducible refine gate_dst (N:=3) rfl ?_);refine bxE (N:=3) (cs:=#[.int .i64 a1_0,.int .i64 a1_1,.int .i64 a1_2,.string a1_3,.string a1_4,.int .i64 a1_5,.slice A1_6 l1_6.length c1_6,.slice A1_7 l1_7.length c1_7]) (t:=70) ?_;intro gb496 hg w79 hbox hb;have n0_:=aMk (bkB BK495.out hb);have n1_:=aMk (below_step (by repeat (first|(with_reducible first|exact HB.out|apply bwA|apply bwN|apply bw1|refine below_set ?_ GE495.out)|exact HB.out)) hb);have n2_:=aMk (hbox);have n3_:=aMk ((by rw [hg];exact (below_size (by repeat (first|(with_reducible first|exact HB.out|apply bwA|apply bwN|apply bw1|refine below_set ?_ GE495.out)|exact HB.out))) : w.heap.size ≤ gb496));have n4_:=aMk ((by rw [hg];exact (below_size (by repeat (first|(with_reducible first|exact HB.out|apply bwA|apply bwN|apply bw1|refine below_set ?_ GE495.out)|exact HB.out))) : w.heap.size ≤ gb496));have n5_:=aMk ((bkL BK495.out hg : gb495 ≠ gb496));have n6_:=aMk ((bkG BK495.out hg : gb496 ≠ gb495));clear BK495;clear HB;have BK495:=n0_;have HB:=n1_;have BK496:=n2_;have GW496:=n3_;have GE496:=n4_;have NB495_496:=n5_;have NB496_495:=n6_;clear n0_ n1_ n2_ n3_ n4_ n5_ n6_;clear hb hbox hg;have hnb80:=NB495_496.out;have hnc80:=NB496_495.out;obtain ⟨hcz81_0,hcz81_1,hcz81_2,hcz81_3,hcz81_4,hcz81_5,hcz81_6,hcz81_7,hfz81_0,hfz81_1,hfz81_2,hfz81_3,hfz81_4,hfz81_5,hfz81_6,hfz81_7⟩:=bC8 BK495.out;obtain ⟨hcz82_0,hcz82_1,hcz82_2,hcz82_3,hcz82_4,hcz82_5,hcz82_6,hcz82_7,hfz82_0,hfz82_1,hfz82_2,hfz82_3,hfz82_4,hfz82_5,hfz82_6,hfz82_7⟩:=bC8 BK496.out)|((with_reducible refine gate_callee (f:=52) rfl ?_);refine gLs 9 Try.func52 #[.agg #[.int .i64 a0_0,.int .i64 a0_1],.agg #[.int .i64 a1_0,.int .i64 a1_1]] ?_;(with_reducible refine (laws_eqNet.calls a0_0 a0_1 a1_0 a1_1 false _ A3.out).mono ?_);rintro e w83 ⟨rfl,hb⟩;refine ⟨_,rfl,?_⟩;have n0_:=aMk (bkB BK495.out hb);have n1_:=aMk (bkB BK496.out hb);have n2_:=aMk (below_step (by repeat (first|(with_reducible first|exact HB.out|apply bwA|apply bwN|apply bw1|refine below_set ?_ GE495.out|refine below_set ?_ GE496.out)|exact HB.out)) hb);clear BK495;clear BK496;clear HB;have BK495:=n0_;have BK496:=n1_;have HB:=n2_;clear n0_ n1_ n2_;(try clear hb);(try clear hb2);(try clear hk);(try clear hi)))
  go_ret
  exact ⟨eRf,by repeat (first|(with_reducible first|exact HB.out|apply bwA|apply bwN|apply bw1|refine below_set ?_ GE495.out|refine below_set ?_ GE496.out)|exact HB.out)⟩
end
section
/-! ### laws_FnExactConfigOK: function 9 -/
def laws_FnExactConfigOK.f (k : Nat) (a0_0 : Int) (a0_1 : Int) (a0_2 : Int) (a0_3 : ByteArray) (a0_4 : ByteArray) (a0_5 : Int) (l0_6 : List (S116)) (l0_7 : List (S49)) : Option (Bool):=(laws_szConfig.f k a0_0 a0_1 a0_2 a0_3 a0_4 a0_5 l0_6 l0_7 1048576).bind fun t501 => (if t501 < 0 then (some true) else ((laws_toConfig.f k a0_0 a0_1 a0_2 a0_3 a0_4 a0_5 l0_6 l0_7).bind fun bt502 => ((spec_ConfigOK.f k bt502.1 bt502.2.1 bt502.2.2.1 bt502.2.2.2.1 bt502.2.2.2.2.1 bt502.2.2.2.2.2.1 bt502.2.2.2.2.2.2.1 bt502.2.2.2.2.2.2.2).bind fun t514 => ((laws_toConfig.f k a0_0 a0_1 a0_2 a0_3 a0_4 a0_5 l0_6 l0_7).bind fun bt515 => ((impl_ConfigOK.f k bt515.1 bt515.2.1 bt515.2.2.1 bt515.2.2.2.1 bt515.2.2.2.2.1 bt515.2.2.2.2.2.1 bt515.2.2.2.2.2.2.1 bt515.2.2.2.2.2.2.2).bind fun t528 => (if (t528 != t514) = true then (some false) else ((laws_toConfig.f k a0_0 a0_1 a0_2 a0_3 a0_4 a0_5 l0_6 l0_7).bind fun bt529 => ((laws_eqConfig.f k bt515.1 bt515.2.1 bt515.2.2.1 bt515.2.2.2.1 bt515.2.2.2.2.1 bt515.2.2.2.2.2.1 bt515.2.2.2.2.2.2.1 bt515.2.2.2.2.2.2.2 bt529.1 bt529.2.1 bt529.2.2.1 bt529.2.2.2.1 bt529.2.2.2.2.1 bt529.2.2.2.2.2.1 bt529.2.2.2.2.2.2.1 bt529.2.2.2.2.2.2.2).bind fun t541 => (if t541 = true then (some true) else (some false))))))))))
theorem laws_FnExactConfigOK.mono : ∀ a0 a1 a2 a3 a4 a5 a6 a7 k,LeO (laws_FnExactConfigOK.f k a0 a1 a2 a3 a4 a5 a6 a7) (laws_FnExactConfigOK.f (k + 1) a0 a1 a2 a3 a4 a5 a6 a7):=by
 intro a0 a1 a2 a3 a4 a5 a6 a7 k
 unfold laws_FnExactConfigOK.f
 repeat' first
   | (with_reducible exact impl_ConfigOK.mono ..)
   | (with_reducible exact laws_eqConfig.mono ..)
   | (with_reducible exact laws_szConfig.mono ..)
   | (with_reducible exact laws_toConfig.mono ..)
   | (with_reducible exact spec_ConfigOK.mono ..)
   | (with_reducible exact LeO.refl _)
   | (with_reducible exact LeO.none _)
   | (with_reducible refine LeO.ite ?_ ?_)
   | (with_reducible refine LeO.bind ?_ (fun _ => ?_))
   | exact impl_ConfigOK.mono ..
   | exact laws_eqConfig.mono ..
   | exact laws_szConfig.mono ..
   | exact laws_toConfig.mono ..
   | exact spec_ConfigOK.mono ..
   | exact LeO.none _
   | refine LeO.ite ?_ ?_
   | refine LeO.bind ?_ (fun _ => ?_)
set_option maxHeartbeats 8000000 in
set_option maxRecDepth 100000 in
theorem laws_FnExactConfigOK.calls (k : Nat) (a0_0 : Int) (a0_1 : Int) (a0_2 : Int) (a0_3 : ByteArray) (a0_4 : ByteArray) (a0_5 : Int) (A0_6 : Option Addr) (c0_6 : Nat) (l0_6 : List (S116)) (A0_7 : Option Addr) (c0_7 : Nat) (l0_7 : List (S49)) (r : Bool) (w : World) (hr0_6 : Kd.C k116 w A0_6 l0_6.length l0_6) (hc0_6 : l0_6.length ≤ c0_6) (hr0_7 : Kd.C k49 w A0_7 l0_7.length l0_7) (hc0_7 : l0_7.length ≤ c0_7) (h : laws_FnExactConfigOK.f k a0_0 a0_1 a0_2 a0_3 a0_4 a0_5 l0_6 l0_7 = some r) :
  Calls Try.prog 9 #[.agg #[.int .i64 a0_0,.int .i64 a0_1,.int .i64 a0_2,.string a0_3,.string a0_4,.int .i64 a0_5,.slice A0_6 l0_6.length c0_6,.slice A0_7 l0_7.length c0_7]] w fun e w' => e = .returned (.bool r) ∧ Below w.heap.size w w':=by
 have hu64:=Try.underlying64
 have hu70:=Try.underlying70
 have HR0_6:=aMk hr0_6
 have HC0_6:=aMk hc0_6
 clear hr0_6 hc0_6
 have HR0_7:=aMk hr0_7
 have HC0_7:=aMk hc0_7
 clear hr0_7 hc0_7
 have HB:=aMk (Below.refl w.heap.size w)
 have H : ((laws_szConfig.f k a0_0 a0_1 a0_2 a0_3 a0_4 a0_5 l0_6 l0_7 1048576).bind fun t501 => (if t501 < 0 then (some true) else ((laws_toConfig.f k a0_0 a0_1 a0_2 a0_3 a0_4 a0_5 l0_6 l0_7).bind fun bt502 => ((spec_ConfigOK.f k bt502.1 bt502.2.1 bt502.2.2.1 bt502.2.2.2.1 bt502.2.2.2.2.1 bt502.2.2.2.2.2.1 bt502.2.2.2.2.2.2.1 bt502.2.2.2.2.2.2.2).bind fun t514 => ((laws_toConfig.f k a0_0 a0_1 a0_2 a0_3 a0_4 a0_5 l0_6 l0_7).bind fun bt515 => ((impl_ConfigOK.f k bt515.1 bt515.2.1 bt515.2.2.1 bt515.2.2.2.1 bt515.2.2.2.2.1 bt515.2.2.2.2.2.1 bt515.2.2.2.2.2.2.1 bt515.2.2.2.2.2.2.2).bind fun t528 => (if (t528 != t514) = true then (some false) else ((laws_toConfig.f k a0_0 a0_1 a0_2 a0_3 a0_4 a0_5 l0_6 l0_7).bind fun bt529 => ((laws_eqConfig.f k bt515.1 bt515.2.1 bt515.2.2.1 bt515.2.2.2.1 bt515.2.2.2.2.1 bt515.2.2.2.2.2.1 bt515.2.2.2.2.2.2.1 bt515.2.2.2.2.2.2.2 bt529.1 bt529.2.1 bt529.2.2.1 bt529.2.2.2.1 bt529.2.2.2.2.1 bt529.2.2.2.2.2.1 bt529.2.2.2.2.2.2.1 bt529.2.2.2.2.2.2.2).bind fun t541 => (if t541 = true then (some true) else (some false))))))))))) = some r:=h
 clear h
 replace H:=Option.bind_eq_some_iff.mp H
 obtain ⟨t501,A20,H⟩:=H
 replace H : (if t501 < 0 then (some true) else ((laws_toConfig.f k a0_0 a0_1 a0_2 a0_3 a0_4 a0_5 l0_6 l0_7).bind fun bt502 => ((spec_ConfigOK.f k bt502.1 bt502.2.1 bt502.2.2.1 bt502.2.2.2.1 bt502.2.2.2.2.1 bt502.2.2.2.2.2.1 bt502.2.2.2.2.2.2.1 bt502.2.2.2.2.2.2.2).bind fun t514 => ((laws_toConfig.f k a0_0 a0_1 a0_2 a0_3 a0_4 a0_5 l0_6 l0_7).bind fun bt515 => ((impl_ConfigOK.f k bt515.1 bt515.2.1 bt515.2.2.1 bt515.2.2.2.1 bt515.2.2.2.2.1 bt515.2.2.2.2.2.1 bt515.2.2.2.2.2.2.1 bt515.2.2.2.2.2.2.2).bind fun t528 => (if (t528 != t514) = true then (some false) else ((laws_toConfig.f k a0_0 a0_1 a0_2 a0_3 a0_4 a0_5 l0_6 l0_7).bind fun bt529 => ((laws_eqConfig.f k bt515.1 bt515.2.1 bt515.2.2.1 bt515.2.2.2.1 bt515.2.2.2.2.1 bt515.2.2.2.2.2.1 bt515.2.2.2.2.2.2.1 bt515.2.2.2.2.2.2.2 bt529.1 bt529.2.1 bt529.2.2.1 bt529.2.2.2.1 bt529.2.2.2.2.1 bt529.2.2.2.2.2.1 bt529.2.2.2.2.2.2.1 bt529.2.2.2.2.2.2.2).bind fun t541 => (if t541 = true then (some true) else (some false)))))))))) = some r:=H
 have A2:=aMk A20
 clear A20
 by_cases c3 : t501 < 0
 ·rw [if_pos c3] at H
  have c3b0 : decide (t501 < 0) = true:=decide_eq_true c3
  clear c3
  obtain rfl:=Option.some.inj H
  go_enter Try.func9,Try.ntmps9
  go_wp2_with (first|((with_reducible refine gate_dst (N:=1) rfl ?_);refine bxE (N:=1) (cs:=#[.int .i64 a0_0,.int .i64 a0_1,.int .i64 a0_2,.string a0_3,.string a0_4,.int .i64 a0_5,.slice A0_6 l0_6.length c0_6,.slice A0_7 l0_7.length c0_7]) (t:=64) ?_;intro gb500 hg w4 hbox hb;have n0_:=aMk (bSt hb);have n1_:=aMk (hbox);have n2_:=aMk ((by rw [hg];exact bSz : w.heap.size ≤ gb500));have n3_:=aMk ((by rw [hg];exact bSz : w.heap.size ≤ gb500));clear HB;have HB:=n0_;have BK500:=n1_;have GW500:=n2_;have GE500:=n3_;clear n0_ n1_ n2_ n3_;clear hb hbox hg;obtain ⟨hcz5_0,hcz5_1,hcz5_2,hcz5_3,hcz5_4,hcz5_5,hcz5_6,hcz5_7,hfz5_0,hfz5_1,hfz5_2,hfz5_3,hfz5_4,hfz5_5,hfz5_6,hfz5_7⟩:=bC8 BK500.out)|((with_reducible refine gate_callee (f:=31) rfl ?_);refine gLs 9 Try.func31 #[.agg #[.int .i64 a0_0,.int .i64 a0_1,.int .i64 a0_2,.string a0_3,.string a0_4,.int .i64 a0_5,.slice A0_6 l0_6.length c0_6,.slice A0_7 l0_7.length c0_7],.int .i64 1048576] ?_;(with_reducible refine (laws_szConfig.calls k a0_0 a0_1 a0_2 a0_3 a0_4 a0_5 _ _ l0_6 _ _ l0_7 1048576 t501 _ ?side1 ?side2 ?side3 ?side4 A2.out).mono ?_);(case side1 => repeat (first|exact (Kd.C_below HR0_6.out HB.out)|(with_reducible refine Kd.C_alloc ?_ _)|(with_reducible refine Kd.C_drewN ?_ _)|(with_reducible refine Kd.C_drew ?_)));(case side2 => exact HC0_6.out);(case side3 => repeat (first|exact (Kd.C_below HR0_7.out HB.out)|(with_reducible refine Kd.C_alloc ?_ _)|(with_reducible refine Kd.C_drewN ?_ _)|(with_reducible refine Kd.C_drew ?_)));(case side4 => exact HC0_7.out);rintro e w6 ⟨rfl,hb⟩;refine ⟨_,rfl,?_⟩;have n0_:=aMk (bkB BK500.out hb);have n1_:=aMk (below_step (by repeat (first|(with_reducible first|exact HB.out|apply bwA|apply bwN|apply bw1|refine below_set ?_ GE500.out)|exact HB.out)) hb);clear BK500;clear HB;have BK500:=n0_;have HB:=n1_;clear n0_ n1_;(try clear hb);(try clear hb2);(try clear hk);(try clear hi)))
  go_ret
  exact ⟨eRf,by repeat (first|(with_reducible first|exact HB.out|apply bwA|apply bwN|apply bw1|refine below_set ?_ GE500.out)|exact HB.out)⟩
 ·rw [if_neg c3] at H
  have c3b0 : decide (t501 < 0) = false:=decide_eq_false c3
  clear c3
  replace H:=Option.bind_eq_some_iff.mp H
  obtain ⟨⟨t502,t503,t504,t505,t506,t507,t508,t511⟩,A70,H⟩:=H
  replace H : ((spec_ConfigOK.f k t502 t503 t504 t505 t506 t507 t508 t511).bind fun t514 => ((laws_toConfig.f k a0_0 a0_1 a0_2 a0_3 a0_4 a0_5 l0_6 l0_7).bind fun bt515 => ((impl_ConfigOK.f k bt515.1 bt515.2.1 bt515.2.2.1 bt515.2.2.2.1 bt515.2.2.2.2.1 bt515.2.2.2.2.2.1 bt515.2.2.2.2.2.2.1 bt515.2.2.2.2.2.2.2).bind fun t528 => (if (t528 != t514) = true then (some false) else ((laws_toConfig.f k a0_0 a0_1 a0_2 a0_3 a0_4 a0_5 l0_6 l0_7).bind fun bt529 => ((laws_eqConfig.f k bt515.1 bt515.2.1 bt515.2.2.1 bt515.2.2.2.1 bt515.2.2.2.2.1 bt515.2.2.2.2.2.1 bt515.2.2.2.2.2.2.1 bt515.2.2.2.2.2.2.2 bt529.1 bt529.2.1 bt529.2.2.1 bt529.2.2.2.1 bt529.2.2.2.2.1 bt529.2.2.2.2.2.1 bt529.2.2.2.2.2.2.1 bt529.2.2.2.2.2.2.2).bind fun t541 => (if t541 = true then (some true) else (some false)))))))) = some r:=H
  have A7:=aMk A70
  clear A70
  replace H:=Option.bind_eq_some_iff.mp H
  obtain ⟨t514,A80,H⟩:=H
  replace H : ((laws_toConfig.f k a0_0 a0_1 a0_2 a0_3 a0_4 a0_5 l0_6 l0_7).bind fun bt515 => ((impl_ConfigOK.f k bt515.1 bt515.2.1 bt515.2.2.1 bt515.2.2.2.1 bt515.2.2.2.2.1 bt515.2.2.2.2.2.1 bt515.2.2.2.2.2.2.1 bt515.2.2.2.2.2.2.2).bind fun t528 => (if (t528 != t514) = true then (some false) else ((laws_toConfig.f k a0_0 a0_1 a0_2 a0_3 a0_4 a0_5 l0_6 l0_7).bind fun bt529 => ((laws_eqConfig.f k bt515.1 bt515.2.1 bt515.2.2.1 bt515.2.2.2.1 bt515.2.2.2.2.1 bt515.2.2.2.2.2.1 bt515.2.2.2.2.2.2.1 bt515.2.2.2.2.2.2.2 bt529.1 bt529.2.1 bt529.2.2.1 bt529.2.2.2.1 bt529.2.2.2.2.1 bt529.2.2.2.2.2.1 bt529.2.2.2.2.2.2.1 bt529.2.2.2.2.2.2.2).bind fun t541 => (if t541 = true then (some true) else (some false))))))) = some r:=H
  have A8:=aMk A80
  clear A80
  replace H:=Option.bind_eq_some_iff.mp H
  obtain ⟨⟨t515,t516,t517,t518,t519,t520,t521,t524⟩,A90,H⟩:=H
  replace H : ((impl_ConfigOK.f k t515 t516 t517 t518 t519 t520 t521 t524).bind fun t528 => (if (t528 != t514) = true then (some false) else ((laws_toConfig.f k a0_0 a0_1 a0_2 a0_3 a0_4 a0_5 l0_6 l0_7).bind fun bt529 => ((laws_eqConfig.f k t515 t516 t517 t518 t519 t520 t521 t524 bt529.1 bt529.2.1 bt529.2.2.1 bt529.2.2.2.1 bt529.2.2.2.2.1 bt529.2.2.2.2.2.1 bt529.2.2.2.2.2.2.1 bt529.2.2.2.2.2.2.2).bind fun t541 => (if t541 = true then (some true) else (some false)))))) = some r:=H
  have A9:=aMk A90
  clear A90
  replace H:=Option.bind_eq_some_iff.mp H
  obtain ⟨t528,A100,H⟩:=H
  replace H : (if (t528 != t514) = true then (some false) else ((laws_toConfig.f k a0_0 a0_1 a0_2 a0_3 a0_4 a0_5 l0_6 l0_7).bind fun bt529 => ((laws_eqConfig.f k t515 t516 t517 t518 t519 t520 t521 t524 bt529.1 bt529.2.1 bt529.2.2.1 bt529.2.2.2.1 bt529.2.2.2.2.1 bt529.2.2.2.2.2.1 bt529.2.2.2.2.2.2.1 bt529.2.2.2.2.2.2.2).bind fun t541 => (if t541 = true then (some true) else (some false))))) = some r:=H
  have A10:=aMk A100
  clear A100
  by_cases c11 : (t528 != t514) = true
  ·rw [if_pos c11] at H
   have c11b0 : (t528 != t514) = true:=c11
   (try (have c11b1 : decide (t528 = t514) = false:=by simpa using c11))
   (try (have c11b2 : (t528 == t514) = false:=by simpa using c11))
   (try (have c11b3 : ¬ (t528 = t514):=by simpa using c11))
   clear c11
   obtain rfl:=Option.some.inj H
   go_enter Try.func9,Try.ntmps9
   go_wp2_with (first|((with_reducible refine gate_dst (N:=1) rfl ?_);refine bxE (N:=1) (cs:=#[.int .i64 a0_0,.int .i64 a0_1,.int .i64 a0_2,.string a0_3,.string a0_4,.int .i64 a0_5,.slice A0_6 l0_6.length c0_6,.slice A0_7 l0_7.length c0_7]) (t:=64) ?_;intro gb500 hg w12 hbox hb;have n0_:=aMk (bSt hb);have n1_:=aMk (hbox);have n2_:=aMk ((by rw [hg];exact bSz : w.heap.size ≤ gb500));have n3_:=aMk ((by rw [hg];exact bSz : w.heap.size ≤ gb500));clear HB;have HB:=n0_;have BK500:=n1_;have GW500:=n2_;have GE500:=n3_;clear n0_ n1_ n2_ n3_;clear hb hbox hg;obtain ⟨hcz13_0,hcz13_1,hcz13_2,hcz13_3,hcz13_4,hcz13_5,hcz13_6,hcz13_7,hfz13_0,hfz13_1,hfz13_2,hfz13_3,hfz13_4,hfz13_5,hfz13_6,hfz13_7⟩:=bC8 BK500.out)|((with_reducible refine gate_callee (f:=31) rfl ?_);refine gLs 9 Try.func31 #[.agg #[.int .i64 a0_0,.int .i64 a0_1,.int .i64 a0_2,.string a0_3,.string a0_4,.int .i64 a0_5,.slice A0_6 l0_6.length c0_6,.slice A0_7 l0_7.length c0_7],.int .i64 1048576] ?_;(with_reducible refine (laws_szConfig.calls k a0_0 a0_1 a0_2 a0_3 a0_4 a0_5 _ _ l0_6 _ _ l0_7 1048576 t501 _ ?side1 ?side2 ?side3 ?side4 A2.out).mono ?_);(case side1 => repeat (first|exact (Kd.C_below HR0_6.out HB.out)|(with_reducible refine Kd.C_alloc ?_ _)|(with_reducible refine Kd.C_drewN ?_ _)|(with_reducible refine Kd.C_drew ?_)));(case side2 => exact HC0_6.out);(case side3 => repeat (first|exact (Kd.C_below HR0_7.out HB.out)|(with_reducible refine Kd.C_alloc ?_ _)|(with_reducible refine Kd.C_drewN ?_ _)|(with_reducible refine Kd.C_drew ?_)));(case side4 => exact HC0_7.out);rintro e w14 ⟨rfl,hb⟩;refine ⟨_,rfl,?_⟩;have n0_:=aMk (bkB BK500.out hb);have n1_:=aMk (below_step (by repeat (first|(with_reducible first|exact HB.out|apply bwA|apply bwN|apply bw1|refine below_set ?_ GE500.out)|exact HB.out)) hb);clear BK500;clear HB;have BK500:=n0_;have HB:=n1_;clear n0_ n1_;(try clear hb);(try clear hb2);(try clear hk);(try clear hi);obtain ⟨hcz15_0,hcz15_1,hcz15_2,hcz15_3,hcz15_4,hcz15_5,hcz15_6,hcz15_7,hfz15_0,hfz15_1,hfz15_2,hfz15_3,hfz15_4,hfz15_5,hfz15_6,hfz15_7⟩:=bC8 BK500.out)|((with_reducible refine gate_callee (f:=33) rfl ?_);refine gLs 13 Try.func33 #[.agg #[.int .i64 a0_0,.int .i64 a0_1,.int .i64 a0_2,.string a0_3,.string a0_4,.int .i64 a0_5,.slice A0_6 l0_6.length c0_6,.slice A0_7 l0_7.length c0_7]] ?_;(with_reducible refine (laws_toConfig.calls k a0_0 a0_1 a0_2 a0_3 a0_4 a0_5 _ _ l0_6 _ _ l0_7 t502 t503 t504 t505 t506 t507 t508 t511 _ ?side1 ?side2 ?side3 ?side4 A7.out).mono ?_);(case side1 => repeat (first|exact (Kd.C_below HR0_6.out HB.out)|(with_reducible refine Kd.C_alloc ?_ _)|(with_reducible refine Kd.C_drewN ?_ _)|(with_reducible refine Kd.C_drew ?_)));(case side2 => exact HC0_6.out);(case side3 => repeat (first|exact (Kd.C_below HR0_7.out HB.out)|(with_reducible refine Kd.C_alloc ?_ _)|(with_reducible refine Kd.C_drewN ?_ _)|(with_reducible refine Kd.C_drew ?_)));(case side4 => exact HC0_7.out);rintro e w16 ⟨v509,v512,rfl,ho0,ho1,hb⟩;refine ⟨_,rfl,?_⟩;have n0_:=aMk (Kd.R_lower ho0 (below_size (by repeat (first|(with_reducible first|exact HB.out|apply bwA|apply bwN|apply bw1|refine below_set ?_ GE500.out)|exact HB.out))));have n1_:=aMk (Kd.S_lower ho1 (below_size (by repeat (first|(with_reducible first|exact HB.out|apply bwA|apply bwN|apply bw1|refine below_set ?_ GE500.out)|exact HB.out))));have n2_:=aMk (bkB BK500.out hb);have n3_:=aMk (below_step (by repeat (first|(with_reducible first|exact HB.out|apply bwA|apply bwN|apply bw1|refine below_set ?_ GE500.out)|exact HB.out)) hb);clear BK500;clear HB;have HO510:=n0_;have HO513:=n1_;have BK500:=n2_;have HB:=n3_;clear n0_ n1_ n2_ n3_;(try clear hb);(try clear hb2);(try clear hk);(try clear hi);(try clear ho0);(try clear ho1);obtain ⟨Ao17,co17,eo17⟩:=Kd.R_slice HO510.out;subst eo17;obtain ⟨Ao18,co18,eo18⟩:=Kd.S_slice HO513.out;subst eo18)|((with_reducible refine gate_callee (f:=32) rfl ?_);refine gLs 14 Try.func32 #[.agg #[.int .i64 t502,.int .i64 t503,.int .i64 t504,.string t505,.string t506,.int .i64 t507,.slice Ao17 t508.length co17,.slice Ao18 t511.length co18]] ?_;(with_reducible refine (spec_ConfigOK.calls k t502 t503 t504 t505 t506 t507 _ _ t508 _ _ t511 t514 _ ?side1 ?side2 ?side3 ?side4 A8.out).mono ?_);(case side1 => repeat (first|exact (Kd.R_reads' HO510.out).2.2|(with_reducible refine Kd.C_alloc ?_ _)|(with_reducible refine Kd.C_drewN ?_ _)|(with_reducible refine Kd.C_drew ?_)));(case side2 => exact (Kd.R_reads' HO510.out).2.1);(case side3 => repeat (first|exact (Kd.S_reads' HO513.out).2.2|(with_reducible refine Kd.C_alloc ?_ _)|(with_reducible refine Kd.C_drewN ?_ _)|(with_reducible refine Kd.C_drew ?_)));(case side4 => exact (Kd.S_reads' HO513.out).2.1);rintro e w19 ⟨rfl,hb⟩;refine ⟨_,rfl,?_⟩;have n0_:=aMk (Kd.R_below (by (with_reducible repeat (first|apply Kd.R_alloc|apply Kd.R_drewN|apply Kd.R_drew));exact HO510.out) hb);have n1_:=aMk (Kd.S_below (by (with_reducible repeat (first|apply Kd.S_alloc|apply Kd.S_drewN|apply Kd.S_drew));exact HO513.out) hb);have n2_:=aMk (bkB BK500.out hb);have n3_:=aMk (below_step (by repeat (first|(with_reducible first|exact HB.out|apply bwA|apply bwN|apply bw1|refine below_set ?_ GE500.out)|exact HB.out)) hb);clear HO510;clear HO513;clear BK500;clear HB;have HO510:=n0_;have HO513:=n1_;have BK500:=n2_;have HB:=n3_;clear n0_ n1_ n2_ n3_;(try clear hb);(try clear hb2);(try clear hk);(try clear hi);obtain ⟨hcz20_0,hcz20_1,hcz20_2,hcz20_3,hcz20_4,hcz20_5,hcz20_6,hcz20_7,hfz20_0,hfz20_1,hfz20_2,hfz20_3,hfz20_4,hfz20_5,hfz20_6,hfz20_7⟩:=bC8 BK500.out)|((with_reducible refine gate_callee (f:=33) rfl ?_);refine gLs 16 Try.func33 #[.agg #[.int .i64 a0_0,.int .i64 a0_1,.int .i64 a0_2,.string a0_3,.string a0_4,.int .i64 a0_5,.slice A0_6 l0_6.length c0_6,.slice A0_7 l0_7.length c0_7]] ?_;(with_reducible refine (laws_toConfig.calls k a0_0 a0_1 a0_2 a0_3 a0_4 a0_5 _ _ l0_6 _ _ l0_7 t515 t516 t517 t518 t519 t520 t521 t524 _ ?side1 ?side2 ?side3 ?side4 A9.out).mono ?_);(case side1 => repeat (first|exact (Kd.C_below HR0_6.out HB.out)|(with_reducible refine Kd.C_alloc ?_ _)|(with_reducible refine Kd.C_drewN ?_ _)|(with_reducible refine Kd.C_drew ?_)));(case side2 => exact HC0_6.out);(case side3 => repeat (first|exact (Kd.C_below HR0_7.out HB.out)|(with_reducible refine Kd.C_alloc ?_ _)|(with_reducible refine Kd.C_drewN ?_ _)|(with_reducible refine Kd.C_drew ?_)));(case side4 => exact HC0_7.out);rintro e w21 ⟨v522,v525,rfl,ho0,ho1,hb⟩;refine ⟨_,rfl,?_⟩;have n0_:=aMk (Kd.R_elder' (by (with_reducible repeat (first|apply Kd.R_alloc|apply Kd.R_drewN|apply Kd.R_drew));exact HO510.out) (Kd.R_base ho0) hb);have n1_:=aMk (Kd.S_elder' (by (with_reducible repeat (first|apply Kd.S_alloc|apply Kd.S_drewN|apply Kd.S_drew));exact HO513.out) (Kd.S_base ho1) hb);have n2_:=aMk (Kd.R_lower (Kd.R_new' ho0 (Kd.R_lt (by (with_reducible repeat (first|apply Kd.R_alloc|apply Kd.R_drewN|apply Kd.R_drew));exact HO510.out))) (below_size (by repeat (first|(with_reducible first|exact HB.out|apply bwA|apply bwN|apply bw1|refine below_set ?_ GE500.out)|exact HB.out))));have n3_:=aMk (Kd.S_lower (Kd.S_new' ho1 (Kd.S_lt (by (with_reducible repeat (first|apply Kd.S_alloc|apply Kd.S_drewN|apply Kd.S_drew));exact HO513.out))) (below_size (by repeat (first|(with_reducible first|exact HB.out|apply bwA|apply bwN|apply bw1|refine below_set ?_ GE500.out)|exact HB.out))));have n4_:=aMk (bkB BK500.out hb);have n5_:=aMk (below_step (by repeat (first|(with_reducible first|exact HB.out|apply bwA|apply bwN|apply bw1|refine below_set ?_ GE500.out)|exact HB.out)) hb);clear HO510;clear HO513;clear BK500;clear HB;have HO510:=n0_;have HO513:=n1_;have HO523:=n2_;have HO526:=n3_;have BK500:=n4_;have HB:=n5_;clear n0_ n1_ n2_ n3_ n4_ n5_;(try clear hb);(try clear hb2);(try clear hk);(try clear hi);(try clear ho0);(try clear ho1))|((with_reducible refine gate_dst (N:=5) rfl ?_);refine bxE (N:=5) (cs:=#[.int .i64 0,.int .i64 0,.int .i64 0,.string (⟨#[]⟩ : ByteArray),.string (⟨#[]⟩ : ByteArray),.int .i64 0,.slice none 0 0,.slice none 0 0]) (t:=70) ?_;intro gb527 hg w22 hbox hb;have n0_:=aMk (Kd.R_below (by (with_reducible repeat (first|apply Kd.R_alloc|apply Kd.R_drewN|apply Kd.R_drew));exact HO510.out) hb);have n1_:=aMk (Kd.S_below (by (with_reducible repeat (first|apply Kd.S_alloc|apply Kd.S_drewN|apply Kd.S_drew));exact HO513.out) hb);have n2_:=aMk (Kd.R_below (by (with_reducible repeat (first|apply Kd.R_alloc|apply Kd.R_drewN|apply Kd.R_drew));exact HO523.out) hb);have n3_:=aMk (Kd.S_below (by (with_reducible repeat (first|apply Kd.S_alloc|apply Kd.S_drewN|apply Kd.S_drew));exact HO526.out) hb);have n4_:=aMk (bkB BK500.out hb);have n5_:=aMk (below_step (by repeat (first|(with_reducible first|exact HB.out|apply bwA|apply bwN|apply bw1|refine below_set ?_ GE500.out)|exact HB.out)) hb);have n6_:=aMk (hbox);have n7_:=aMk ((by rw [hg];exact (below_size (by repeat (first|(with_reducible first|exact HB.out|apply bwA|apply bwN|apply bw1|refine below_set ?_ GE500.out)|exact HB.out))) : w.heap.size ≤ gb527));have n8_:=aMk ((by rw [hg];exact (below_size (by repeat (first|(with_reducible first|exact HB.out|apply bwA|apply bwN|apply bw1|refine below_set ?_ GE500.out)|exact HB.out))) : w.heap.size ≤ gb527));have n9_:=aMk ((bkL BK500.out hg : gb500 ≠ gb527));have n10_:=aMk ((bkG BK500.out hg : gb527 ≠ gb500));clear HO510;clear HO513;clear HO523;clear HO526;clear BK500;clear HB;have HO510:=n0_;have HO513:=n1_;have HO523:=n2_;have HO526:=n3_;have BK500:=n4_;have HB:=n5_;have BK527:=n6_;have GW527:=n7_;have GE527:=n8_;have NB500_527:=n9_;have NB527_500:=n10_;clear n0_ n1_ n2_ n3_ n4_ n5_ n6_ n7_ n8_ n9_ n10_;clear hb hbox hg;have hnb23:=NB527_500.out;have hnc23:=NB500_527.out;obtain ⟨hcz24_0,hcz24_1,hcz24_2,hcz24_3,hcz24_4,hcz24_5,hcz24_6,hcz24_7,hfz24_0,hfz24_1,hfz24_2,hfz24_3,hfz24_4,hfz24_5,hfz24_6,hfz24_7⟩:=bC8 BK527.out;obtain ⟨Ao25,co25,eo25⟩:=Kd.R_slice HO523.out;subst eo25;obtain ⟨Ao26,co26,eo26⟩:=Kd.S_slice HO526.out;subst eo26)|((with_reducible refine gate_callee (f:=34) rfl ?_);refine gLs 18 Try.func34 #[.agg #[.int .i64 t515,.int .i64 t516,.int .i64 t517,.string t518,.string t519,.int .i64 t520,.slice Ao25 t521.length co25,.slice Ao26 t524.length co26]] ?_;(with_reducible refine (impl_ConfigOK.calls k t515 t516 t517 t518 t519 t520 _ _ t521 _ _ t524 t528 _ ?side1 ?side2 ?side3 ?side4 A10.out).mono ?_);(case side1 => refine (Kd.R_reads' (e:=100) (base:=w.heap.size) (ok:=fun k_ => (True ∧ some k_ ≠ (.slice Ao17 t508.length co17 : Value).ownBlock)) (n:=t521.length) (c:=co25) ?_).2.2;exact (by (with_reducible repeat (first|apply Kd.R_alloc|apply Kd.R_drewN|apply Kd.R_drew));exact (Kd.R_mono (Kd.R_far (p:=⟨gb527,7,none⟩) (Kd.R_far (p:=⟨gb527,6,none⟩) (Kd.R_far (p:=⟨gb527,5,none⟩) (Kd.R_far (p:=⟨gb527,4,none⟩) (Kd.R_far (p:=⟨gb527,3,none⟩) (Kd.R_far (p:=⟨gb527,2,none⟩) (Kd.R_far (p:=⟨gb527,1,none⟩) (Kd.R_far (p:=⟨gb527,0,none⟩) (Kd.R_types HO523.out BK527.out (by decide)) (fun _ hk => hk.2) (.int .i64 t515)) (fun _ hk => hk.2) (.int .i64 t516)) (fun _ hk => hk.2) (.int .i64 t517)) (fun _ hk => hk.2) (.string t518)) (fun _ hk => hk.2) (.string t519)) (fun _ hk => hk.2) (.int .i64 t520)) (fun _ hk => hk.2) (.slice Ao25 t521.length co25)) (fun _ hk => hk.2) (.slice Ao26 t524.length co26)) (fun _ h_ => h_.1))));(case side2 => exact (Kd.R_reads' HO523.out).2.1);(case side3 => refine (Kd.S_reads' (e:=54) (base:=w.heap.size) (ok:=fun k_ => (True ∧ some k_ ≠ (.slice Ao18 t511.length co18 : Value).ownBlock)) (n:=t524.length) (c:=co26) ?_).2.2;exact (by (with_reducible repeat (first|apply Kd.S_alloc|apply Kd.S_drewN|apply Kd.S_drew));exact (Kd.S_mono (Kd.S_far (p:=⟨gb527,7,none⟩) (Kd.S_far (p:=⟨gb527,6,none⟩) (Kd.S_far (p:=⟨gb527,5,none⟩) (Kd.S_far (p:=⟨gb527,4,none⟩) (Kd.S_far (p:=⟨gb527,3,none⟩) (Kd.S_far (p:=⟨gb527,2,none⟩) (Kd.S_far (p:=⟨gb527,1,none⟩) (Kd.S_far (p:=⟨gb527,0,none⟩) (Kd.S_types HO526.out BK527.out (by decide)) (fun _ hk => hk.2) (.int .i64 t515)) (fun _ hk => hk.2) (.int .i64 t516)) (fun _ hk => hk.2) (.int .i64 t517)) (fun _ hk => hk.2) (.string t518)) (fun _ hk => hk.2) (.string t519)) (fun _ hk => hk.2) (.int .i64 t520)) (fun _ hk => hk.2) (.slice Ao25 t521.length co25)) (fun _ hk => hk.2) (.slice Ao26 t524.length co26)) (fun _ h_ => h_.1))));(case side4 => exact (Kd.S_reads' HO526.out).2.1);rintro e w27 ⟨rfl,hb⟩;refine ⟨_,rfl,?_⟩;have n0_:=aMk (Kd.R_below (by (with_reducible repeat (first|apply Kd.R_alloc|apply Kd.R_drewN|apply Kd.R_drew));exact (Kd.R_mono (Kd.R_far (p:=⟨gb527,7,none⟩) (Kd.R_far (p:=⟨gb527,6,none⟩) (Kd.R_far (p:=⟨gb527,5,none⟩) (Kd.R_far (p:=⟨gb527,4,none⟩) (Kd.R_far (p:=⟨gb527,3,none⟩) (Kd.R_far (p:=⟨gb527,2,none⟩) (Kd.R_far (p:=⟨gb527,1,none⟩) (Kd.R_far (p:=⟨gb527,0,none⟩) (Kd.R_types HO510.out BK527.out (by decide)) (fun _ hk => hk.2) (.int .i64 t515)) (fun _ hk => hk.2) (.int .i64 t516)) (fun _ hk => hk.2) (.int .i64 t517)) (fun _ hk => hk.2) (.string t518)) (fun _ hk => hk.2) (.string t519)) (fun _ hk => hk.2) (.int .i64 t520)) (fun _ hk => hk.2) (.slice Ao25 t521.length co25)) (fun _ hk => hk.2) (.slice Ao26 t524.length co26)) (fun _ h_ => h_.1))) hb);have n1_:=aMk (Kd.S_below (by (with_reducible repeat (first|apply Kd.S_alloc|apply Kd.S_drewN|apply Kd.S_drew));exact (Kd.S_mono (Kd.S_far (p:=⟨gb527,7,none⟩) (Kd.S_far (p:=⟨gb527,6,none⟩) (Kd.S_far (p:=⟨gb527,5,none⟩) (Kd.S_far (p:=⟨gb527,4,none⟩) (Kd.S_far (p:=⟨gb527,3,none⟩) (Kd.S_far (p:=⟨gb527,2,none⟩) (Kd.S_far (p:=⟨gb527,1,none⟩) (Kd.S_far (p:=⟨gb527,0,none⟩) (Kd.S_types HO513.out BK527.out (by decide)) (fun _ hk => hk.2) (.int .i64 t515)) (fun _ hk => hk.2) (.int .i64 t516)) (fun _ hk => hk.2) (.int .i64 t517)) (fun _ hk => hk.2) (.string t518)) (fun _ hk => hk.2) (.string t519)) (fun _ hk => hk.2) (.int .i64 t520)) (fun _ hk => hk.2) (.slice Ao25 t521.length co25)) (fun _ hk => hk.2) (.slice Ao26 t524.length co26)) (fun _ h_ => h_.1))) hb);have n2_:=aMk (Kd.R_below (by (with_reducible repeat (first|apply Kd.R_alloc|apply Kd.R_drewN|apply Kd.R_drew));exact (Kd.R_mono (Kd.R_far (p:=⟨gb527,7,none⟩) (Kd.R_far (p:=⟨gb527,6,none⟩) (Kd.R_far (p:=⟨gb527,5,none⟩) (Kd.R_far (p:=⟨gb527,4,none⟩) (Kd.R_far (p:=⟨gb527,3,none⟩) (Kd.R_far (p:=⟨gb527,2,none⟩) (Kd.R_far (p:=⟨gb527,1,none⟩) (Kd.R_far (p:=⟨gb527,0,none⟩) (Kd.R_types HO523.out BK527.out (by decide)) (fun _ hk => hk.2) (.int .i64 t515)) (fun _ hk => hk.2) (.int .i64 t516)) (fun _ hk => hk.2) (.int .i64 t517)) (fun _ hk => hk.2) (.string t518)) (fun _ hk => hk.2) (.string t519)) (fun _ hk => hk.2) (.int .i64 t520)) (fun _ hk => hk.2) (.slice Ao25 t521.length co25)) (fun _ hk => hk.2) (.slice Ao26 t524.length co26)) (fun _ h_ => h_.1))) hb);have n3_:=aMk (Kd.S_below (by (with_reducible repeat (first|apply Kd.S_alloc|apply Kd.S_drewN|apply Kd.S_drew));exact (Kd.S_mono (Kd.S_far (p:=⟨gb527,7,none⟩) (Kd.S_far (p:=⟨gb527,6,none⟩) (Kd.S_far (p:=⟨gb527,5,none⟩) (Kd.S_far (p:=⟨gb527,4,none⟩) (Kd.S_far (p:=⟨gb527,3,none⟩) (Kd.S_far (p:=⟨gb527,2,none⟩) (Kd.S_far (p:=⟨gb527,1,none⟩) (Kd.S_far (p:=⟨gb527,0,none⟩) (Kd.S_types HO526.out BK527.out (by decide)) (fun _ hk => hk.2) (.int .i64 t515)) (fun _ hk => hk.2) (.int .i64 t516)) (fun _ hk => hk.2) (.int .i64 t517)) (fun _ hk => hk.2) (.string t518)) (fun _ hk => hk.2) (.string t519)) (fun _ hk => hk.2) (.int .i64 t520)) (fun _ hk => hk.2) (.slice Ao25 t521.length co25)) (fun _ hk => hk.2) (.slice Ao26 t524.length co26)) (fun _ h_ => h_.1))) hb);have n4_:=aMk (blk_below (g:=gb500) (o:=.cells #[.int .i64 a0_0,.int .i64 a0_1,.int .i64 a0_2,.string a0_3,.string a0_4,.int .i64 a0_5,.slice A0_6 l0_6.length c0_6,.slice A0_7 l0_7.length c0_7] 64 (0,0)) (by (with_reducible repeat (first|refine bDn ?_ _|refine bDr ?_|refine bAl ?_ _));refine blk_far ?_ NB500_527.out _;(with_reducible repeat (first|refine bDn ?_ _|refine bDr ?_|refine bAl ?_ _));refine blk_far ?_ NB500_527.out _;(with_reducible repeat (first|refine bDn ?_ _|refine bDr ?_|refine bAl ?_ _));refine blk_far ?_ NB500_527.out _;(with_reducible repeat (first|refine bDn ?_ _|refine bDr ?_|refine bAl ?_ _));refine blk_far ?_ NB500_527.out _;(with_reducible repeat (first|refine bDn ?_ _|refine bDr ?_|refine bAl ?_ _));refine blk_far ?_ NB500_527.out _;(with_reducible repeat (first|refine bDn ?_ _|refine bDr ?_|refine bAl ?_ _));refine blk_far ?_ NB500_527.out _;(with_reducible repeat (first|refine bDn ?_ _|refine bDr ?_|refine bAl ?_ _));refine blk_far ?_ NB500_527.out _;(with_reducible repeat (first|refine bDn ?_ _|refine bDr ?_|refine bAl ?_ _));refine blk_far ?_ NB500_527.out _;(with_reducible repeat (first|refine bDn ?_ _|refine bDr ?_|refine bAl ?_ _));exact BK500.out) hb);have n5_:=aMk (blk_below (g:=gb527) (o:=.cells #[.int .i64 t515,.int .i64 t516,.int .i64 t517,.string t518,.string t519,.int .i64 t520,.slice Ao25 t521.length co25,.slice Ao26 t524.length co26] 70 (0,0)) (by (with_reducible repeat (first|refine bDn ?_ _|refine bDr ?_|refine bAl ?_ _));refine blk_put (cs:=#[.int .i64 t515,.int .i64 t516,.int .i64 t517,.string t518,.string t519,.int .i64 t520,.slice Ao25 t521.length co25,.slice none 0 0]) ?_ 7 _ rfl;(with_reducible repeat (first|refine bDn ?_ _|refine bDr ?_|refine bAl ?_ _));refine blk_put (cs:=#[.int .i64 t515,.int .i64 t516,.int .i64 t517,.string t518,.string t519,.int .i64 t520,.slice none 0 0,.slice none 0 0]) ?_ 6 _ rfl;(with_reducible repeat (first|refine bDn ?_ _|refine bDr ?_|refine bAl ?_ _));refine blk_put (cs:=#[.int .i64 t515,.int .i64 t516,.int .i64 t517,.string t518,.string t519,.int .i64 0,.slice none 0 0,.slice none 0 0]) ?_ 5 _ rfl;(with_reducible repeat (first|refine bDn ?_ _|refine bDr ?_|refine bAl ?_ _));refine blk_put (cs:=#[.int .i64 t515,.int .i64 t516,.int .i64 t517,.string t518,.string (⟨#[]⟩ : ByteArray),.int .i64 0,.slice none 0 0,.slice none 0 0]) ?_ 4 _ rfl;(with_reducible repeat (first|refine bDn ?_ _|refine bDr ?_|refine bAl ?_ _));refine blk_put (cs:=#[.int .i64 t515,.int .i64 t516,.int .i64 t517,.string (⟨#[]⟩ : ByteArray),.string (⟨#[]⟩ : ByteArray),.int .i64 0,.slice none 0 0,.slice none 0 0]) ?_ 3 _ rfl;(with_reducible repeat (first|refine bDn ?_ _|refine bDr ?_|refine bAl ?_ _));refine blk_put (cs:=#[.int .i64 t515,.int .i64 t516,.int .i64 0,.string (⟨#[]⟩ : ByteArray),.string (⟨#[]⟩ : ByteArray),.int .i64 0,.slice none 0 0,.slice none 0 0]) ?_ 2 _ rfl;(with_reducible repeat (first|refine bDn ?_ _|refine bDr ?_|refine bAl ?_ _));refine blk_put (cs:=#[.int .i64 t515,.int .i64 0,.int .i64 0,.string (⟨#[]⟩ : ByteArray),.string (⟨#[]⟩ : ByteArray),.int .i64 0,.slice none 0 0,.slice none 0 0]) ?_ 1 _ rfl;(with_reducible repeat (first|refine bDn ?_ _|refine bDr ?_|refine bAl ?_ _));refine blk_put (cs:=#[.int .i64 0,.int .i64 0,.int .i64 0,.string (⟨#[]⟩ : ByteArray),.string (⟨#[]⟩ : ByteArray),.int .i64 0,.slice none 0 0,.slice none 0 0]) ?_ 0 _ rfl;(with_reducible repeat (first|refine bDn ?_ _|refine bDr ?_|refine bAl ?_ _));exact BK527.out) hb);have n6_:=aMk (below_step (by repeat (first|(with_reducible first|exact HB.out|apply bwA|apply bwN|apply bw1|refine below_set ?_ GE500.out|refine below_set ?_ GE527.out)|exact HB.out)) hb);clear HO510;clear HO513;clear HO523;clear HO526;clear BK500;clear BK527;clear HB;have HO510:=n0_;have HO513:=n1_;have HO523:=n2_;have HO526:=n3_;have BK500:=n4_;have BK527:=n5_;have HB:=n6_;clear n0_ n1_ n2_ n3_ n4_ n5_ n6_;(try clear hb);(try clear hb2);(try clear hk);(try clear hi)))
   go_ret
   exact ⟨eRf,by repeat (first|(with_reducible first|exact HB.out|apply bwA|apply bwN|apply bw1|refine below_set ?_ GE500.out|refine below_set ?_ GE527.out)|exact HB.out)⟩
  ·rw [if_neg c11] at H
   have c11b0 : (t528 != t514) = false:=by simpa using c11
   (try (have c11b1 : decide (t528 = t514) = true:=by simpa using c11))
   (try (have c11b2 : (t528 == t514) = true:=by simpa using c11))
   clear c11
   replace H:=Option.bind_eq_some_iff.mp H
   obtain ⟨⟨t529,t530,t531,t532,t533,t534,t535,t538⟩,A280,H⟩:=H
   replace H : ((laws_eqConfig.f k t515 t516 t517 t518 t519 t520 t521 t524 t529 t530 t531 t532 t533 t534 t535 t538).bind fun t541 => (if t541 = true then (some true) else (some false))) = some r:=H
   have A28:=aMk A280
   clear A280
   replace H:=Option.bind_eq_some_iff.mp H
   obtain ⟨t541,A290,H⟩:=H
   replace H : (if t541 = true then (some true) else (some false)) = some r:=H
   have A29:=aMk A290
   clear A290
   by_cases c30 : t541 = true
   ·subst c30
    have H1 : (some true) = some r:=by rw [if_pos rfl] at H;exact H
    clear H
    have H:=H1
    clear H1
    obtain rfl:=Option.some.inj H
    go_enter Try.func9,Try.ntmps9
    try go_wp2_with (first|((with_reducible refine gate_dst (N:=1) rfl ?_);refine bxE (N:=1) (cs:=#[.int .i64 a0_0,.int .i64 a0_1,.int .i64 a0_2,.string a0_3,.string a0_4,.int .i64 a0_5,.slice A0_6 l0_6.length c0_6,.slice A0_7 l0_7.length c0_7]) (t:=64) ?_;intro gb500 hg w31 hbox hb;have n0_:=aMk (bSt hb);have n1_:=aMk (hbox);have n2_:=aMk ((by rw [hg];exact bSz : w.heap.size ≤ gb500));have n3_:=aMk ((by rw [hg];exact bSz : w.heap.size ≤ gb500));clear HB;have HB:=n0_;have BK500:=n1_;have GW500:=n2_;have GE500:=n3_;clear n0_ n1_ n2_ n3_;clear hb hbox hg;obtain ⟨hcz32_0,hcz32_1,hcz32_2,hcz32_3,hcz32_4,hcz32_5,hcz32_6,hcz32_7,hfz32_0,hfz32_1,hfz32_2,hfz32_3,hfz32_4,hfz32_5,hfz32_6,hfz32_7⟩:=bC8 BK500.out)|((with_reducible refine gate_callee (f:=31) rfl ?_);refine gLs 9 Try.func31 #[.agg #[.int .i64 a0_0,.int .i64 a0_1,.int .i64 a0_2,.string a0_3,.string a0_4,.int .i64 a0_5,.slice A0_6 l0_6.length c0_6,.slice A0_7 l0_7.length c0_7],.int .i64 1048576] ?_;(with_reducible refine (laws_szConfig.calls k a0_0 a0_1 a0_2 a0_3 a0_4 a0_5 _ _ l0_6 _ _ l0_7 1048576 t501 _ ?side1 ?side2 ?side3 ?side4 A2.out).mono ?_);(case side1 => repeat (first|exact (Kd.C_below HR0_6.out HB.out)|(with_reducible refine Kd.C_alloc ?_ _)|(with_reducible refine Kd.C_drewN ?_ _)|(with_reducible refine Kd.C_drew ?_)));(case side2 => exact HC0_6.out);(case side3 => repeat (first|exact (Kd.C_below HR0_7.out HB.out)|(with_reducible refine Kd.C_alloc ?_ _)|(with_reducible refine Kd.C_drewN ?_ _)|(with_reducible refine Kd.C_drew ?_)));(case side4 => exact HC0_7.out);rintro e w33 ⟨rfl,hb⟩;refine ⟨_,rfl,?_⟩;have n0_:=aMk (bkB BK500.out hb);have n1_:=aMk (below_step (by repeat (first|(with_reducible first|exact HB.out|apply bwA|apply bwN|apply bw1|refine below_set ?_ GE500.out)|exact HB.out)) hb);clear BK500;clear HB;have BK500:=n0_;have HB:=n1_;clear n0_ n1_;(try clear hb);(try clear hb2);(try clear hk);(try clear hi);obtain ⟨hcz34_0,hcz34_1,hcz34_2,hcz34_3,hcz34_4,hcz34_5,hcz34_6,hcz34_7,hfz34_0,hfz34_1,hfz34_2,hfz34_3,hfz34_4,hfz34_5,hfz34_6,hfz34_7⟩:=bC8 BK500.out)|((with_reducible refine gate_callee (f:=33) rfl ?_);refine gLs 13 Try.func33 #[.agg #[.int .i64 a0_0,.int .i64 a0_1,.int .i64 a0_2,.string a0_3,.string a0_4,.int .i64 a0_5,.slice A0_6 l0_6.length c0_6,.slice A0_7 l0_7.length c0_7]] ?_;(with_reducible refine (laws_toConfig.calls k a0_0 a0_1 a0_2 a0_3 a0_4 a0_5 _ _ l0_6 _ _ l0_7 t502 t503 t504 t505 t506 t507 t508 t511 _ ?side1 ?side2 ?side3 ?side4 A7.out).mono ?_);(case side1 => repeat (first|exact (Kd.C_below HR0_6.out HB.out)|(with_reducible refine Kd.C_alloc ?_ _)|(with_reducible refine Kd.C_drewN ?_ _)|(with_reducible refine Kd.C_drew ?_)));(case side2 => exact HC0_6.out);(case side3 => repeat (first|exact (Kd.C_below HR0_7.out HB.out)|(with_reducible refine Kd.C_alloc ?_ _)|(with_reducible refine Kd.C_drewN ?_ _)|(with_reducible refine Kd.C_drew ?_)));(case side4 => exact HC0_7.out);rintro e w35 ⟨v509,v512,rfl,ho0,ho1,hb⟩;refine ⟨_,rfl,?_⟩;have n0_:=aMk (Kd.R_lower ho0 (below_size (by repeat (first|(with_reducible first|exact HB.out|apply bwA|apply bwN|apply bw1|refine below_set ?_ GE500.out)|exact HB.out))));have n1_:=aMk (Kd.S_lower ho1 (below_size (by repeat (first|(with_reducible first|exact HB.out|apply bwA|apply bwN|apply bw1|refine below_set ?_ GE500.out)|exact HB.out))));have n2_:=aMk (bkB BK500.out hb);have n3_:=aMk (below_step (by repeat (first|(with_reducible first|exact HB.out|apply bwA|apply bwN|apply bw1|refine below_set ?_ GE500.out)|exact HB.out)) hb);clear BK500;clear HB;have HO510:=n0_;have HO513:=n1_;have BK500:=n2_;have HB:=n3_;clear n0_ n1_ n2_ n3_;(try clear hb);(try clear hb2);(try clear hk);(try clear hi);(try clear ho0);(try clear ho1);obtain ⟨Ao36,co36,eo36⟩:=Kd.R_slice HO510.out;subst eo36;obtain ⟨Ao37,co37,eo37⟩:=Kd.S_slice HO513.out;subst eo37)|((with_reducible refine gate_callee (f:=32) rfl ?_);refine gLs 14 Try.func32 #[.agg #[.int .i64 t502,.int .i64 t503,.int .i64 t504,.string t505,.string t506,.int .i64 t507,.slice Ao36 t508.length co36,.slice Ao37 t511.length co37]] ?_;(with_reducible refine (spec_ConfigOK.calls k t502 t503 t504 t505 t506 t507 _ _ t508 _ _ t511 t514 _ ?side1 ?side2 ?side3 ?side4 A8.out).mono ?_);(case side1 => repeat (first|exact (Kd.R_reads' HO510.out).2.2|(with_reducible refine Kd.C_alloc ?_ _)|(with_reducible refine Kd.C_drewN ?_ _)|(with_reducible refine Kd.C_drew ?_)));(case side2 => exact (Kd.R_reads' HO510.out).2.1);(case side3 => repeat (first|exact (Kd.S_reads' HO513.out).2.2|(with_reducible refine Kd.C_alloc ?_ _)|(with_reducible refine Kd.C_drewN ?_ _)|(with_reducible refine Kd.C_drew ?_)));(case side4 => exact (Kd.S_reads' HO513.out).2.1);rintro e w38 ⟨rfl,hb⟩;refine ⟨_,rfl,?_⟩;have n0_:=aMk (Kd.R_below (by (with_reducible repeat (first|apply Kd.R_alloc|apply Kd.R_drewN|apply Kd.R_drew));exact HO510.out) hb);have n1_:=aMk (Kd.S_below (by (with_reducible repeat (first|apply Kd.S_alloc|apply Kd.S_drewN|apply Kd.S_drew));exact HO513.out) hb);have n2_:=aMk (bkB BK500.out hb);have n3_:=aMk (below_step (by repeat (first|(with_reducible first|exact HB.out|apply bwA|apply bwN|apply bw1|refine below_set ?_ GE500.out)|exact HB.out)) hb);clear HO510;clear HO513;clear BK500;clear HB;have HO510:=n0_;have HO513:=n1_;have BK500:=n2_;have HB:=n3_;clear n0_ n1_ n2_ n3_;(try clear hb);(try clear hb2);(try clear hk);(try clear hi);obtain ⟨hcz39_0,hcz39_1,hcz39_2,hcz39_3,hcz39_4,hcz39_5,hcz39_6,hcz39_7,hfz39_0,hfz39_1,hfz39_2,hfz39_3,hfz39_4,hfz39_5,hfz39_6,hfz39_7⟩:=bC8 BK500.out)|((with_reducible refine gate_callee (f:=33) rfl ?_);refine gLs 16 Try.func33 #[.agg #[.int .i64 a0_0,.int .i64 a0_1,.int .i64 a0_2,.string a0_3,.string a0_4,.int .i64 a0_5,.slice A0_6 l0_6.length c0_6,.slice A0_7 l0_7.length c0_7]] ?_;(with_reducible refine (laws_toConfig.calls k a0_0 a0_1 a0_2 a0_3 a0_4 a0_5 _ _ l0_6 _ _ l0_7 t515 t516 t517 t518 t519 t520 t521 t524 _ ?side1 ?side2 ?side3 ?side4 A9.out).mono ?_);(case side1 => repeat (first|exact (Kd.C_below HR0_6.out HB.out)|(with_reducible refine Kd.C_alloc ?_ _)|(with_reducible refine Kd.C_drewN ?_ _)|(with_reducible refine Kd.C_drew ?_)));(case side2 => exact HC0_6.out);(case side3 => repeat (first|exact (Kd.C_below HR0_7.out HB.out)|(with_reducible refine Kd.C_alloc ?_ _)|(with_reducible refine Kd.C_drewN ?_ _)|(with_reducible refine Kd.C_drew ?_)));(case side4 => exact HC0_7.out);rintro e w40 ⟨v522,v525,rfl,ho0,ho1,hb⟩;refine ⟨_,rfl,?_⟩;have n0_:=aMk (Kd.R_elder' (by (with_reducible repeat (first|apply Kd.R_alloc|apply Kd.R_drewN|apply Kd.R_drew));exact HO510.out) (Kd.R_base ho0) hb);have n1_:=aMk (Kd.S_elder' (by (with_reducible repeat (first|apply Kd.S_alloc|apply Kd.S_drewN|apply Kd.S_drew));exact HO513.out) (Kd.S_base ho1) hb);have n2_:=aMk (Kd.R_lower (Kd.R_new' ho0 (Kd.R_lt (by (with_reducible repeat (first|apply Kd.R_alloc|apply Kd.R_drewN|apply Kd.R_drew));exact HO510.out))) (below_size (by repeat (first|(with_reducible first|exact HB.out|apply bwA|apply bwN|apply bw1|refine below_set ?_ GE500.out)|exact HB.out))));have n3_:=aMk (Kd.S_lower (Kd.S_new' ho1 (Kd.S_lt (by (with_reducible repeat (first|apply Kd.S_alloc|apply Kd.S_drewN|apply Kd.S_drew));exact HO513.out))) (below_size (by repeat (first|(with_reducible first|exact HB.out|apply bwA|apply bwN|apply bw1|refine below_set ?_ GE500.out)|exact HB.out))));have n4_:=aMk (bkB BK500.out hb);have n5_:=aMk (below_step (by repeat (first|(with_reducible first|exact HB.out|apply bwA|apply bwN|apply bw1|refine below_set ?_ GE500.out)|exact HB.out)) hb);clear HO510;clear HO513;clear BK500;clear HB;have HO510:=n0_;have HO513:=n1_;have HO523:=n2_;have HO526:=n3_;have BK500:=n4_;have HB:=n5_;clear n0_ n1_ n2_ n3_ n4_ n5_;(try clear hb);(try clear hb2);(try clear hk);(try clear hi);(try clear ho0);(try clear ho1))|((with_reducible refine gate_dst (N:=5) rfl ?_);refine bxE (N:=5) (cs:=#[.int .i64 0,.int .i64 0,.int .i64 0,.string (⟨#[]⟩ : ByteArray),.string (⟨#[]⟩ : ByteArray),.int .i64 0,.slice none 0 0,.slice none 0 0]) (t:=70) ?_;intro gb527 hg w41 hbox hb;have n0_:=aMk (Kd.R_below (by (with_reducible repeat (first|apply Kd.R_alloc|apply Kd.R_drewN|apply Kd.R_drew));exact HO510.out) hb);have n1_:=aMk (Kd.S_below (by (with_reducible repeat (first|apply Kd.S_alloc|apply Kd.S_drewN|apply Kd.S_drew));exact HO513.out) hb);have n2_:=aMk (Kd.R_below (by (with_reducible repeat (first|apply Kd.R_alloc|apply Kd.R_drewN|apply Kd.R_drew));exact HO523.out) hb);have n3_:=aMk (Kd.S_below (by (with_reducible repeat (first|apply Kd.S_alloc|apply Kd.S_drewN|apply Kd.S_drew));exact HO526.out) hb);have n4_:=aMk (bkB BK500.out hb);have n5_:=aMk (below_step (by repeat (first|(with_reducible first|exact HB.out|apply bwA|apply bwN|apply bw1|refine below_set ?_ GE500.out)|exact HB.out)) hb);have n6_:=aMk (hbox);have n7_:=aMk ((by rw [hg];exact (below_size (by repeat (first|(with_reducible first|exact HB.out|apply bwA|apply bwN|apply bw1|refine below_set ?_ GE500.out)|exact HB.out))) : w.heap.size ≤ gb527));have n8_:=aMk ((by rw [hg];exact (below_size (by repeat (first|(with_reducible first|exact HB.out|apply bwA|apply bwN|apply bw1|refine below_set ?_ GE500.out)|exact HB.out))) : w.heap.size ≤ gb527));have n9_:=aMk ((bkL BK500.out hg : gb500 ≠ gb527));have n10_:=aMk ((bkG BK500.out hg : gb527 ≠ gb500));clear HO510;clear HO513;clear HO523;clear HO526;clear BK500;clear HB;have HO510:=n0_;have HO513:=n1_;have HO523:=n2_;have HO526:=n3_;have BK500:=n4_;have HB:=n5_;have BK527:=n6_;have GW527:=n7_;have GE527:=n8_;have NB500_527:=n9_;have NB527_500:=n10_;clear n0_ n1_ n2_ n3_ n4_ n5_ n6_ n7_ n8_ n9_ n10_;clear hb hbox hg;have hnb42:=NB527_500.out;have hnc42:=NB500_527.out;obtain ⟨hcz43_0,hcz43_1,hcz43_2,hcz43_3,hcz43_4,hcz43_5,hcz43_6,hcz43_7,hfz43_0,hfz43_1,hfz43_2,hfz43_3,hfz43_4,hfz43_5,hfz43_6,hfz43_7⟩:=bC8 BK527.out;obtain ⟨Ao44,co44,eo44⟩:=Kd.R_slice HO523.out;subst eo44;obtain ⟨Ao45,co45,eo45⟩:=Kd.S_slice HO526.out;subst eo45)|((with_reducible refine gate_callee (f:=34) rfl ?_);refine gLs 18 Try.func34 #[.agg #[.int .i64 t515,.int .i64 t516,.int .i64 t517,.string t518,.string t519,.int .i64 t520,.slice Ao44 t521.length co44,.slice Ao45 t524.length co45]] ?_;(with_reducible refine (impl_ConfigOK.calls k t515 t516 t517 t518 t519 t520 _ _ t521 _ _ t524 t528 _ ?side1 ?side2 ?side3 ?side4 A10.out).mono ?_);(case side1 => refine (Kd.R_reads' (e:=100) (base:=w.heap.size) (ok:=fun k_ => (True ∧ some k_ ≠ (.slice Ao36 t508.length co36 : Value).ownBlock)) (n:=t521.length) (c:=co44) ?_).2.2;exact (by (with_reducible repeat (first|apply Kd.R_alloc|apply Kd.R_drewN|apply Kd.R_drew));exact (Kd.R_mono (Kd.R_far (p:=⟨gb527,7,none⟩) (Kd.R_far (p:=⟨gb527,6,none⟩) (Kd.R_far (p:=⟨gb527,5,none⟩) (Kd.R_far (p:=⟨gb527,4,none⟩) (Kd.R_far (p:=⟨gb527,3,none⟩) (Kd.R_far (p:=⟨gb527,2,none⟩) (Kd.R_far (p:=⟨gb527,1,none⟩) (Kd.R_far (p:=⟨gb527,0,none⟩) (Kd.R_types HO523.out BK527.out (by decide)) (fun _ hk => hk.2) (.int .i64 t515)) (fun _ hk => hk.2) (.int .i64 t516)) (fun _ hk => hk.2) (.int .i64 t517)) (fun _ hk => hk.2) (.string t518)) (fun _ hk => hk.2) (.string t519)) (fun _ hk => hk.2) (.int .i64 t520)) (fun _ hk => hk.2) (.slice Ao44 t521.length co44)) (fun _ hk => hk.2) (.slice Ao45 t524.length co45)) (fun _ h_ => h_.1))));(case side2 => exact (Kd.R_reads' HO523.out).2.1);(case side3 => refine (Kd.S_reads' (e:=54) (base:=w.heap.size) (ok:=fun k_ => (True ∧ some k_ ≠ (.slice Ao37 t511.length co37 : Value).ownBlock)) (n:=t524.length) (c:=co45) ?_).2.2;exact (by (with_reducible repeat (first|apply Kd.S_alloc|apply Kd.S_drewN|apply Kd.S_drew));exact (Kd.S_mono (Kd.S_far (p:=⟨gb527,7,none⟩) (Kd.S_far (p:=⟨gb527,6,none⟩) (Kd.S_far (p:=⟨gb527,5,none⟩) (Kd.S_far (p:=⟨gb527,4,none⟩) (Kd.S_far (p:=⟨gb527,3,none⟩) (Kd.S_far (p:=⟨gb527,2,none⟩) (Kd.S_far (p:=⟨gb527,1,none⟩) (Kd.S_far (p:=⟨gb527,0,none⟩) (Kd.S_types HO526.out BK527.out (by decide)) (fun _ hk => hk.2) (.int .i64 t515)) (fun _ hk => hk.2) (.int .i64 t516)) (fun _ hk => hk.2) (.int .i64 t517)) (fun _ hk => hk.2) (.string t518)) (fun _ hk => hk.2) (.string t519)) (fun _ hk => hk.2) (.int .i64 t520)) (fun _ hk => hk.2) (.slice Ao44 t521.length co44)) (fun _ hk => hk.2) (.slice Ao45 t524.length co45)) (fun _ h_ => h_.1))));(case side4 => exact (Kd.S_reads' HO526.out).2.1);rintro e w46 ⟨rfl,hb⟩;refine ⟨_,rfl,?_⟩;have n0_:=aMk (Kd.R_below (by (with_reducible repeat (first|apply Kd.R_alloc|apply Kd.R_drewN|apply Kd.R_drew));exact (Kd.R_mono (Kd.R_far (p:=⟨gb527,7,none⟩) (Kd.R_far (p:=⟨gb527,6,none⟩) (Kd.R_far (p:=⟨gb527,5,none⟩) (Kd.R_far (p:=⟨gb527,4,none⟩) (Kd.R_far (p:=⟨gb527,3,none⟩) (Kd.R_far (p:=⟨gb527,2,none⟩) (Kd.R_far (p:=⟨gb527,1,none⟩) (Kd.R_far (p:=⟨gb527,0,none⟩) (Kd.R_types HO510.out BK527.out (by decide)) (fun _ hk => hk.2) (.int .i64 t515)) (fun _ hk => hk.2) (.int .i64 t516)) (fun _ hk => hk.2) (.int .i64 t517)) (fun _ hk => hk.2) (.string t518)) (fun _ hk => hk.2) (.string t519)) (fun _ hk => hk.2) (.int .i64 t520)) (fun _ hk => hk.2) (.slice Ao44 t521.length co44)) (fun _ hk => hk.2) (.slice Ao45 t524.length co45)) (fun _ h_ => h_.1))) hb);have n1_:=aMk (Kd.S_below (by (with_reducible repeat (first|apply Kd.S_alloc|apply Kd.S_drewN|apply Kd.S_drew));exact (Kd.S_mono (Kd.S_far (p:=⟨gb527,7,none⟩) (Kd.S_far (p:=⟨gb527,6,none⟩) (Kd.S_far (p:=⟨gb527,5,none⟩) (Kd.S_far (p:=⟨gb527,4,none⟩) (Kd.S_far (p:=⟨gb527,3,none⟩) (Kd.S_far (p:=⟨gb527,2,none⟩) (Kd.S_far (p:=⟨gb527,1,none⟩) (Kd.S_far (p:=⟨gb527,0,none⟩) (Kd.S_types HO513.out BK527.out (by decide)) (fun _ hk => hk.2) (.int .i64 t515)) (fun _ hk => hk.2) (.int .i64 t516)) (fun _ hk => hk.2) (.int .i64 t517)) (fun _ hk => hk.2) (.string t518)) (fun _ hk => hk.2) (.string t519)) (fun _ hk => hk.2) (.int .i64 t520)) (fun _ hk => hk.2) (.slice Ao44 t521.length co44)) (fun _ hk => hk.2) (.slice Ao45 t524.length co45)) (fun _ h_ => h_.1))) hb);have n2_:=aMk (Kd.R_below (by (with_reducible repeat (first|apply Kd.R_alloc|apply Kd.R_drewN|apply Kd.R_drew));exact (Kd.R_mono (Kd.R_far (p:=⟨gb527,7,none⟩) (Kd.R_far (p:=⟨gb527,6,none⟩) (Kd.R_far (p:=⟨gb527,5,none⟩) (Kd.R_far (p:=⟨gb527,4,none⟩) (Kd.R_far (p:=⟨gb527,3,none⟩) (Kd.R_far (p:=⟨gb527,2,none⟩) (Kd.R_far (p:=⟨gb527,1,none⟩) (Kd.R_far (p:=⟨gb527,0,none⟩) (Kd.R_types HO523.out BK527.out (by decide)) (fun _ hk => hk.2) (.int .i64 t515)) (fun _ hk => hk.2) (.int .i64 t516)) (fun _ hk => hk.2) (.int .i64 t517)) (fun _ hk => hk.2) (.string t518)) (fun _ hk => hk.2) (.string t519)) (fun _ hk => hk.2) (.int .i64 t520)) (fun _ hk => hk.2) (.slice Ao44 t521.length co44)) (fun _ hk => hk.2) (.slice Ao45 t524.length co45)) (fun _ h_ => h_.1))) hb);have n3_:=aMk (Kd.S_below (by (with_reducible repeat (first|apply Kd.S_alloc|apply Kd.S_drewN|apply Kd.S_drew));exact (Kd.S_mono (Kd.S_far (p:=⟨gb527,7,none⟩) (Kd.S_far (p:=⟨gb527,6,none⟩) (Kd.S_far (p:=⟨gb527,5,none⟩) (Kd.S_far (p:=⟨gb527,4,none⟩) (Kd.S_far (p:=⟨gb527,3,none⟩) (Kd.S_far (p:=⟨gb527,2,none⟩) (Kd.S_far (p:=⟨gb527,1,none⟩) (Kd.S_far (p:=⟨gb527,0,none⟩) (Kd.S_types HO526.out BK527.out (by decide)) (fun _ hk => hk.2) (.int .i64 t515)) (fun _ hk => hk.2) (.int .i64 t516)) (fun _ hk => hk.2) (.int .i64 t517)) (fun _ hk => hk.2) (.string t518)) (fun _ hk => hk.2) (.string t519)) (fun _ hk => hk.2) (.int .i64 t520)) (fun _ hk => hk.2) (.slice Ao44 t521.length co44)) (fun _ hk => hk.2) (.slice Ao45 t524.length co45)) (fun _ h_ => h_.1))) hb);have n4_:=aMk (blk_below (g:=gb500) (o:=.cells #[.int .i64 a0_0,.int .i64 a0_1,.int .i64 a0_2,.string a0_3,.string a0_4,.int .i64 a0_5,.slice A0_6 l0_6.length c0_6,.slice A0_7 l0_7.length c0_7] 64 (0,0)) (by (with_reducible repeat (first|refine bDn ?_ _|refine bDr ?_|refine bAl ?_ _));refine blk_far ?_ NB500_527.out _;(with_reducible repeat (first|refine bDn ?_ _|refine bDr ?_|refine bAl ?_ _));refine blk_far ?_ NB500_527.out _;(with_reducible repeat (first|refine bDn ?_ _|refine bDr ?_|refine bAl ?_ _));refine blk_far ?_ NB500_527.out _;(with_reducible repeat (first|refine bDn ?_ _|refine bDr ?_|refine bAl ?_ _));refine blk_far ?_ NB500_527.out _;(with_reducible repeat (first|refine bDn ?_ _|refine bDr ?_|refine bAl ?_ _));refine blk_far ?_ NB500_527.out _;(with_reducible repeat (first|refine bDn ?_ _|refine bDr ?_|refine bAl ?_ _));refine blk_far ?_ NB500_527.out _;(with_reducible repeat (first|refine bDn ?_ _|refine bDr ?_|refine bAl ?_ _));refine blk_far ?_ NB500_527.out _;(with_reducible repeat (first|refine bDn ?_ _|refine bDr ?_|refine bAl ?_ _));refine blk_far ?_ NB500_527.out _;(with_reducible repeat (first|refine bDn ?_ _|refine bDr ?_|refine bAl ?_ _));exact BK500.out) hb);have n5_:=aMk (blk_below (g:=gb527) (o:=.cells #[.int .i64 t515,.int .i64 t516,.int .i64 t517,.string t518,.string t519,.int .i64 t520,.slice Ao44 t521.length co44,.slice Ao45 t524.length co45] 70 (0,0)) (by (with_reducible repeat (first|refine bDn ?_ _|refine bDr ?_|refine bAl ?_ _));refine blk_put (cs:=#[.int .i64 t515,.int .i64 t516,.int .i64 t517,.string t518,.string t519,.int .i64 t520,.slice Ao44 t521.length co44,.slice none 0 0]) ?_ 7 _ rfl;(with_reducible repeat (first|refine bDn ?_ _|refine bDr ?_|refine bAl ?_ _));refine blk_put (cs:=#[.int .i64 t515,.int .i64 t516,.int .i64 t517,.string t518,.string t519,.int .i64 t520,.slice none 0 0,.slice none 0 0]) ?_ 6 _ rfl;(with_reducible repeat (first|refine bDn ?_ _|refine bDr ?_|refine bAl ?_ _));refine blk_put (cs:=#[.int .i64 t515,.int .i64 t516,.int .i64 t517,.string t518,.string t519,.int .i64 0,.slice none 0 0,.slice none 0 0]) ?_ 5 _ rfl;(with_reducible repeat (first|refine bDn ?_ _|refine bDr ?_|refine bAl ?_ _));refine blk_put (cs:=#[.int .i64 t515,.int .i64 t516,.int .i64 t517,.string t518,.string (⟨#[]⟩ : ByteArray),.int .i64 0,.slice none 0 0,.slice none 0 0]) ?_ 4 _ rfl;(with_reducible repeat (first|refine bDn ?_ _|refine bDr ?_|refine bAl ?_ _));refine blk_put (cs:=#[.int .i64 t515,.int .i64 t516,.int .i64 t517,.string (⟨#[]⟩ : ByteArray),.string (⟨#[]⟩ : ByteArray),.int .i64 0,.slice none 0 0,.slice none 0 0]) ?_ 3 _ rfl;(with_reducible repeat (first|refine bDn ?_ _|refine bDr ?_|refine bAl ?_ _));refine blk_put (cs:=#[.int .i64 t515,.int .i64 t516,.int .i64 0,.string (⟨#[]⟩ : ByteArray),.string (⟨#[]⟩ : ByteArray),.int .i64 0,.slice none 0 0,.slice none 0 0]) ?_ 2 _ rfl;(with_reducible repeat (first|refine bDn ?_ _|refine bDr ?_|refine bAl ?_ _));refine blk_put (cs:=#[.int .i64 t515,.int .i64 0,.int .i64 0,.string (⟨#[]⟩ : ByteArray),.string (⟨#[]⟩ : ByteArray),.int .i64 0,.slice none 0 0,.slice none 0 0]) ?_ 1 _ rfl;(with_reducible repeat (first|refine bDn ?_ _|refine bDr ?_|refine bAl ?_ _));refine blk_put (cs:=#[.int .i64 0,.int .i64 0,.int .i64 0,.string (⟨#[]⟩ : ByteArray),.string (⟨#[]⟩ : ByteArray),.int .i64 0,.slice none 0 0,.slice none 0 0]) ?_ 0 _ rfl;(with_reducible repeat (first|refine bDn ?_ _|refine bDr ?_|refine bAl ?_ _));exact BK527.out) hb);have n6_:=aMk (below_step (by repeat (first|(with_reducible first|exact HB.out|apply bwA|apply bwN|apply bw1|refine below_set ?_ GE500.out|refine below_set ?_ GE527.out)|exact HB.out)) hb);clear HO510;clear HO513;clear HO523;clear HO526;clear BK500;clear BK527;clear HB;have HO510:=n0_;have HO513:=n1_;have HO523:=n2_;have HO526:=n3_;have BK500:=n4_;have BK527:=n5_;have HB:=n6_;clear n0_ n1_ n2_ n3_ n4_ n5_ n6_;(try clear hb);(try clear hb2);(try clear hk);(try clear hi)))
    have n0_:=aMk (Kd.R_drew HO510.out)
    have n1_:=aMk (Kd.S_drew HO513.out)
    have n2_:=aMk (Kd.R_drew HO523.out)
    have n3_:=aMk (Kd.S_drew HO526.out)
    have n4_:=aMk (bDr BK500.out)
    have n5_:=aMk (bDr BK527.out)
    have n6_:=aMk (bw1 HB.out)
    clear HO510
    clear HO513
    clear HO523
    clear HO526
    clear BK500
    clear BK527
    clear HB
    have HO510:=n0_
    have HO513:=n1_
    have HO523:=n2_
    have HO526:=n3_
    have BK500:=n4_
    have BK527:=n5_
    have HB:=n6_
    clear n0_ n1_ n2_ n3_ n4_ n5_ n6_
    refine start_ (n:=5) (S:=fun w' => w'.cell? ⟨gb527,0,none⟩ = some (.int .i64 t515) ∧ w'.cell? ⟨gb527,1,none⟩ = some (.int .i64 t516) ∧ w'.cell? ⟨gb527,2,none⟩ = some (.int .i64 t517) ∧ w'.cell? ⟨gb527,3,none⟩ = some (.string t518) ∧ w'.cell? ⟨gb527,4,none⟩ = some (.string t519) ∧ w'.cell? ⟨gb527,5,none⟩ = some (.int .i64 t520) ∧ w'.cell? ⟨gb527,6,none⟩ = some (.slice Ao44 t521.length co44) ∧ w'.cell? ⟨gb527,7,none⟩ = some (.slice Ao45 t524.length co45) ∧ w'.cell? ⟨gb500,0,none⟩ = some (.int .i64 a0_0) ∧ w'.cell? ⟨gb500,1,none⟩ = some (.int .i64 a0_1) ∧ w'.cell? ⟨gb500,2,none⟩ = some (.int .i64 a0_2) ∧ w'.cell? ⟨gb500,3,none⟩ = some (.string a0_3) ∧ w'.cell? ⟨gb500,4,none⟩ = some (.string a0_4) ∧ w'.cell? ⟨gb500,5,none⟩ = some (.int .i64 a0_5) ∧ w'.cell? ⟨gb500,6,none⟩ = some (.slice A0_6 l0_6.length c0_6) ∧ w'.cell? ⟨gb500,7,none⟩ = some (.slice A0_7 l0_7.length c0_7)) (ds:=[]) #[false,false,false,false,false] (by kernel_rfl) rfl rfl ⟨(bCe BK527.out 0).trans rfl,(bCe BK527.out 1).trans rfl,(bCe BK527.out 2).trans rfl,(bCe BK527.out 3).trans rfl,(bCe BK527.out 4).trans rfl,(bCe BK527.out 5).trans rfl,(bCe BK527.out 6).trans rfl,(bCe BK527.out 7).trans rfl,(bCe BK500.out 0).trans rfl,(bCe BK500.out 1).trans rfl,(bCe BK500.out 2).trans rfl,(bCe BK500.out 3).trans rfl,(bCe BK500.out 4).trans rfl,(bCe BK500.out 5).trans rfl,(bCe BK500.out 6).trans rfl,(bCe BK500.out 7).trans rfl⟩ (fun hHeld => ?_)
    generalize w46.drew = w47 at HO510 HO513 HO523 HO526 BK500 BK527 HB hHeld ⊢
    refine take_ (i:=0) (N:=some 22) (v:=?_) (a':=?_) #[true,false,false,false,false] rfl rfl (by kernel_rfl) (fun _ _ _ h => h) (Or.inl ⟨by rfl,?_⟩) hHeld ?_ ?_
    rotate_left
    ·rintro w' ⟨s0,s1,s2,s3,s4,s5,s6,s7,s8,s9,s10,s11,s12,s13,s14,s15⟩
     go_simp
     with_reducible rfl
    rotate_left
    ·simp only [Act.put,List.setIfInBounds_toArray,List.set_cons_zero,List.set_cons_succ,i64_w,i32_w]
     rfl
    refine take_ (i:=1) (N:=some 23) (v:=?_) (a':=?_) #[true,true,false,false,false] rfl rfl (by kernel_rfl) (fun _ _ _ h => h) (Or.inl ⟨by rfl,?_⟩) hHeld ?_ ?_
    rotate_left
    ·rintro w' ⟨s0,s1,s2,s3,s4,s5,s6,s7,s8,s9,s10,s11,s12,s13,s14,s15⟩
     go_simp
     with_reducible rfl
    rotate_left
    ·simp only [Act.put,List.setIfInBounds_toArray,List.set_cons_zero,List.set_cons_succ,i64_w,i32_w]
     rfl
    refine one_ (i:=2) (N:=some 24) #[true,true,true,false,false] rfl rfl (by kernel_rfl) (by decide) (fun K hK => ?_)
    refine goes_ Try.func33 (by kernel_rfl) rfl #[.agg #[.int .i64 a0_0,.int .i64 a0_1,.int .i64 a0_2,.string a0_3,.string a0_4,.int .i64 a0_5,.slice A0_6 l0_6.length c0_6,.slice A0_7 l0_7.length c0_7]] (by rfl) rfl rfl (by (try simp only [List.map_toArray,List.map_cons,List.map_nil]);first | done | rfl|(simp only [List.length_drop,List.length_take];rfl)) ?_
    with_reducible refine (laws_toConfig.calls k a0_0 a0_1 a0_2 a0_3 a0_4 a0_5 _ _ l0_6 _ _ l0_7 t529 t530 t531 t532 t533 t534 t535 t538 _ ?side1 ?side2 ?side3 ?side4 A28.out).mono ?_
    (case side1 => repeat (first|exact (Kd.C_below HR0_6.out HB.out)|(with_reducible refine Kd.C_alloc ?_ _)|(with_reducible refine Kd.C_drewN ?_ _)|(with_reducible refine Kd.C_drew ?_)))
    (case side2 => exact HC0_6.out)
    (case side3 => repeat (first|exact (Kd.C_below HR0_7.out HB.out)|(with_reducible refine Kd.C_alloc ?_ _)|(with_reducible refine Kd.C_drewN ?_ _)|(with_reducible refine Kd.C_drew ?_)))
    (case side4 => exact HC0_7.out)
    rintro e w48 ⟨v536,v539,rfl,ho0,ho1,hb⟩
    refine ⟨_,rfl,?_⟩
    have n0_:=aMk (Kd.R_elder' (by (with_reducible repeat (first|apply Kd.R_alloc|apply Kd.R_drewN|apply Kd.R_drew));exact HO510.out) (Kd.R_base ho0) hb)
    have n1_:=aMk (Kd.S_elder' (by (with_reducible repeat (first|apply Kd.S_alloc|apply Kd.S_drewN|apply Kd.S_drew));exact HO513.out) (Kd.S_base ho1) hb)
    have n2_:=aMk (Kd.R_elder' (by (with_reducible repeat (first|apply Kd.R_alloc|apply Kd.R_drewN|apply Kd.R_drew));exact HO523.out) (Kd.R_base ho0) hb)
    have n3_:=aMk (Kd.S_elder' (by (with_reducible repeat (first|apply Kd.S_alloc|apply Kd.S_drewN|apply Kd.S_drew));exact HO526.out) (Kd.S_base ho1) hb)
    have n4_:=aMk (Kd.R_lower (Kd.R_new' (Kd.R_new' ho0 (Kd.R_lt (by (with_reducible repeat (first|apply Kd.R_alloc|apply Kd.R_drewN|apply Kd.R_drew));exact HO510.out))) (Kd.R_lt (by (with_reducible repeat (first|apply Kd.R_alloc|apply Kd.R_drewN|apply Kd.R_drew));exact HO523.out))) (below_size (by repeat (first|(with_reducible first|exact HB.out|apply bwA|apply bwN|apply bw1|refine below_set ?_ GE500.out|refine below_set ?_ GE527.out)|exact HB.out))))
    have n5_:=aMk (Kd.S_lower (Kd.S_new' (Kd.S_new' ho1 (Kd.S_lt (by (with_reducible repeat (first|apply Kd.S_alloc|apply Kd.S_drewN|apply Kd.S_drew));exact HO513.out))) (Kd.S_lt (by (with_reducible repeat (first|apply Kd.S_alloc|apply Kd.S_drewN|apply Kd.S_drew));exact HO526.out))) (below_size (by repeat (first|(with_reducible first|exact HB.out|apply bwA|apply bwN|apply bw1|refine below_set ?_ GE500.out|refine below_set ?_ GE527.out)|exact HB.out))))
    have n6_:=aMk (bkB BK500.out hb)
    have n7_:=aMk (bkB BK527.out hb)
    have n8_:=aMk (below_step (by repeat (first|(with_reducible first|exact HB.out|apply bwA|apply bwN|apply bw1|refine below_set ?_ GE500.out|refine below_set ?_ GE527.out)|exact HB.out)) hb)
    clear HO510
    clear HO513
    clear HO523
    clear HO526
    clear BK500
    clear BK527
    clear HB
    have HO510:=n0_
    have HO513:=n1_
    have HO523:=n2_
    have HO526:=n3_
    have HO537:=n4_
    have HO540:=n5_
    have BK500:=n6_
    have BK527:=n7_
    have HB:=n8_
    clear n0_ n1_ n2_ n3_ n4_ n5_ n6_ n7_ n8_
    (try clear hb)
    (try clear hb2)
    (try clear hk)
    (try clear hi)
    (try clear ho0)
    (try clear ho1)
    obtain ⟨Ao49,co49,eo49⟩:=Kd.R_slice HO537.out
    (first|subst eo49|(injection eo49 with f1_ f2_ f3_;have f4_:=f1_.symm;have f5_:=f3_.symm;clear f1_ f2_ f3_;subst f4_;subst f5_))
    obtain ⟨Ao50,co50,eo50⟩:=Kd.S_slice HO540.out
    (first|subst eo50|(injection eo50 with f1_ f2_ f3_;have f4_:=f1_.symm;have f5_:=f3_.symm;clear f1_ f2_ f3_;subst f4_;subst f5_))
    refine hK.out _ _ ⟨(bCe BK527.out 0).trans rfl,(bCe BK527.out 1).trans rfl,(bCe BK527.out 2).trans rfl,(bCe BK527.out 3).trans rfl,(bCe BK527.out 4).trans rfl,(bCe BK527.out 5).trans rfl,(bCe BK527.out 6).trans rfl,(bCe BK527.out 7).trans rfl,(bCe BK500.out 0).trans rfl,(bCe BK500.out 1).trans rfl,(bCe BK500.out 2).trans rfl,(bCe BK500.out 3).trans rfl,(bCe BK500.out 4).trans rfl,(bCe BK500.out 5).trans rfl,(bCe BK500.out 6).trans rfl,(bCe BK500.out 7).trans rfl⟩ (fun hHeld => ?_)
    clear hK K
    refine norm_ (a':=?_) ?_ ?_
    rotate_left
    ·show Act.put _ (some 24) _ = _
     simp only [Act.put,List.setIfInBounds_toArray,List.set_cons_zero,List.set_cons_succ,i64_w,i32_w]
     rfl
    refine one_ (i:=3) (N:=some 25) #[true,true,true,true,false] rfl rfl (by kernel_rfl) (by decide) (fun K hK => ?_)
    refine goes_ Try.func35 (by kernel_rfl) rfl #[.agg #[.int .i64 t515,.int .i64 t516,.int .i64 t517,.string t518,.string t519,.int .i64 t520,.slice Ao44 t521.length co44,.slice Ao45 t524.length co45],.agg #[.int .i64 t529,.int .i64 t530,.int .i64 t531,.string t532,.string t533,.int .i64 t534,.slice Ao49 t535.length co49,.slice Ao50 t538.length co50]] (by rfl) rfl rfl (by (try simp only [List.map_toArray,List.map_cons,List.map_nil]);first | done | rfl|(simp only [List.length_drop,List.length_take];rfl)) ?_
    with_reducible refine (laws_eqConfig.calls k t515 t516 t517 t518 t519 t520 _ _ t521 _ _ t524 t529 t530 t531 t532 t533 t534 _ _ t535 _ _ t538 true _ ?side1 ?side2 ?side3 ?side4 ?side5 ?side6 ?side7 ?side8 A29.out).mono ?_
    (case side1 => repeat (first|exact (Kd.R_reads' HO523.out).2.2|(with_reducible refine Kd.C_alloc ?_ _)|(with_reducible refine Kd.C_drewN ?_ _)|(with_reducible refine Kd.C_drew ?_)))
    (case side2 => exact (Kd.R_reads' HO523.out).2.1)
    (case side3 => repeat (first|exact (Kd.S_reads' HO526.out).2.2|(with_reducible refine Kd.C_alloc ?_ _)|(with_reducible refine Kd.C_drewN ?_ _)|(with_reducible refine Kd.C_drew ?_)))
    (case side4 => exact (Kd.S_reads' HO526.out).2.1)
    (case side5 => repeat (first|exact (Kd.R_reads' HO537.out).2.2|(with_reducible refine Kd.C_alloc ?_ _)|(with_reducible refine Kd.C_drewN ?_ _)|(with_reducible refine Kd.C_drew ?_)))
    (case side6 => exact (Kd.R_reads' HO537.out).2.1)
    (case side7 => repeat (first|exact (Kd.S_reads' HO540.out).2.2|(with_reducible refine Kd.C_alloc ?_ _)|(with_reducible refine Kd.C_drewN ?_ _)|(with_reducible refine Kd.C_drew ?_)))
    (case side8 => exact (Kd.S_reads' HO540.out).2.1)
    rintro e w51 ⟨rfl,hb⟩
    refine ⟨_,rfl,?_⟩
    have n0_:=aMk (Kd.R_below (by (with_reducible repeat (first|apply Kd.R_alloc|apply Kd.R_drewN|apply Kd.R_drew));exact HO510.out) hb)
    have n1_:=aMk (Kd.S_below (by (with_reducible repeat (first|apply Kd.S_alloc|apply Kd.S_drewN|apply Kd.S_drew));exact HO513.out) hb)
    have n2_:=aMk (Kd.R_below (by (with_reducible repeat (first|apply Kd.R_alloc|apply Kd.R_drewN|apply Kd.R_drew));exact HO523.out) hb)
    have n3_:=aMk (Kd.S_below (by (with_reducible repeat (first|apply Kd.S_alloc|apply Kd.S_drewN|apply Kd.S_drew));exact HO526.out) hb)
    have n4_:=aMk (Kd.R_below (by (with_reducible repeat (first|apply Kd.R_alloc|apply Kd.R_drewN|apply Kd.R_drew));exact HO537.out) hb)
    have n5_:=aMk (Kd.S_below (by (with_reducible repeat (first|apply Kd.S_alloc|apply Kd.S_drewN|apply Kd.S_drew));exact HO540.out) hb)
    have n6_:=aMk (bkB BK500.out hb)
    have n7_:=aMk (bkB BK527.out hb)
    have n8_:=aMk (below_step (by repeat (first|(with_reducible first|exact HB.out|apply bwA|apply bwN|apply bw1|refine below_set ?_ GE500.out|refine below_set ?_ GE527.out)|exact HB.out)) hb)
    clear HO510
    clear HO513
    clear HO523
    clear HO526
    clear HO537
    clear HO540
    clear BK500
    clear BK527
    clear HB
    have HO510:=n0_
    have HO513:=n1_
    have HO523:=n2_
    have HO526:=n3_
    have HO537:=n4_
    have HO540:=n5_
    have BK500:=n6_
    have BK527:=n7_
    have HB:=n8_
    clear n0_ n1_ n2_ n3_ n4_ n5_ n6_ n7_ n8_
    (try clear hb)
    (try clear hb2)
    (try clear hk)
    (try clear hi)
    refine hK.out _ _ ⟨(bCe BK527.out 0).trans rfl,(bCe BK527.out 1).trans rfl,(bCe BK527.out 2).trans rfl,(bCe BK527.out 3).trans rfl,(bCe BK527.out 4).trans rfl,(bCe BK527.out 5).trans rfl,(bCe BK527.out 6).trans rfl,(bCe BK527.out 7).trans rfl,(bCe BK500.out 0).trans rfl,(bCe BK500.out 1).trans rfl,(bCe BK500.out 2).trans rfl,(bCe BK500.out 3).trans rfl,(bCe BK500.out 4).trans rfl,(bCe BK500.out 5).trans rfl,(bCe BK500.out 6).trans rfl,(bCe BK500.out 7).trans rfl⟩ (fun hHeld => ?_)
    clear hK K
    refine norm_ (a':=?_) ?_ ?_
    rotate_left
    ·show Act.put _ (some 25) _ = _
     simp only [Act.put,List.setIfInBounds_toArray,List.set_cons_zero,List.set_cons_succ,i64_w,i32_w]
     rfl
    refine pure_ (i:=4) (N:=some 26) (v:=?_) (a':=?_) #[true,true,true,true,true] rfl rfl (by kernel_rfl) (fun _ _ _ h => h) (Or.inl ⟨by rfl,?_⟩) ?_ ?_
    rotate_left
    ·intro w'
     go_simp
     with_reducible rfl
    rotate_left
    ·simp only [Act.put,List.setIfInBounds_toArray,List.set_cons_zero,List.set_cons_succ,i64_w,i32_w]
     rfl
    refine done_ (by kernel_rfl) ?_
    try go_wp2
    go_ret
    exact ⟨eRf,by repeat (first|(with_reducible first|exact HB.out|apply bwA|apply bwN|apply bw1|refine below_set ?_ GE500.out|refine below_set ?_ GE527.out)|exact HB.out)⟩
   ·replace c30:=Bool.eq_false_iff.mpr c30
    subst c30
    have H1 : (some false) = some r:=by rw [if_neg (show ¬ (false = true) by decide)] at H;exact H
    clear H
    have H:=H1
    clear H1
    obtain rfl:=Option.some.inj H
    go_enter Try.func9,Try.ntmps9
    try go_wp2_with (first|((with_reducible refine gate_dst (N:=1) rfl ?_);refine bxE (N:=1) (cs:=#[.int .i64 a0_0,.int .i64 a0_1,.int .i64 a0_2,.string a0_3,.string a0_4,.int .i64 a0_5,.slice A0_6 l0_6.length c0_6,.slice A0_7 l0_7.length c0_7]) (t:=64) ?_;intro gb500 hg w52 hbox hb;have n0_:=aMk (bSt hb);have n1_:=aMk (hbox);have n2_:=aMk ((by rw [hg];exact bSz : w.heap.size ≤ gb500));have n3_:=aMk ((by rw [hg];exact bSz : w.heap.size ≤ gb500));clear HB;have HB:=n0_;have BK500:=n1_;have GW500:=n2_;have GE500:=n3_;clear n0_ n1_ n2_ n3_;clear hb hbox hg;obtain ⟨hcz53_0,hcz53_1,hcz53_2,hcz53_3,hcz53_4,hcz53_5,hcz53_6,hcz53_7,hfz53_0,hfz53_1,hfz53_2,hfz53_3,hfz53_4,hfz53_5,hfz53_6,hfz53_7⟩:=bC8 BK500.out)|((with_reducible refine gate_callee (f:=31) rfl ?_);refine gLs 9 Try.func31 #[.agg #[.int .i64 a0_0,.int .i64 a0_1,.int .i64 a0_2,.string a0_3,.string a0_4,.int .i64 a0_5,.slice A0_6 l0_6.length c0_6,.slice A0_7 l0_7.length c0_7],.int .i64 1048576] ?_;(with_reducible refine (laws_szConfig.calls k a0_0 a0_1 a0_2 a0_3 a0_4 a0_5 _ _ l0_6 _ _ l0_7 1048576 t501 _ ?side1 ?side2 ?side3 ?side4 A2.out).mono ?_);(case side1 => repeat (first|exact (Kd.C_below HR0_6.out HB.out)|(with_reducible refine Kd.C_alloc ?_ _)|(with_reducible refine Kd.C_drewN ?_ _)|(with_reducible refine Kd.C_drew ?_)));(case side2 => exact HC0_6.out);(case side3 => repeat (first|exact (Kd.C_below HR0_7.out HB.out)|(with_reducible refine Kd.C_alloc ?_ _)|(with_reducible refine Kd.C_drewN ?_ _)|(with_reducible refine Kd.C_drew ?_)));(case side4 => exact HC0_7.out);rintro e w54 ⟨rfl,hb⟩;refine ⟨_,rfl,?_⟩;have n0_:=aMk (bkB BK500.out hb);have n1_:=aMk (below_step (by repeat (first|(with_reducible first|exact HB.out|apply bwA|apply bwN|apply bw1|refine below_set ?_ GE500.out)|exact HB.out)) hb);clear BK500;clear HB;have BK500:=n0_;have HB:=n1_;clear n0_ n1_;(try clear hb);(try clear hb2);(try clear hk);(try clear hi);obtain ⟨hcz55_0,hcz55_1,hcz55_2,hcz55_3,hcz55_4,hcz55_5,hcz55_6,hcz55_7,hfz55_0,hfz55_1,hfz55_2,hfz55_3,hfz55_4,hfz55_5,hfz55_6,hfz55_7⟩:=bC8 BK500.out)|((with_reducible refine gate_callee (f:=33) rfl ?_);refine gLs 13 Try.func33 #[.agg #[.int .i64 a0_0,.int .i64 a0_1,.int .i64 a0_2,.string a0_3,.string a0_4,.int .i64 a0_5,.slice A0_6 l0_6.length c0_6,.slice A0_7 l0_7.length c0_7]] ?_;(with_reducible refine (laws_toConfig.calls k a0_0 a0_1 a0_2 a0_3 a0_4 a0_5 _ _ l0_6 _ _ l0_7 t502 t503 t504 t505 t506 t507 t508 t511 _ ?side1 ?side2 ?side3 ?side4 A7.out).mono ?_);(case side1 => repeat (first|exact (Kd.C_below HR0_6.out HB.out)|(with_reducible refine Kd.C_alloc ?_ _)|(with_reducible refine Kd.C_drewN ?_ _)|(with_reducible refine Kd.C_drew ?_)));(case side2 => exact HC0_6.out);(case side3 => repeat (first|exact (Kd.C_below HR0_7.out HB.out)|(with_reducible refine Kd.C_alloc ?_ _)|(with_reducible refine Kd.C_drewN ?_ _)|(with_reducible refine Kd.C_drew ?_)));(case side4 => exact HC0_7.out);rintro e w56 ⟨v509,v512,rfl,ho0,ho1,hb⟩;refine ⟨_,rfl,?_⟩;have n0_:=aMk (Kd.R_lower ho0 (below_size (by repeat (first|(with_reducible first|exact HB.out|apply bwA|apply bwN|apply bw1|refine below_set ?_ GE500.out)|exact HB.out))));have n1_:=aMk (Kd.S_lower ho1 (below_size (by repeat (first|(with_reducible first|exact HB.out|apply bwA|apply bwN|apply bw1|refine below_set ?_ GE500.out)|exact HB.out))));have n2_:=aMk (bkB BK500.out hb);have n3_:=aMk (below_step (by repeat (first|(with_reducible first|exact HB.out|apply bwA|apply bwN|apply bw1|refine below_set ?_ GE500.out)|exact HB.out)) hb);clear BK500;clear HB;have HO510:=n0_;have HO513:=n1_;have BK500:=n2_;have HB:=n3_;clear n0_ n1_ n2_ n3_;(try clear hb);(try clear hb2);(try clear hk);(try clear hi);(try clear ho0);(try clear ho1);obtain ⟨Ao57,co57,eo57⟩:=Kd.R_slice HO510.out;subst eo57;obtain ⟨Ao58,co58,eo58⟩:=Kd.S_slice HO513.out;subst eo58)|((with_reducible refine gate_callee (f:=32) rfl ?_);refine gLs 14 Try.func32 #[.agg #[.int .i64 t502,.int .i64 t503,.int .i64 t504,.string t505,.string t506,.int .i64 t507,.slice Ao57 t508.length co57,.slice Ao58 t511.length co58]] ?_;(with_reducible refine (spec_ConfigOK.calls k t502 t503 t504 t505 t506 t507 _ _ t508 _ _ t511 t514 _ ?side1 ?side2 ?side3 ?side4 A8.out).mono ?_);(case side1 => repeat (first|exact (Kd.R_reads' HO510.out).2.2|(with_reducible refine Kd.C_alloc ?_ _)|(with_reducible refine Kd.C_drewN ?_ _)|(with_reducible refine Kd.C_drew ?_)));(case side2 => exact (Kd.R_reads' HO510.out).2.1);(case side3 => repeat (first|exact (Kd.S_reads' HO513.out).2.2|(with_reducible refine Kd.C_alloc ?_ _)|(with_reducible refine Kd.C_drewN ?_ _)|(with_reducible refine Kd.C_drew ?_)));(case side4 => exact (Kd.S_reads' HO513.out).2.1);rintro e w59 ⟨rfl,hb⟩;refine ⟨_,rfl,?_⟩;have n0_:=aMk (Kd.R_below (by (with_reducible repeat (first|apply Kd.R_alloc|apply Kd.R_drewN|apply Kd.R_drew));exact HO510.out) hb);have n1_:=aMk (Kd.S_below (by (with_reducible repeat (first|apply Kd.S_alloc|apply Kd.S_drewN|apply Kd.S_drew));exact HO513.out) hb);have n2_:=aMk (bkB BK500.out hb);have n3_:=aMk (below_step (by repeat (first|(with_reducible first|exact HB.out|apply bwA|apply bwN|apply bw1|refine below_set ?_ GE500.out)|exact HB.out)) hb);clear HO510;clear HO513;clear BK500;clear HB;have HO510:=n0_;have HO513:=n1_;have BK500:=n2_;have HB:=n3_;clear n0_ n1_ n2_ n3_;(try clear hb);(try clear hb2);(try clear hk);(try clear hi);obtain ⟨hcz60_0,hcz60_1,hcz60_2,hcz60_3,hcz60_4,hcz60_5,hcz60_6,hcz60_7,hfz60_0,hfz60_1,hfz60_2,hfz60_3,hfz60_4,hfz60_5,hfz60_6,hfz60_7⟩:=bC8 BK500.out)|((with_reducible refine gate_callee (f:=33) rfl ?_);refine gLs 16 Try.func33 #[.agg #[.int .i64 a0_0,.int .i64 a0_1,.int .i64 a0_2,.string a0_3,.string a0_4,.int .i64 a0_5,.slice A0_6 l0_6.length c0_6,.slice A0_7 l0_7.length c0_7]] ?_;(with_reducible refine (laws_toConfig.calls k a0_0 a0_1 a0_2 a0_3 a0_4 a0_5 _ _ l0_6 _ _ l0_7 t515 t516 t517 t518 t519 t520 t521 t524 _ ?side1 ?side2 ?side3 ?side4 A9.out).mono ?_);(case side1 => repeat (first|exact (Kd.C_below HR0_6.out HB.out)|(with_reducible refine Kd.C_alloc ?_ _)|(with_reducible refine Kd.C_drewN ?_ _)|(with_reducible refine Kd.C_drew ?_)));(case side2 => exact HC0_6.out);(case side3 => repeat (first|exact (Kd.C_below HR0_7.out HB.out)|(with_reducible refine Kd.C_alloc ?_ _)|(with_reducible refine Kd.C_drewN ?_ _)|(with_reducible refine Kd.C_drew ?_)));(case side4 => exact HC0_7.out);rintro e w61 ⟨v522,v525,rfl,ho0,ho1,hb⟩;refine ⟨_,rfl,?_⟩;have n0_:=aMk (Kd.R_elder' (by (with_reducible repeat (first|apply Kd.R_alloc|apply Kd.R_drewN|apply Kd.R_drew));exact HO510.out) (Kd.R_base ho0) hb);have n1_:=aMk (Kd.S_elder' (by (with_reducible repeat (first|apply Kd.S_alloc|apply Kd.S_drewN|apply Kd.S_drew));exact HO513.out) (Kd.S_base ho1) hb);have n2_:=aMk (Kd.R_lower (Kd.R_new' ho0 (Kd.R_lt (by (with_reducible repeat (first|apply Kd.R_alloc|apply Kd.R_drewN|apply Kd.R_drew));exact HO510.out))) (below_size (by repeat (first|(with_reducible first|exact HB.out|apply bwA|apply bwN|apply bw1|refine below_set ?_ GE500.out)|exact HB.out))));have n3_:=aMk (Kd.S_lower (Kd.S_new' ho1 (Kd.S_lt (by (with_reducible repeat (first|apply Kd.S_alloc|apply Kd.S_drewN|apply Kd.S_drew));exact HO513.out))) (below_size (by repeat (first|(with_reducible first|exact HB.out|apply bwA|apply bwN|apply bw1|refine below_set ?_ GE500.out)|exact HB.out))));have n4_:=aMk (bkB BK500.out hb);have n5_:=aMk (below_step (by repeat (first|(with_reducible first|exact HB.out|apply bwA|apply bwN|apply bw1|refine below_set ?_ GE500.out)|exact HB.out)) hb);clear HO510;clear HO513;clear BK500;clear HB;have HO510:=n0_;have HO513:=n1_;have HO523:=n2_;have HO526:=n3_;have BK500:=n4_;have HB:=n5_;clear n0_ n1_ n2_ n3_ n4_ n5_;(try clear hb);(try clear hb2);(try clear hk);(try clear hi);(try clear ho0);(try clear ho1))|((with_reducible refine gate_dst (N:=5) rfl ?_);refine bxE (N:=5) (cs:=#[.int .i64 0,.int .i64 0,.int .i64 0,.string (⟨#[]⟩ : ByteArray),.string (⟨#[]⟩ : ByteArray),.int .i64 0,.slice none 0 0,.slice none 0 0]) (t:=70) ?_;intro gb527 hg w62 hbox hb;have n0_:=aMk (Kd.R_below (by (with_reducible repeat (first|apply Kd.R_alloc|apply Kd.R_drewN|apply Kd.R_drew));exact HO510.out) hb);have n1_:=aMk (Kd.S_below (by (with_reducible repeat (first|apply Kd.S_alloc|apply Kd.S_drewN|apply Kd.S_drew));exact HO513.out) hb);have n2_:=aMk (Kd.R_below (by (with_reducible repeat (first|apply Kd.R_alloc|apply Kd.R_drewN|apply Kd.R_drew));exact HO523.out) hb);have n3_:=aMk (Kd.S_below (by (with_reducible repeat (first|apply Kd.S_alloc|apply Kd.S_drewN|apply Kd.S_drew));exact HO526.out) hb);have n4_:=aMk (bkB BK500.out hb);have n5_:=aMk (below_step (by repeat (first|(with_reducible first|exact HB.out|apply bwA|apply bwN|apply bw1|refine below_set ?_ GE500.out)|exact HB.out)) hb);have n6_:=aMk (hbox);have n7_:=aMk ((by rw [hg];exact (below_size (by repeat (first|(with_reducible first|exact HB.out|apply bwA|apply bwN|apply bw1|refine below_set ?_ GE500.out)|exact HB.out))) : w.heap.size ≤ gb527));have n8_:=aMk ((by rw [hg];exact (below_size (by repeat (first|(with_reducible first|exact HB.out|apply bwA|apply bwN|apply bw1|refine below_set ?_ GE500.out)|exact HB.out))) : w.heap.size ≤ gb527));have n9_:=aMk ((bkL BK500.out hg : gb500 ≠ gb527));have n10_:=aMk ((bkG BK500.out hg : gb527 ≠ gb500));clear HO510;clear HO513;clear HO523;clear HO526;clear BK500;clear HB;have HO510:=n0_;have HO513:=n1_;have HO523:=n2_;have HO526:=n3_;have BK500:=n4_;have HB:=n5_;have BK527:=n6_;have GW527:=n7_;have GE527:=n8_;have NB500_527:=n9_;have NB527_500:=n10_;clear n0_ n1_ n2_ n3_ n4_ n5_ n6_ n7_ n8_ n9_ n10_;clear hb hbox hg;have hnb63:=NB527_500.out;have hnc63:=NB500_527.out;obtain ⟨hcz64_0,hcz64_1,hcz64_2,hcz64_3,hcz64_4,hcz64_5,hcz64_6,hcz64_7,hfz64_0,hfz64_1,hfz64_2,hfz64_3,hfz64_4,hfz64_5,hfz64_6,hfz64_7⟩:=bC8 BK527.out;obtain ⟨Ao65,co65,eo65⟩:=Kd.R_slice HO523.out;subst eo65;obtain ⟨Ao66,co66,eo66⟩:=Kd.S_slice HO526.out;subst eo66)|((with_reducible refine gate_callee (f:=34) rfl ?_);refine gLs 18 Try.func34 #[.agg #[.int .i64 t515,.int .i64 t516,.int .i64 t517,.string t518,.string t519,.int .i64 t520,.slice Ao65 t521.length co65,.slice Ao66 t524.length co66]] ?_;(with_reducible refine (impl_ConfigOK.calls k t515 t516 t517 t518 t519 t520 _ _ t521 _ _ t524 t528 _ ?side1 ?side2 ?side3 ?side4 A10.out).mono ?_);(case side1 => refine (Kd.R_reads' (e:=100) (base:=w.heap.size) (ok:=fun k_ => (True ∧ some k_ ≠ (.slice Ao57 t508.length co57 : Value).ownBlock)) (n:=t521.length) (c:=co65) ?_).2.2;exact (by (with_reducible repeat (first|apply Kd.R_alloc|apply Kd.R_drewN|apply Kd.R_drew));exact (Kd.R_mono (Kd.R_far (p:=⟨gb527,7,none⟩) (Kd.R_far (p:=⟨gb527,6,none⟩) (Kd.R_far (p:=⟨gb527,5,none⟩) (Kd.R_far (p:=⟨gb527,4,none⟩) (Kd.R_far (p:=⟨gb527,3,none⟩) (Kd.R_far (p:=⟨gb527,2,none⟩) (Kd.R_far (p:=⟨gb527,1,none⟩) (Kd.R_far (p:=⟨gb527,0,none⟩) (Kd.R_types HO523.out BK527.out (by decide)) (fun _ hk => hk.2) (.int .i64 t515)) (fun _ hk => hk.2) (.int .i64 t516)) (fun _ hk => hk.2) (.int .i64 t517)) (fun _ hk => hk.2) (.string t518)) (fun _ hk => hk.2) (.string t519)) (fun _ hk => hk.2) (.int .i64 t520)) (fun _ hk => hk.2) (.slice Ao65 t521.length co65)) (fun _ hk => hk.2) (.slice Ao66 t524.length co66)) (fun _ h_ => h_.1))));(case side2 => exact (Kd.R_reads' HO523.out).2.1);(case side3 => refine (Kd.S_reads' (e:=54) (base:=w.heap.size) (ok:=fun k_ => (True ∧ some k_ ≠ (.slice Ao58 t511.length co58 : Value).ownBlock)) (n:=t524.length) (c:=co66) ?_).2.2;exact (by (with_reducible repeat (first|apply Kd.S_alloc|apply Kd.S_drewN|apply Kd.S_drew));exact (Kd.S_mono (Kd.S_far (p:=⟨gb527,7,none⟩) (Kd.S_far (p:=⟨gb527,6,none⟩) (Kd.S_far (p:=⟨gb527,5,none⟩) (Kd.S_far (p:=⟨gb527,4,none⟩) (Kd.S_far (p:=⟨gb527,3,none⟩) (Kd.S_far (p:=⟨gb527,2,none⟩) (Kd.S_far (p:=⟨gb527,1,none⟩) (Kd.S_far (p:=⟨gb527,0,none⟩) (Kd.S_types HO526.out BK527.out (by decide)) (fun _ hk => hk.2) (.int .i64 t515)) (fun _ hk => hk.2) (.int .i64 t516)) (fun _ hk => hk.2) (.int .i64 t517)) (fun _ hk => hk.2) (.string t518)) (fun _ hk => hk.2) (.string t519)) (fun _ hk => hk.2) (.int .i64 t520)) (fun _ hk => hk.2) (.slice Ao65 t521.length co65)) (fun _ hk => hk.2) (.slice Ao66 t524.length co66)) (fun _ h_ => h_.1))));(case side4 => exact (Kd.S_reads' HO526.out).2.1);rintro e w67 ⟨rfl,hb⟩;refine ⟨_,rfl,?_⟩;have n0_:=aMk (Kd.R_below (by (with_reducible repeat (first|apply Kd.R_alloc|apply Kd.R_drewN|apply Kd.R_drew));exact (Kd.R_mono (Kd.R_far (p:=⟨gb527,7,none⟩) (Kd.R_far (p:=⟨gb527,6,none⟩) (Kd.R_far (p:=⟨gb527,5,none⟩) (Kd.R_far (p:=⟨gb527,4,none⟩) (Kd.R_far (p:=⟨gb527,3,none⟩) (Kd.R_far (p:=⟨gb527,2,none⟩) (Kd.R_far (p:=⟨gb527,1,none⟩) (Kd.R_far (p:=⟨gb527,0,none⟩) (Kd.R_types HO510.out BK527.out (by decide)) (fun _ hk => hk.2) (.int .i64 t515)) (fun _ hk => hk.2) (.int .i64 t516)) (fun _ hk => hk.2) (.int .i64 t517)) (fun _ hk => hk.2) (.string t518)) (fun _ hk => hk.2) (.string t519)) (fun _ hk => hk.2) (.int .i64 t520)) (fun _ hk => hk.2) (.slice Ao65 t521.length co65)) (fun _ hk => hk.2) (.slice Ao66 t524.length co66)) (fun _ h_ => h_.1))) hb);have n1_:=aMk (Kd.S_below (by (with_reducible repeat (first|apply Kd.S_alloc|apply Kd.S_drewN|apply Kd.S_drew));exact (Kd.S_mono (Kd.S_far (p:=⟨gb527,7,none⟩) (Kd.S_far (p:=⟨gb527,6,none⟩) (Kd.S_far (p:=⟨gb527,5,none⟩) (Kd.S_far (p:=⟨gb527,4,none⟩) (Kd.S_far (p:=⟨gb527,3,none⟩) (Kd.S_far (p:=⟨gb527,2,none⟩) (Kd.S_far (p:=⟨gb527,1,none⟩) (Kd.S_far (p:=⟨gb527,0,none⟩) (Kd.S_types HO513.out BK527.out (by decide)) (fun _ hk => hk.2) (.int .i64 t515)) (fun _ hk => hk.2) (.int .i64 t516)) (fun _ hk => hk.2) (.int .i64 t517)) (fun _ hk => hk.2) (.string t518)) (fun _ hk => hk.2) (.string t519)) (fun _ hk => hk.2) (.int .i64 t520)) (fun _ hk => hk.2) (.slice Ao65 t521.length co65)) (fun _ hk => hk.2) (.slice Ao66 t524.length co66)) (fun _ h_ => h_.1))) hb);have n2_:=aMk (Kd.R_below (by (with_reducible repeat (first|apply Kd.R_alloc|apply Kd.R_drewN|apply Kd.R_drew));exact (Kd.R_mono (Kd.R_far (p:=⟨gb527,7,none⟩) (Kd.R_far (p:=⟨gb527,6,none⟩) (Kd.R_far (p:=⟨gb527,5,none⟩) (Kd.R_far (p:=⟨gb527,4,none⟩) (Kd.R_far (p:=⟨gb527,3,none⟩) (Kd.R_far (p:=⟨gb527,2,none⟩) (Kd.R_far (p:=⟨gb527,1,none⟩) (Kd.R_far (p:=⟨gb527,0,none⟩) (Kd.R_types HO523.out BK527.out (by decide)) (fun _ hk => hk.2) (.int .i64 t515)) (fun _ hk => hk.2) (.int .i64 t516)) (fun _ hk => hk.2) (.int .i64 t517)) (fun _ hk => hk.2) (.string t518)) (fun _ hk => hk.2) (.string t519)) (fun _ hk => hk.2) (.int .i64 t520)) (fun _ hk => hk.2) (.slice Ao65 t521.length co65)) (fun _ hk => hk.2) (.slice Ao66 t524.length co66)) (fun _ h_ => h_.1))) hb);have n3_:=aMk (Kd.S_below (by (with_reducible repeat (first|apply Kd.S_alloc|apply Kd.S_drewN|apply Kd.S_drew));exact (Kd.S_mono (Kd.S_far (p:=⟨gb527,7,none⟩) (Kd.S_far (p:=⟨gb527,6,none⟩) (Kd.S_far (p:=⟨gb527,5,none⟩) (Kd.S_far (p:=⟨gb527,4,none⟩) (Kd.S_far (p:=⟨gb527,3,none⟩) (Kd.S_far (p:=⟨gb527,2,none⟩) (Kd.S_far (p:=⟨gb527,1,none⟩) (Kd.S_far (p:=⟨gb527,0,none⟩) (Kd.S_types HO526.out BK527.out (by decide)) (fun _ hk => hk.2) (.int .i64 t515)) (fun _ hk => hk.2) (.int .i64 t516)) (fun _ hk => hk.2) (.int .i64 t517)) (fun _ hk => hk.2) (.string t518)) (fun _ hk => hk.2) (.string t519)) (fun _ hk => hk.2) (.int .i64 t520)) (fun _ hk => hk.2) (.slice Ao65 t521.length co65)) (fun _ hk => hk.2) (.slice Ao66 t524.length co66)) (fun _ h_ => h_.1))) hb);have n4_:=aMk (blk_below (g:=gb500) (o:=.cells #[.int .i64 a0_0,.int .i64 a0_1,.int .i64 a0_2,.string a0_3,.string a0_4,.int .i64 a0_5,.slice A0_6 l0_6.length c0_6,.slice A0_7 l0_7.length c0_7] 64 (0,0)) (by (with_reducible repeat (first|refine bDn ?_ _|refine bDr ?_|refine bAl ?_ _));refine blk_far ?_ NB500_527.out _;(with_reducible repeat (first|refine bDn ?_ _|refine bDr ?_|refine bAl ?_ _));refine blk_far ?_ NB500_527.out _;(with_reducible repeat (first|refine bDn ?_ _|refine bDr ?_|refine bAl ?_ _));refine blk_far ?_ NB500_527.out _;(with_reducible repeat (first|refine bDn ?_ _|refine bDr ?_|refine bAl ?_ _));refine blk_far ?_ NB500_527.out _;(with_reducible repeat (first|refine bDn ?_ _|refine bDr ?_|refine bAl ?_ _));refine blk_far ?_ NB500_527.out _;(with_reducible repeat (first|refine bDn ?_ _|refine bDr ?_|refine bAl ?_ _));refine blk_far ?_ NB500_527.out _;(with_reducible repeat (first|refine bDn ?_ _|refine bDr ?_|refine bAl ?_ _));refine blk_far ?_ NB500_527.out _;(with_reducible repeat (first|refine bDn ?_ _|refine bDr ?_|refine bAl ?_ _));refine blk_far ?_ NB500_527.out _;(with_reducible repeat (first|refine bDn ?_ _|refine bDr ?_|refine bAl ?_ _));exact BK500.out) hb);have n5_:=aMk (blk_below (g:=gb527) (o:=.cells #[.int .i64 t515,.int .i64 t516,.int .i64 t517,.string t518,.string t519,.int .i64 t520,.slice Ao65 t521.length co65,.slice Ao66 t524.length co66] 70 (0,0)) (by (with_reducible repeat (first|refine bDn ?_ _|refine bDr ?_|refine bAl ?_ _));refine blk_put (cs:=#[.int .i64 t515,.int .i64 t516,.int .i64 t517,.string t518,.string t519,.int .i64 t520,.slice Ao65 t521.length co65,.slice none 0 0]) ?_ 7 _ rfl;(with_reducible repeat (first|refine bDn ?_ _|refine bDr ?_|refine bAl ?_ _));refine blk_put (cs:=#[.int .i64 t515,.int .i64 t516,.int .i64 t517,.string t518,.string t519,.int .i64 t520,.slice none 0 0,.slice none 0 0]) ?_ 6 _ rfl;(with_reducible repeat (first|refine bDn ?_ _|refine bDr ?_|refine bAl ?_ _));refine blk_put (cs:=#[.int .i64 t515,.int .i64 t516,.int .i64 t517,.string t518,.string t519,.int .i64 0,.slice none 0 0,.slice none 0 0]) ?_ 5 _ rfl;(with_reducible repeat (first|refine bDn ?_ _|refine bDr ?_|refine bAl ?_ _));refine blk_put (cs:=#[.int .i64 t515,.int .i64 t516,.int .i64 t517,.string t518,.string (⟨#[]⟩ : ByteArray),.int .i64 0,.slice none 0 0,.slice none 0 0]) ?_ 4 _ rfl;(with_reducible repeat (first|refine bDn ?_ _|refine bDr ?_|refine bAl ?_ _));refine blk_put (cs:=#[.int .i64 t515,.int .i64 t516,.int .i64 t517,.string (⟨#[]⟩ : ByteArray),.string (⟨#[]⟩ : ByteArray),.int .i64 0,.slice none 0 0,.slice none 0 0]) ?_ 3 _ rfl;(with_reducible repeat (first|refine bDn ?_ _|refine bDr ?_|refine bAl ?_ _));refine blk_put (cs:=#[.int .i64 t515,.int .i64 t516,.int .i64 0,.string (⟨#[]⟩ : ByteArray),.string (⟨#[]⟩ : ByteArray),.int .i64 0,.slice none 0 0,.slice none 0 0]) ?_ 2 _ rfl;(with_reducible repeat (first|refine bDn ?_ _|refine bDr ?_|refine bAl ?_ _));refine blk_put (cs:=#[.int .i64 t515,.int .i64 0,.int .i64 0,.string (⟨#[]⟩ : ByteArray),.string (⟨#[]⟩ : ByteArray),.int .i64 0,.slice none 0 0,.slice none 0 0]) ?_ 1 _ rfl;(with_reducible repeat (first|refine bDn ?_ _|refine bDr ?_|refine bAl ?_ _));refine blk_put (cs:=#[.int .i64 0,.int .i64 0,.int .i64 0,.string (⟨#[]⟩ : ByteArray),.string (⟨#[]⟩ : ByteArray),.int .i64 0,.slice none 0 0,.slice none 0 0]) ?_ 0 _ rfl;(with_reducible repeat (first|refine bDn ?_ _|refine bDr ?_|refine bAl ?_ _));exact BK527.out) hb);have n6_:=aMk (below_step (by repeat (first|(with_reducible first|exact HB.out|apply bwA|apply bwN|apply bw1|refine below_set ?_ GE500.out|refine below_set ?_ GE527.out)|exact HB.out)) hb);clear HO510;clear HO513;clear HO523;clear HO526;clear BK500;clear BK527;clear HB;have HO510:=n0_;have HO513:=n1_;have HO523:=n2_;have HO526:=n3_;have BK500:=n4_;have BK527:=n5_;have HB:=n6_;clear n0_ n1_ n2_ n3_ n4_ n5_ n6_;(try clear hb);(try clear hb2);(try clear hk);(try clear hi)))
    have n0_:=aMk (Kd.R_drew HO510.out)
    have n1_:=aMk (Kd.S_drew HO513.out)
    have n2_:=aMk (Kd.R_drew HO523.out)
    have n3_:=aMk (Kd.S_drew HO526.out)
    have n4_:=aMk (bDr BK500.out)
    have n5_:=aMk (bDr BK527.out)
    have n6_:=aMk (bw1 HB.out)
    clear HO510
    clear HO513
    clear HO523
    clear HO526
    clear BK500
    clear BK527
    clear HB
    have HO510:=n0_
    have HO513:=n1_
    have HO523:=n2_
    have HO526:=n3_
    have BK500:=n4_
    have BK527:=n5_
    have HB:=n6_
    clear n0_ n1_ n2_ n3_ n4_ n5_ n6_
    refine start_ (n:=5) (S:=fun w' => w'.cell? ⟨gb527,0,none⟩ = some (.int .i64 t515) ∧ w'.cell? ⟨gb527,1,none⟩ = some (.int .i64 t516) ∧ w'.cell? ⟨gb527,2,none⟩ = some (.int .i64 t517) ∧ w'.cell? ⟨gb527,3,none⟩ = some (.string t518) ∧ w'.cell? ⟨gb527,4,none⟩ = some (.string t519) ∧ w'.cell? ⟨gb527,5,none⟩ = some (.int .i64 t520) ∧ w'.cell? ⟨gb527,6,none⟩ = some (.slice Ao65 t521.length co65) ∧ w'.cell? ⟨gb527,7,none⟩ = some (.slice Ao66 t524.length co66) ∧ w'.cell? ⟨gb500,0,none⟩ = some (.int .i64 a0_0) ∧ w'.cell? ⟨gb500,1,none⟩ = some (.int .i64 a0_1) ∧ w'.cell? ⟨gb500,2,none⟩ = some (.int .i64 a0_2) ∧ w'.cell? ⟨gb500,3,none⟩ = some (.string a0_3) ∧ w'.cell? ⟨gb500,4,none⟩ = some (.string a0_4) ∧ w'.cell? ⟨gb500,5,none⟩ = some (.int .i64 a0_5) ∧ w'.cell? ⟨gb500,6,none⟩ = some (.slice A0_6 l0_6.length c0_6) ∧ w'.cell? ⟨gb500,7,none⟩ = some (.slice A0_7 l0_7.length c0_7)) (ds:=[]) #[false,false,false,false,false] (by kernel_rfl) rfl rfl ⟨(bCe BK527.out 0).trans rfl,(bCe BK527.out 1).trans rfl,(bCe BK527.out 2).trans rfl,(bCe BK527.out 3).trans rfl,(bCe BK527.out 4).trans rfl,(bCe BK527.out 5).trans rfl,(bCe BK527.out 6).trans rfl,(bCe BK527.out 7).trans rfl,(bCe BK500.out 0).trans rfl,(bCe BK500.out 1).trans rfl,(bCe BK500.out 2).trans rfl,(bCe BK500.out 3).trans rfl,(bCe BK500.out 4).trans rfl,(bCe BK500.out 5).trans rfl,(bCe BK500.out 6).trans rfl,(bCe BK500.out 7).trans rfl⟩ (fun hHeld => ?_)
    generalize w67.drew = w68 at HO510 HO513 HO523 HO526 BK500 BK527 HB hHeld ⊢
    refine take_ (i:=0) (N:=some 22) (v:=?_) (a':=?_) #[true,false,false,false,false] rfl rfl (by kernel_rfl) (fun _ _ _ h => h) (Or.inl ⟨by rfl,?_⟩) hHeld ?_ ?_
    rotate_left
    ·rintro w' ⟨s0,s1,s2,s3,s4,s5,s6,s7,s8,s9,s10,s11,s12,s13,s14,s15⟩
     go_simp
     with_reducible rfl
    rotate_left
    ·simp only [Act.put,List.setIfInBounds_toArray,List.set_cons_zero,List.set_cons_succ,i64_w,i32_w]
     rfl
    refine take_ (i:=1) (N:=some 23) (v:=?_) (a':=?_) #[true,true,false,false,false] rfl rfl (by kernel_rfl) (fun _ _ _ h => h) (Or.inl ⟨by rfl,?_⟩) hHeld ?_ ?_
    rotate_left
    ·rintro w' ⟨s0,s1,s2,s3,s4,s5,s6,s7,s8,s9,s10,s11,s12,s13,s14,s15⟩
     go_simp
     with_reducible rfl
    rotate_left
    ·simp only [Act.put,List.setIfInBounds_toArray,List.set_cons_zero,List.set_cons_succ,i64_w,i32_w]
     rfl
    refine one_ (i:=2) (N:=some 24) #[true,true,true,false,false] rfl rfl (by kernel_rfl) (by decide) (fun K hK => ?_)
    refine goes_ Try.func33 (by kernel_rfl) rfl #[.agg #[.int .i64 a0_0,.int .i64 a0_1,.int .i64 a0_2,.string a0_3,.string a0_4,.int .i64 a0_5,.slice A0_6 l0_6.length c0_6,.slice A0_7 l0_7.length c0_7]] (by rfl) rfl rfl (by (try simp only [List.map_toArray,List.map_cons,List.map_nil]);first | done | rfl|(simp only [List.length_drop,List.length_take];rfl)) ?_
    with_reducible refine (laws_toConfig.calls k a0_0 a0_1 a0_2 a0_3 a0_4 a0_5 _ _ l0_6 _ _ l0_7 t529 t530 t531 t532 t533 t534 t535 t538 _ ?side1 ?side2 ?side3 ?side4 A28.out).mono ?_
    (case side1 => repeat (first|exact (Kd.C_below HR0_6.out HB.out)|(with_reducible refine Kd.C_alloc ?_ _)|(with_reducible refine Kd.C_drewN ?_ _)|(with_reducible refine Kd.C_drew ?_)))
    (case side2 => exact HC0_6.out)
    (case side3 => repeat (first|exact (Kd.C_below HR0_7.out HB.out)|(with_reducible refine Kd.C_alloc ?_ _)|(with_reducible refine Kd.C_drewN ?_ _)|(with_reducible refine Kd.C_drew ?_)))
    (case side4 => exact HC0_7.out)
    rintro e w69 ⟨v536,v539,rfl,ho0,ho1,hb⟩
    refine ⟨_,rfl,?_⟩
    have n0_:=aMk (Kd.R_elder' (by (with_reducible repeat (first|apply Kd.R_alloc|apply Kd.R_drewN|apply Kd.R_drew));exact HO510.out) (Kd.R_base ho0) hb)
    have n1_:=aMk (Kd.S_elder' (by (with_reducible repeat (first|apply Kd.S_alloc|apply Kd.S_drewN|apply Kd.S_drew));exact HO513.out) (Kd.S_base ho1) hb)
    have n2_:=aMk (Kd.R_elder' (by (with_reducible repeat (first|apply Kd.R_alloc|apply Kd.R_drewN|apply Kd.R_drew));exact HO523.out) (Kd.R_base ho0) hb)
    have n3_:=aMk (Kd.S_elder' (by (with_reducible repeat (first|apply Kd.S_alloc|apply Kd.S_drewN|apply Kd.S_drew));exact HO526.out) (Kd.S_base ho1) hb)
    have n4_:=aMk (Kd.R_lower (Kd.R_new' (Kd.R_new' ho0 (Kd.R_lt (by (with_reducible repeat (first|apply Kd.R_alloc|apply Kd.R_drewN|apply Kd.R_drew));exact HO510.out))) (Kd.R_lt (by (with_reducible repeat (first|apply Kd.R_alloc|apply Kd.R_drewN|apply Kd.R_drew));exact HO523.out))) (below_size (by repeat (first|(with_reducible first|exact HB.out|apply bwA|apply bwN|apply bw1|refine below_set ?_ GE500.out|refine below_set ?_ GE527.out)|exact HB.out))))
    have n5_:=aMk (Kd.S_lower (Kd.S_new' (Kd.S_new' ho1 (Kd.S_lt (by (with_reducible repeat (first|apply Kd.S_alloc|apply Kd.S_drewN|apply Kd.S_drew));exact HO513.out))) (Kd.S_lt (by (with_reducible repeat (first|apply Kd.S_alloc|apply Kd.S_drewN|apply Kd.S_drew));exact HO526.out))) (below_size (by repeat (first|(with_reducible first|exact HB.out|apply bwA|apply bwN|apply bw1|refine below_set ?_ GE500.out|refine below_set ?_ GE527.out)|exact HB.out))))
    have n6_:=aMk (bkB BK500.out hb)
    have n7_:=aMk (bkB BK527.out hb)
    have n8_:=aMk (below_step (by repeat (first|(with_reducible first|exact HB.out|apply bwA|apply bwN|apply bw1|refine below_set ?_ GE500.out|refine below_set ?_ GE527.out)|exact HB.out)) hb)
    clear HO510
    clear HO513
    clear HO523
    clear HO526
    clear BK500
    clear BK527
    clear HB
    have HO510:=n0_
    have HO513:=n1_
    have HO523:=n2_
    have HO526:=n3_
    have HO537:=n4_
    have HO540:=n5_
    have BK500:=n6_
    have BK527:=n7_
    have HB:=n8_
    clear n0_ n1_ n2_ n3_ n4_ n5_ n6_ n7_ n8_
    (try clear hb)
    (try clear hb2)
    (try clear hk)
    (try clear hi)
    (try clear ho0)
    (try clear ho1)
    obtain ⟨Ao70,co70,eo70⟩:=Kd.R_slice HO537.out
    (first|subst eo70|(injection eo70 with f1_ f2_ f3_;have f4_:=f1_.symm;have f5_:=f3_.symm;clear f1_ f2_ f3_;subst f4_;subst f5_))
    obtain ⟨Ao71,co71,eo71⟩:=Kd.S_slice HO540.out
    (first|subst eo71|(injection eo71 with f1_ f2_ f3_;have f4_:=f1_.symm;have f5_:=f3_.symm;clear f1_ f2_ f3_;subst f4_;subst f5_))
    refine hK.out _ _ ⟨(bCe BK527.out 0).trans rfl,(bCe BK527.out 1).trans rfl,(bCe BK527.out 2).trans rfl,(bCe BK527.out 3).trans rfl,(bCe BK527.out 4).trans rfl,(bCe BK527.out 5).trans rfl,(bCe BK527.out 6).trans rfl,(bCe BK527.out 7).trans rfl,(bCe BK500.out 0).trans rfl,(bCe BK500.out 1).trans rfl,(bCe BK500.out 2).trans rfl,(bCe BK500.out 3).trans rfl,(bCe BK500.out 4).trans rfl,(bCe BK500.out 5).trans rfl,(bCe BK500.out 6).trans rfl,(bCe BK500.out 7).trans rfl⟩ (fun hHeld => ?_)
    clear hK K
    refine norm_ (a':=?_) ?_ ?_
    rotate_left
    ·show Act.put _ (some 24) _ = _
     simp only [Act.put,List.setIfInBounds_toArray,List.set_cons_zero,List.set_cons_succ,i64_w,i32_w]
     rfl
    refine one_ (i:=3) (N:=some 25) #[true,true,true,true,false] rfl rfl (by kernel_rfl) (by decide) (fun K hK => ?_)
    refine goes_ Try.func35 (by kernel_rfl) rfl #[.agg #[.int .i64 t515,.int .i64 t516,.int .i64 t517,.string t518,.string t519,.int .i64 t520,.slice Ao65 t521.length co65,.slice Ao66 t524.length co66],.agg #[.int .i64 t529,.int .i64 t530,.int .i64 t531,.string t532,.string t533,.int .i64 t534,.slice Ao70 t535.length co70,.slice Ao71 t538.length co71]] (by rfl) rfl rfl (by (try simp only [List.map_toArray,List.map_cons,List.map_nil]);first | done | rfl|(simp only [List.length_drop,List.length_take];rfl)) ?_
    with_reducible refine (laws_eqConfig.calls k t515 t516 t517 t518 t519 t520 _ _ t521 _ _ t524 t529 t530 t531 t532 t533 t534 _ _ t535 _ _ t538 false _ ?side1 ?side2 ?side3 ?side4 ?side5 ?side6 ?side7 ?side8 A29.out).mono ?_
    (case side1 => repeat (first|exact (Kd.R_reads' HO523.out).2.2|(with_reducible refine Kd.C_alloc ?_ _)|(with_reducible refine Kd.C_drewN ?_ _)|(with_reducible refine Kd.C_drew ?_)))
    (case side2 => exact (Kd.R_reads' HO523.out).2.1)
    (case side3 => repeat (first|exact (Kd.S_reads' HO526.out).2.2|(with_reducible refine Kd.C_alloc ?_ _)|(with_reducible refine Kd.C_drewN ?_ _)|(with_reducible refine Kd.C_drew ?_)))
    (case side4 => exact (Kd.S_reads' HO526.out).2.1)
    (case side5 => repeat (first|exact (Kd.R_reads' HO537.out).2.2|(with_reducible refine Kd.C_alloc ?_ _)|(with_reducible refine Kd.C_drewN ?_ _)|(with_reducible refine Kd.C_drew ?_)))
    (case side6 => exact (Kd.R_reads' HO537.out).2.1)
    (case side7 => repeat (first|exact (Kd.S_reads' HO540.out).2.2|(with_reducible refine Kd.C_alloc ?_ _)|(with_reducible refine Kd.C_drewN ?_ _)|(with_reducible refine Kd.C_drew ?_)))
    (case side8 => exact (Kd.S_reads' HO540.out).2.1)
    rintro e w72 ⟨rfl,hb⟩
    refine ⟨_,rfl,?_⟩
    have n0_:=aMk (Kd.R_below (by (with_reducible repeat (first|apply Kd.R_alloc|apply Kd.R_drewN|apply Kd.R_drew));exact HO510.out) hb)
    have n1_:=aMk (Kd.S_below (by (with_reducible repeat (first|apply Kd.S_alloc|apply Kd.S_drewN|apply Kd.S_drew));exact HO513.out) hb)
    have n2_:=aMk (Kd.R_below (by (with_reducible repeat (first|apply Kd.R_alloc|apply Kd.R_drewN|apply Kd.R_drew));exact HO523.out) hb)
    have n3_:=aMk (Kd.S_below (by (with_reducible repeat (first|apply Kd.S_alloc|apply Kd.S_drewN|apply Kd.S_drew));exact HO526.out) hb)
    have n4_:=aMk (Kd.R_below (by (with_reducible repeat (first|apply Kd.R_alloc|apply Kd.R_drewN|apply Kd.R_drew));exact HO537.out) hb)
    have n5_:=aMk (Kd.S_below (by (with_reducible repeat (first|apply Kd.S_alloc|apply Kd.S_drewN|apply Kd.S_drew));exact HO540.out) hb)
    have n6_:=aMk (bkB BK500.out hb)
    have n7_:=aMk (bkB BK527.out hb)
    have n8_:=aMk (below_step (by repeat (first|(with_reducible first|exact HB.out|apply bwA|apply bwN|apply bw1|refine below_set ?_ GE500.out|refine below_set ?_ GE527.out)|exact HB.out)) hb)
    clear HO510
    clear HO513
    clear HO523
    clear HO526
    clear HO537
    clear HO540
    clear BK500
    clear BK527
    clear HB
    have HO510:=n0_
    have HO513:=n1_
    have HO523:=n2_
    have HO526:=n3_
    have HO537:=n4_
    have HO540:=n5_
    have BK500:=n6_
    have BK527:=n7_
    have HB:=n8_
    clear n0_ n1_ n2_ n3_ n4_ n5_ n6_ n7_ n8_
    (try clear hb)
    (try clear hb2)
    (try clear hk)
    (try clear hi)
    refine hK.out _ _ ⟨(bCe BK527.out 0).trans rfl,(bCe BK527.out 1).trans rfl,(bCe BK527.out 2).trans rfl,(bCe BK527.out 3).trans rfl,(bCe BK527.out 4).trans rfl,(bCe BK527.out 5).trans rfl,(bCe BK527.out 6).trans rfl,(bCe BK527.out 7).trans rfl,(bCe BK500.out 0).trans rfl,(bCe BK500.out 1).trans rfl,(bCe BK500.out 2).trans rfl,(bCe BK500.out 3).trans rfl,(bCe BK500.out 4).trans rfl,(bCe BK500.out 5).trans rfl,(bCe BK500.out 6).trans rfl,(bCe BK500.out 7).trans rfl⟩ (fun hHeld => ?_)
    clear hK K
    refine norm_ (a':=?_) ?_ ?_
    rotate_left
    ·show Act.put _ (some 25) _ = _
     simp only [Act.put,List.setIfInBounds_toArray,List.set_cons_zero,List.set_cons_succ,i64_w,i32_w]
     rfl
    refine pure_ (i:=4) (N:=some 26) (v:=?_) (a':=?_) #[true,true,true,true,true] rfl rfl (by kernel_rfl) (fun _ _ _ h => h) (Or.inl ⟨by rfl,?_⟩) ?_ ?_
    rotate_left
    ·intro w'
     go_simp
     with_reducible rfl
    rotate_left
    ·simp only [Act.put,List.setIfInBounds_toArray,List.set_cons_zero,List.set_cons_succ,i64_w,i32_w]
     rfl
    refine done_ (by kernel_rfl) ?_
    try go_wp2
    go_ret
    exact ⟨eRf,by repeat (first|(with_reducible first|exact HB.out|apply bwA|apply bwN|apply bw1|refine below_set ?_ GE500.out|refine below_set ?_ GE527.out)|exact HB.out)⟩
end
section
-- IMPORT Derived.Laws.BitsLemmas
-- IMPORT Derived.OpenShut
theorem wrap_id {n : Int} (h0 : -9223372036854775808 ≤ n) (h1 : n ≤ 9223372036854775807) : wrap64 n = n:=by
 unfold wrap64;omega
end
section
-- NEEDS spec.l01In impl.within
theorem l01In_eq (a b c : Int) : spec_l01In.f a b c = some (decide (b ≤ a ∧ a ≤ c)):=by unfold spec_l01In.f;grind
theorem within_eq (a b c : Int) : impl_within.f a b c = some (decide (b ≤ a ∧ a ≤ c)):=by unfold impl_within.f;grind
end
end Go.Proofs.Ytiemmhhjiplnlaa.X
