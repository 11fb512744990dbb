/- Texts that the row of FnOrder stands on: functions of the program and of the reference, each as a Lean function with the same answers, and the plain lemmas. Conditions: none beside those that each theorem names. -/
import Derived.Test.YtcakbenoaclbkaaCFnOrder2
namespace Go.Proofs.Ytcakbenoaclbkaa.X
open Go.RowKit Go.Proofs.YtcakbenoaclbkaaW.PrintWords Go.Proofs.YtcakbenoaclbkaaW.PrintLast Go.Proofs.YtcakbenoaclbkaaW.PrintMore
attribute [local go_sem] max2_int min2_int max_two min_two max_three min_three max_four min_four   -- for this text's walks alone
set_option linter.unusedVariables false
set_option linter.unusedSimpArgs false
open Go.Proofs.YtcakbenoaclbkaaW.PrintWords renaming blk_drewN -> bDn
open Go.Proofs.YtcakbenoaclbkaaW.PrintWords renaming blk_drew -> bDr
open Go.Proofs.YtcakbenoaclbkaaW.PrintWords renaming blk_alloc -> bAl
open Go.Proofs.YtcakbenoaclbkaaW.PrintWords renaming blk_frozen -> bFr
open Go.Proofs.YtcakbenoaclbkaaW.PrintWords renaming blk_cell -> bCe
open Go.Proofs.YtcakbenoaclbkaaW.PrintWords.Aside0 renaming mk -> aMk
open Go.World renaming block_lt_of_cell? -> wLt
open Go.Proofs.YtcakbenoaclbkaaW.PrintWords renaming pw_below_drewN -> bwN
open Go.Proofs.YtcakbenoaclbkaaW.PrintWords renaming below_drew1 -> bw1
open Go.Proofs.YtcakbenoaclbkaaW.PrintWords renaming below_alloc -> bwA
section
/-! ### spec_ClassOf: function 33 -/
def spec_ClassOf.f (k : Nat) (a0_0 : Int) (a0_1 : Int) : Option (Int × Int):=(spec_l06Word.f a0_0 a0_1).bind fun t519 => (if t519 = true then ((spec_l06Class.f k a0_0 a0_1).bind fun t520 => (some (t520,0))) else (some (0,1)))
theorem spec_ClassOf.mono : ∀ a0 a1 k,LeO (spec_ClassOf.f k a0 a1) (spec_ClassOf.f (k + 1) a0 a1):=by
 intro a0 a1 k
 unfold spec_ClassOf.f
 repeat' first
   | (with_reducible exact spec_l06Class.mono ..)
   | (with_reducible exact LeO.refl _)
   | (with_reducible exact LeO.none _)
   | (with_reducible refine LeO.ite ?_ ?_)
   | (with_reducible refine LeO.bind ?_ (fun _ => ?_))
   | exact spec_l06Class.mono ..
   | exact LeO.none _
   | refine LeO.ite ?_ ?_
   | refine LeO.bind ?_ (fun _ => ?_)
set_option maxHeartbeats 8000000 in
set_option maxRecDepth 100000 in
theorem spec_ClassOf.calls (k : Nat) (a0_0 : Int) (a0_1 : Int) (r1 : Int) (r2 : Int) (w : World) (h : spec_ClassOf.f k a0_0 a0_1 = some (r1,r2)) :
  Calls Try.prog 33 #[.agg #[.int .i64 a0_0,.int .i64 a0_1]] w fun e w' => e = .returned (.tuple #[.int .i64 r1,.int .i64 r2]) ∧ Below w.heap.size w w':=by
 have hu31:=Try.underlying31
 have HB:=aMk (Below.refl w.heap.size w)
 have H : ((spec_l06Word.f a0_0 a0_1).bind fun t519 => (if t519 = true then ((spec_l06Class.f k a0_0 a0_1).bind fun t520 => (some (t520,0))) else (some (0,1)))) = some (r1,r2):=h
 clear h
 replace H:=Option.bind_eq_some_iff.mp H
 obtain ⟨t519,A20,H⟩:=H
 replace H : (if t519 = true then ((spec_l06Class.f k a0_0 a0_1).bind fun t520 => (some (t520,0))) else (some (0,1))) = some (r1,r2):=H
 have A2:=aMk A20
 clear A20
 by_cases c3 : t519 = true
 ·subst c3
  have H1 : ((spec_l06Class.f k a0_0 a0_1).bind fun t520 => (some (t520,0))) = some (r1,r2):=by rw [if_pos rfl] at H;exact H
  clear H
  have H:=H1
  clear H1
  replace H:=Option.bind_eq_some_iff.mp H
  obtain ⟨t520,A40,H⟩:=H
  replace H : (some (t520,0)) = some (r1,r2):=H
  have A4:=aMk A40
  clear A40
  simp only [Option.some.injEq,Prod.mk.injEq] at H
  obtain ⟨rfl,rfl⟩:=H
  go_enter Try.func33,Try.ntmps33
  go_wp2_with (first|((with_reducible refine gate_dst (N:=1) rfl ?_);refine bxE (N:=1) (cs:=#[.int .i64 a0_0,.int .i64 a0_1]) (t:=31) ?_;intro gb518 hg w5 hbox hb;have n0_:=aMk (bSt hb);have n1_:=aMk (hbox);have n2_:=aMk ((by rw [hg];exact bSz : w.heap.size ≤ gb518));have n3_:=aMk ((by rw [hg];exact bSz : w.heap.size ≤ gb518));clear HB;have HB:=n0_;have BK518:=n1_;have GW518:=n2_;have GE518:=n3_;clear n0_ n1_ n2_ n3_;clear hb hbox hg;obtain ⟨hcz6_0,hcz6_1,hfz6_0,hfz6_1⟩:=bC2 BK518.out)|((with_reducible refine gate_callee (f:=41) rfl ?_);refine gLs 5 Try.func41 #[.agg #[.int .i64 a0_0,.int .i64 a0_1]] ?_;(with_reducible refine (spec_l06Word.calls a0_0 a0_1 true _ A2.out).mono ?_);rintro e w7 ⟨rfl,hb⟩;refine ⟨_,rfl,?_⟩;have n0_:=aMk (bkB BK518.out hb);have n1_:=aMk (below_step (by repeat (first|(with_reducible first|exact HB.out|apply bwA|apply bwN|apply bw1|refine below_set ?_ GE518.out)|exact HB.out)) hb);clear BK518;clear HB;have BK518:=n0_;have HB:=n1_;clear n0_ n1_;(try clear hb);(try clear hb2);(try clear hk);(try clear hi);obtain ⟨hcz8_0,hcz8_1,hfz8_0,hfz8_1⟩:=bC2 BK518.out)|((with_reducible refine gate_callee (f:=45) rfl ?_);refine gLs 8 Try.func45 #[.agg #[.int .i64 a0_0,.int .i64 a0_1]] ?_;(with_reducible refine (spec_l06Class.calls k a0_0 a0_1 t520 _ A4.out).mono ?_);rintro e w9 ⟨rfl,hb⟩;refine ⟨_,rfl,?_⟩;have n0_:=aMk (bkB BK518.out hb);have n1_:=aMk (below_step (by repeat (first|(with_reducible first|exact HB.out|apply bwA|apply bwN|apply bw1|refine below_set ?_ GE518.out)|exact HB.out)) hb);clear BK518;clear HB;have BK518:=n0_;have HB:=n1_;clear n0_ n1_;(try clear hb);(try clear hb2);(try clear hk);(try clear hi)))
  go_ret2
  exact ⟨eRf,by repeat (first|(with_reducible first|exact HB.out|apply bwA|apply bwN|apply bw1|refine below_set ?_ GE518.out)|exact HB.out)⟩
 ·replace c3:=Bool.eq_false_iff.mpr c3
  subst c3
  have H1 : (some (0,1)) = some (r1,r2):=by rw [if_neg (show ¬ (false = true) by decide)] at H;exact H
  clear H
  have H:=H1
  clear H1
  simp only [Option.some.injEq,Prod.mk.injEq] at H
  obtain ⟨rfl,rfl⟩:=H
  go_enter Try.func33,Try.ntmps33
  go_wp2_with (first|((with_reducible refine gate_dst (N:=1) rfl ?_);refine bxE (N:=1) (cs:=#[.int .i64 a0_0,.int .i64 a0_1]) (t:=31) ?_;intro gb518 hg w10 hbox hb;have n0_:=aMk (bSt hb);have n1_:=aMk (hbox);have n2_:=aMk ((by rw [hg];exact bSz : w.heap.size ≤ gb518));have n3_:=aMk ((by rw [hg];exact bSz : w.heap.size ≤ gb518));clear HB;have HB:=n0_;have BK518:=n1_;have GW518:=n2_;have GE518:=n3_;clear n0_ n1_ n2_ n3_;clear hb hbox hg;obtain ⟨hcz11_0,hcz11_1,hfz11_0,hfz11_1⟩:=bC2 BK518.out)|((with_reducible refine gate_callee (f:=41) rfl ?_);refine gLs 5 Try.func41 #[.agg #[.int .i64 a0_0,.int .i64 a0_1]] ?_;(with_reducible refine (spec_l06Word.calls a0_0 a0_1 false _ A2.out).mono ?_);rintro e w12 ⟨rfl,hb⟩;refine ⟨_,rfl,?_⟩;have n0_:=aMk (bkB BK518.out hb);have n1_:=aMk (below_step (by repeat (first|(with_reducible first|exact HB.out|apply bwA|apply bwN|apply bw1|refine below_set ?_ GE518.out)|exact HB.out)) hb);clear BK518;clear HB;have BK518:=n0_;have HB:=n1_;clear n0_ n1_;(try clear hb);(try clear hb2);(try clear hk);(try clear hi)))
  go_ret2
  exact ⟨eRf,by repeat (first|(with_reducible first|exact HB.out|apply bwA|apply bwN|apply bw1|refine below_set ?_ GE518.out)|exact HB.out)⟩
end
section
/-! ### impl_NegOf: function 34 -/
def impl_NegOf.f (a0_0 : Int) (a0_1 : Int) : Option (Int × Int × Int):=(impl_wordOK.f a0_0 a0_1).bind fun t523 => (if t523 = true then (some (Go.bits .xor .i64 a0_0 2147483648,a0_1,0)) else (some (0,0,1)))
set_option maxHeartbeats 8000000 in
set_option maxRecDepth 100000 in
theorem impl_NegOf.calls (a0_0 : Int) (a0_1 : Int) (r1 : Int) (r2 : Int) (r3 : Int) (w : World) (h : impl_NegOf.f a0_0 a0_1 = some (r1,r2,r3)) :
  Calls Try.prog 34 #[.agg #[.int .i64 a0_0,.int .i64 a0_1]] w fun e w' => e = .returned (.tuple #[.agg #[.int .i64 r1,.int .i64 r2],.int .i64 r3]) ∧ Below w.heap.size w w':=by
 have hu31:=Try.underlying31
 have HB:=aMk (Below.refl w.heap.size w)
 have H : ((impl_wordOK.f a0_0 a0_1).bind fun t523 => (if t523 = true then (some (Go.bits .xor .i64 a0_0 2147483648,a0_1,0)) else (some (0,0,1)))) = some (r1,r2,r3):=h
 clear h
 replace H:=Option.bind_eq_some_iff.mp H
 obtain ⟨t523,A20,H⟩:=H
 replace H : (if t523 = true then (some (Go.bits .xor .i64 a0_0 2147483648,a0_1,0)) else (some (0,0,1))) = some (r1,r2,r3):=H
 have A2:=aMk A20
 clear A20
 by_cases c3 : t523 = true
 ·subst c3
  have H1 : (some (Go.bits .xor .i64 a0_0 2147483648,a0_1,0)) = some (r1,r2,r3):=by rw [if_pos rfl] at H;exact H
  clear H
  have H:=H1
  clear H1
  simp only [Option.some.injEq,Prod.mk.injEq] at H
  obtain ⟨rfl,rfl,rfl⟩:=H
  go_enter Try.func34,Try.ntmps34
  go_wp2_with (first|((with_reducible refine gate_dst (N:=1) rfl ?_);refine bxE (N:=1) (cs:=#[.int .i64 a0_0,.int .i64 a0_1]) (t:=31) ?_;intro gb521 hg w4 hbox hb;have n0_:=aMk (bSt hb);have n1_:=aMk (hbox);have n2_:=aMk ((by rw [hg];exact bSz : w.heap.size ≤ gb521));have n3_:=aMk ((by rw [hg];exact bSz : w.heap.size ≤ gb521));clear HB;have HB:=n0_;have BK521:=n1_;have GW521:=n2_;have GE521:=n3_;clear n0_ n1_ n2_ n3_;clear hb hbox hg)|((with_reducible refine gate_dst (N:=2) rfl ?_);refine bxE (N:=2) (cs:=#[.int .i64 0,.int .i64 0]) (t:=31) ?_;intro gb522 hg w5 hbox hb;have n0_:=aMk (bkB BK521.out hb);have n1_:=aMk (below_step (by repeat (first|(with_reducible first|exact HB.out|apply bwA|apply bwN|apply bw1|refine below_set ?_ GE521.out)|exact HB.out)) hb);have n2_:=aMk (hbox);have n3_:=aMk ((by rw [hg];exact (below_size (by repeat (first|(with_reducible first|exact HB.out|apply bwA|apply bwN|apply bw1|refine below_set ?_ GE521.out)|exact HB.out))) : w.heap.size ≤ gb522));have n4_:=aMk ((by rw [hg];exact (below_size (by repeat (first|(with_reducible first|exact HB.out|apply bwA|apply bwN|apply bw1|refine below_set ?_ GE521.out)|exact HB.out))) : w.heap.size ≤ gb522));have n5_:=aMk ((bkL BK521.out hg : gb521 ≠ gb522));have n6_:=aMk ((bkG BK521.out hg : gb522 ≠ gb521));clear BK521;clear HB;have BK521:=n0_;have HB:=n1_;have BK522:=n2_;have GW522:=n3_;have GE522:=n4_;have NB521_522:=n5_;have NB522_521:=n6_;clear n0_ n1_ n2_ n3_ n4_ n5_ n6_;clear hb hbox hg;have hnb6:=NB521_522.out;have hnc6:=NB522_521.out;obtain ⟨hcz7_0,hcz7_1,hfz7_0,hfz7_1⟩:=bC2 BK521.out)|((with_reducible refine gate_callee (f:=43) rfl ?_);refine gLs 5 Try.func43 #[.agg #[.int .i64 a0_0,.int .i64 a0_1]] ?_;(with_reducible refine (impl_wordOK.calls a0_0 a0_1 true _ A2.out).mono ?_);rintro e w8 ⟨rfl,hb⟩;refine ⟨_,rfl,?_⟩;have n0_:=aMk (bkB BK521.out hb);have n1_:=aMk (bkB BK522.out hb);have n2_:=aMk (below_step (by repeat (first|(with_reducible first|exact HB.out|apply bwA|apply bwN|apply bw1|refine below_set ?_ GE521.out|refine below_set ?_ GE522.out)|exact HB.out)) hb);clear BK521;clear BK522;clear HB;have BK521:=n0_;have BK522:=n1_;have HB:=n2_;clear n0_ n1_ n2_;(try clear hb);(try clear hb2);(try clear hk);(try clear hi);obtain ⟨hcz9_0,hcz9_1,hfz9_0,hfz9_1⟩:=bC2 BK521.out;obtain ⟨hcz10_0,hcz10_1,hfz10_0,hfz10_1⟩:=bC2 BK522.out))
  refine bodyPost_ret (results_ct rfl _ _ gb522 31 #[.int .i64 (Go.bits .xor .i64 a0_0 2147483648),.int .i64 a0_1] (0,0) _ rfl (by refine pB ?_;refine blk_put (cs:=#[.int .i64 (Go.bits .xor .i64 a0_0 2147483648),.int .i64 0]) ?_ 1 _ rfl;refine pB ?_;refine blk_put (cs:=#[.int .i64 0,.int .i64 0]) ?_ 0 _ rfl;refine pB ?_;exact BK522.out) Try.underlying31 rfl (by kernel_rfl)) rfl ?_
  exact ⟨eRf,by repeat (first|(with_reducible first|exact HB.out|apply bwA|apply bwN|apply bw1|refine below_set ?_ GE521.out|refine below_set ?_ GE522.out)|exact HB.out)⟩
 ·replace c3:=Bool.eq_false_iff.mpr c3
  subst c3
  have H1 : (some (0,0,1)) = some (r1,r2,r3):=by rw [if_neg (show ¬ (false = true) by decide)] at H;exact H
  clear H
  have H:=H1
  clear H1
  simp only [Option.some.injEq,Prod.mk.injEq] at H
  obtain ⟨rfl,rfl,rfl⟩:=H
  go_enter Try.func34,Try.ntmps34
  go_wp2_with (first|((with_reducible refine gate_dst (N:=1) rfl ?_);refine bxE (N:=1) (cs:=#[.int .i64 a0_0,.int .i64 a0_1]) (t:=31) ?_;intro gb521 hg w11 hbox hb;have n0_:=aMk (bSt hb);have n1_:=aMk (hbox);have n2_:=aMk ((by rw [hg];exact bSz : w.heap.size ≤ gb521));have n3_:=aMk ((by rw [hg];exact bSz : w.heap.size ≤ gb521));clear HB;have HB:=n0_;have BK521:=n1_;have GW521:=n2_;have GE521:=n3_;clear n0_ n1_ n2_ n3_;clear hb hbox hg)|((with_reducible refine gate_dst (N:=2) rfl ?_);refine bxE (N:=2) (cs:=#[.int .i64 0,.int .i64 0]) (t:=31) ?_;intro gb522 hg w12 hbox hb;have n0_:=aMk (bkB BK521.out hb);have n1_:=aMk (below_step (by repeat (first|(with_reducible first|exact HB.out|apply bwA|apply bwN|apply bw1|refine below_set ?_ GE521.out)|exact HB.out)) hb);have n2_:=aMk (hbox);have n3_:=aMk ((by rw [hg];exact (below_size (by repeat (first|(with_reducible first|exact HB.out|apply bwA|apply bwN|apply bw1|refine below_set ?_ GE521.out)|exact HB.out))) : w.heap.size ≤ gb522));have n4_:=aMk ((by rw [hg];exact (below_size (by repeat (first|(with_reducible first|exact HB.out|apply bwA|apply bwN|apply bw1|refine below_set ?_ GE521.out)|exact HB.out))) : w.heap.size ≤ gb522));have n5_:=aMk ((bkL BK521.out hg : gb521 ≠ gb522));have n6_:=aMk ((bkG BK521.out hg : gb522 ≠ gb521));clear BK521;clear HB;have BK521:=n0_;have HB:=n1_;have BK522:=n2_;have GW522:=n3_;have GE522:=n4_;have NB521_522:=n5_;have NB522_521:=n6_;clear n0_ n1_ n2_ n3_ n4_ n5_ n6_;clear hb hbox hg;have hnb13:=NB521_522.out;have hnc13:=NB522_521.out;obtain ⟨hcz14_0,hcz14_1,hfz14_0,hfz14_1⟩:=bC2 BK521.out)|((with_reducible refine gate_callee (f:=43) rfl ?_);refine gLs 5 Try.func43 #[.agg #[.int .i64 a0_0,.int .i64 a0_1]] ?_;(with_reducible refine (impl_wordOK.calls a0_0 a0_1 false _ A2.out).mono ?_);rintro e w15 ⟨rfl,hb⟩;refine ⟨_,rfl,?_⟩;have n0_:=aMk (bkB BK521.out hb);have n1_:=aMk (bkB BK522.out hb);have n2_:=aMk (below_step (by repeat (first|(with_reducible first|exact HB.out|apply bwA|apply bwN|apply bw1|refine below_set ?_ GE521.out|refine below_set ?_ GE522.out)|exact HB.out)) hb);clear BK521;clear BK522;clear HB;have BK521:=n0_;have BK522:=n1_;have HB:=n2_;clear n0_ n1_ n2_;(try clear hb);(try clear hb2);(try clear hk);(try clear hi);obtain ⟨hcz16_0,hcz16_1,hfz16_0,hfz16_1⟩:=bC2 BK522.out))
  refine bodyPost_ret (results_ct rfl _ _ gb522 31 #[.int .i64 0,.int .i64 0] (0,0) _ rfl (by refine pB ?_;refine blk_put (cs:=#[.int .i64 0,.int .i64 0]) ?_ 1 _ rfl;refine pB ?_;refine blk_put (cs:=#[.int .i64 0,.int .i64 0]) ?_ 0 _ rfl;refine pB ?_;exact BK522.out) Try.underlying31 rfl (by kernel_rfl)) rfl ?_
  exact ⟨eRf,by repeat (first|(with_reducible first|exact HB.out|apply bwA|apply bwN|apply bw1|refine below_set ?_ GE521.out|refine below_set ?_ GE522.out)|exact HB.out)⟩
end
section
attribute [local go_sem high] eqA31
/-! ### laws_FnOrder: function 8 -/
mutual
def laws_FnOrder.j0 : Nat → List Int → List Int → Bool → Option (Bool)
 | 0,_,_,_ => none
 | k + 1,x0,x1,x36 => if x36 = true then (some true) else ((some (([] : List (S31)) : List (S31))).bind fun y524 => ((spec_WordsOf.f k x0).bind fun t527 => (if y524.length + t527.length < 8796093022208 then ((some (y524 ++ t527 : List (S31))).bind fun y530 => ((spec_WordsOf.f k x1).bind fun t533 => (if y530.length + t533.length < 8796093022208 then ((some (y530 ++ t533 : List (S31))).bind fun y536 => ((impl_SortWords.f k y536).bind fun bt539 => ((spec_SortWords.f k y536).bind fun bt543 => (if bt539.2 = 0 then (if (bt539.1.length : Int) = (y536.length : Int) then (laws_FnOrder.j1 k y536 bt539.1 bt543.1 ((bt543.1.length : Int) != (y536.length : Int))) else (laws_FnOrder.j1 k y536 bt539.1 bt543.1 true)) else (laws_FnOrder.j1 k y536 bt539.1 bt543.1 true))))) else (none)))) else (none))))
def laws_FnOrder.j1 : Nat → List (S31) → List (S31) → List (S31) → Bool → Option (Bool)
 | 0,_,_,_,_ => none
 | k + 1,x5,x6,x8,x69 => if x69 = true then (some false) else (laws_FnOrder.l0 k x5 x6 x8 0)
def laws_FnOrder.l0 : Nat → List (S31) → List (S31) → List (S31) → Int → Option (Bool)
 | 0,_,_,_,_ => none
 | k + 1,x5,x6,x8,x10 => if x10 < (x6.length : Int) then (if 0 ≤ x10 then (if x10 < (x5.length : Int) then ((impl_ClassOf.f ((rd_T31 x5 x10).f0) ((rd_T31 x5 x10).f1)).bind fun bt550 => ((spec_ClassOf.f k ((rd_T31 x5 x10).f0) ((rd_T31 x5 x10).f1)).bind fun bt553 => (if x10 < (x8.length : Int) then (if (!(((rd_T31 x6 x10).f0) == ((rd_T31 x8 x10).f0)) || (!(((rd_T31 x6 x10).f1) == ((rd_T31 x8 x10).f1)))) = true then (laws_FnOrder.j3 k x5 x6 x8 x10 true) else (if bt550.2 = 0 then (if bt550.1 = bt553.1 then ((impl_RateWord.f k ((rd_T31 x5 x10).f0) ((rd_T31 x5 x10).f1)).bind fun t558 => ((spec_RateWord.f k ((rd_T31 x5 x10).f0) ((rd_T31 x5 x10).f1)).bind fun t560 => (laws_FnOrder.j3 k x5 x6 x8 x10 (t558.toList != t560.toList)))) else (laws_FnOrder.j3 k x5 x6 x8 x10 true)) else (laws_FnOrder.j3 k x5 x6 x8 x10 true))) else (none)))) else (none)) else (none)) else ((impl_OrderOf.f k 2147483648 0 0 0).bind fun bt547 => (if bt547.2 = 0 then (some (bt547.1 == (-1))) else (some false)))
def laws_FnOrder.j3 : Nat → List (S31) → List (S31) → List (S31) → Int → Bool → Option (Bool)
 | 0,_,_,_,_,_ => none
 | k + 1,x5,x6,x8,x10,x122 => if x122 = true then (some false) else (if x10 = 0 then (laws_FnOrder.l0 k x5 x6 x8 (wrap64 (x10 + 1))) else (if 0 ≤ (wrap64 (x10 - 1)) then (if (wrap64 (x10 - 1)) < (x6.length : Int) then (if 0 ≤ x10 then (if x10 < (x6.length : Int) then ((impl_OrderOf.f k ((rd_T31 x6 (wrap64 (x10 - 1))).f0) ((rd_T31 x6 (wrap64 (x10 - 1))).f1) ((rd_T31 x6 x10).f0) ((rd_T31 x6 x10).f1)).bind fun bt563 => ((impl_OrderOf.f k ((rd_T31 x6 x10).f0) ((rd_T31 x6 x10).f1) ((rd_T31 x6 (wrap64 (x10 - 1))).f0) ((rd_T31 x6 (wrap64 (x10 - 1))).f1)).bind fun bt567 => ((impl_NegOf.f ((rd_T31 x6 (wrap64 (x10 - 1))).f0) ((rd_T31 x6 (wrap64 (x10 - 1))).f1)).bind fun bt570 => ((impl_NegOf.f ((rd_T31 x6 x10).f0) ((rd_T31 x6 x10).f1)).bind fun bt575 => ((impl_OrderOf.f k bt570.1 bt570.2.1 bt575.1 bt575.2.1).bind fun bt579 => ((impl_ClassOf.f ((rd_T31 x6 (wrap64 (x10 - 1))).f0) ((rd_T31 x6 (wrap64 (x10 - 1))).f1)).bind fun bt582 => (if bt563.2 = 0 then (if bt567.2 = 0 then (if bt570.2.2 = 0 then (if bt575.2.2 = 0 then (if bt579.2 = 0 then (if bt582.2 = 0 then (if bt563.1 > 0 then (some false) else (if bt563.1 = (wrap64 (-bt567.1)) then (if bt582.1 = 0 then (laws_FnOrder.l0 k x5 x6 x8 (wrap64 (x10 + 1))) else (if bt579.1 = bt567.1 then (laws_FnOrder.l0 k x5 x6 x8 (wrap64 (x10 + 1))) else (some false))) else (some false))) else (some false)) else (some false)) else (some false)) else (some false)) else (some false)) else (some false)))))))) else (none)) else (none)) else (none)) else (none)))
end
def laws_FnOrder.f (k : Nat) (l0 : List Int) (l1 : List Int) : Option (Bool):=if (l0.length : Int) > 1048576 then (laws_FnOrder.j0 k l0 l1 true) else (laws_FnOrder.j0 k l0 l1 (decide ((l1.length : Int) > 1048576)))
theorem laws_FnOrder.mono_l : ∀ k,(∀ y0 y1 y2,LeO (laws_FnOrder.j0 k y0 y1 y2) (laws_FnOrder.j0 (k + 1) y0 y1 y2)) ∧ (∀ y0 y1 y2 y3,LeO (laws_FnOrder.j1 k y0 y1 y2 y3) (laws_FnOrder.j1 (k + 1) y0 y1 y2 y3)) ∧ (∀ y0 y1 y2 y3,LeO (laws_FnOrder.l0 k y0 y1 y2 y3) (laws_FnOrder.l0 (k + 1) y0 y1 y2 y3)) ∧ (∀ y0 y1 y2 y3 y4,LeO (laws_FnOrder.j3 k y0 y1 y2 y3 y4) (laws_FnOrder.j3 (k + 1) y0 y1 y2 y3 y4))
 | 0 => ⟨fun _ _ _ r h => by simp [laws_FnOrder.j0] at h,fun _ _ _ _ r h => by simp [laws_FnOrder.j1] at h,fun _ _ _ _ r h => by simp [laws_FnOrder.l0] at h,fun _ _ _ _ _ r h => by simp [laws_FnOrder.j3] at h⟩
 | k + 1 => by
  obtain ⟨ih0,ih1,ih2,ih3⟩:=laws_FnOrder.mono_l k
  refine ⟨?_,?_,?_,?_⟩
  ·intro y0 y1 y2
   unfold laws_FnOrder.j0
   repeat' first
   | (with_reducible exact ih0 _ _ _)
   | (with_reducible exact ih1 _ _ _ _)
   | (with_reducible exact ih2 _ _ _ _)
   | (with_reducible exact ih3 _ _ _ _ _)
   | (with_reducible exact impl_OrderOf.mono ..)
   | (with_reducible exact impl_RateWord.mono ..)
   | (with_reducible exact impl_SortWords.mono ..)
   | (with_reducible exact spec_ClassOf.mono ..)
   | (with_reducible exact spec_RateWord.mono ..)
   | (with_reducible exact spec_SortWords.mono ..)
   | (with_reducible exact spec_WordsOf.mono ..)
   | (with_reducible exact LeO.refl _)
   | (with_reducible exact LeO.none _)
   | (with_reducible refine LeO.ite ?_ ?_)
   | (with_reducible refine LeO.bind ?_ (fun _ => ?_))
   | exact ih0 _ _ _
   | exact ih1 _ _ _ _
   | exact ih2 _ _ _ _
   | exact ih3 _ _ _ _ _
   | exact impl_OrderOf.mono ..
   | exact impl_RateWord.mono ..
   | exact impl_SortWords.mono ..
   | exact spec_ClassOf.mono ..
   | exact spec_RateWord.mono ..
   | exact spec_SortWords.mono ..
   | exact spec_WordsOf.mono ..
   | exact LeO.none _
   | refine LeO.ite ?_ ?_
   | refine LeO.bind ?_ (fun _ => ?_)
  ·intro y0 y1 y2 y3
   unfold laws_FnOrder.j1
   repeat' first
   | (with_reducible exact ih0 _ _ _)
   | (with_reducible exact ih1 _ _ _ _)
   | (with_reducible exact ih2 _ _ _ _)
   | (with_reducible exact ih3 _ _ _ _ _)
   | (with_reducible exact impl_OrderOf.mono ..)
   | (with_reducible exact impl_RateWord.mono ..)
   | (with_reducible exact impl_SortWords.mono ..)
   | (with_reducible exact spec_ClassOf.mono ..)
   | (with_reducible exact spec_RateWord.mono ..)
   | (with_reducible exact spec_SortWords.mono ..)
   | (with_reducible exact spec_WordsOf.mono ..)
   | (with_reducible exact LeO.refl _)
   | (with_reducible exact LeO.none _)
   | (with_reducible refine LeO.ite ?_ ?_)
   | (with_reducible refine LeO.bind ?_ (fun _ => ?_))
   | exact ih0 _ _ _
   | exact ih1 _ _ _ _
   | exact ih2 _ _ _ _
   | exact ih3 _ _ _ _ _
   | exact impl_OrderOf.mono ..
   | exact impl_RateWord.mono ..
   | exact impl_SortWords.mono ..
   | exact spec_ClassOf.mono ..
   | exact spec_RateWord.mono ..
   | exact spec_SortWords.mono ..
   | exact spec_WordsOf.mono ..
   | exact LeO.none _
   | refine LeO.ite ?_ ?_
   | refine LeO.bind ?_ (fun _ => ?_)
  ·intro y0 y1 y2 y3
   unfold laws_FnOrder.l0
   repeat' first
   | (with_reducible exact ih0 _ _ _)
   | (with_reducible exact ih1 _ _ _ _)
   | (with_reducible exact ih2 _ _ _ _)
   | (with_reducible exact ih3 _ _ _ _ _)
   | (with_reducible exact impl_OrderOf.mono ..)
   | (with_reducible exact impl_RateWord.mono ..)
   | (with_reducible exact impl_SortWords.mono ..)
   | (with_reducible exact spec_ClassOf.mono ..)
   | (with_reducible exact spec_RateWord.mono ..)
   | (with_reducible exact spec_SortWords.mono ..)
   | (with_reducible exact spec_WordsOf.mono ..)
   | (with_reducible exact LeO.refl _)
   | (with_reducible exact LeO.none _)
   | (with_reducible refine LeO.ite ?_ ?_)
   | (with_reducible refine LeO.bind ?_ (fun _ => ?_))
   | exact ih0 _ _ _
   | exact ih1 _ _ _ _
   | exact ih2 _ _ _ _
   | exact ih3 _ _ _ _ _
   | exact impl_OrderOf.mono ..
   | exact impl_RateWord.mono ..
   | exact impl_SortWords.mono ..
   | exact spec_ClassOf.mono ..
   | exact spec_RateWord.mono ..
   | exact spec_SortWords.mono ..
   | exact spec_WordsOf.mono ..
   | exact LeO.none _
   | refine LeO.ite ?_ ?_
   | refine LeO.bind ?_ (fun _ => ?_)
  ·intro y0 y1 y2 y3 y4
   unfold laws_FnOrder.j3
   repeat' first
   | (with_reducible exact ih0 _ _ _)
   | (with_reducible exact ih1 _ _ _ _)
   | (with_reducible exact ih2 _ _ _ _)
   | (with_reducible exact ih3 _ _ _ _ _)
   | (with_reducible exact impl_OrderOf.mono ..)
   | (with_reducible exact impl_RateWord.mono ..)
   | (with_reducible exact impl_SortWords.mono ..)
   | (with_reducible exact spec_ClassOf.mono ..)
   | (with_reducible exact spec_RateWord.mono ..)
   | (with_reducible exact spec_SortWords.mono ..)
   | (with_reducible exact spec_WordsOf.mono ..)
   | (with_reducible exact LeO.refl _)
   | (with_reducible exact LeO.none _)
   | (with_reducible refine LeO.ite ?_ ?_)
   | (with_reducible refine LeO.bind ?_ (fun _ => ?_))
   | exact ih0 _ _ _
   | exact ih1 _ _ _ _
   | exact ih2 _ _ _ _
   | exact ih3 _ _ _ _ _
   | exact impl_OrderOf.mono ..
   | exact impl_RateWord.mono ..
   | exact impl_SortWords.mono ..
   | exact spec_ClassOf.mono ..
   | exact spec_RateWord.mono ..
   | exact spec_SortWords.mono ..
   | exact spec_WordsOf.mono ..
   | exact LeO.none _
   | refine LeO.ite ?_ ?_
   | refine LeO.bind ?_ (fun _ => ?_)
theorem laws_FnOrder.mono : ∀ a0 a1 k,LeO (laws_FnOrder.f k a0 a1) (laws_FnOrder.f (k + 1) a0 a1):=by
 intro a0 a1 k
 obtain ⟨ih0,ih1,ih2,ih3⟩:=laws_FnOrder.mono_l k
 unfold laws_FnOrder.f
 repeat' first
   | (with_reducible exact ih0 _ _ _)
   | (with_reducible exact ih1 _ _ _ _)
   | (with_reducible exact ih2 _ _ _ _)
   | (with_reducible exact ih3 _ _ _ _ _)
   | (with_reducible exact impl_OrderOf.mono ..)
   | (with_reducible exact impl_RateWord.mono ..)
   | (with_reducible exact impl_SortWords.mono ..)
   | (with_reducible exact spec_ClassOf.mono ..)
   | (with_reducible exact spec_RateWord.mono ..)
   | (with_reducible exact spec_SortWords.mono ..)
   | (with_reducible exact spec_WordsOf.mono ..)
   | (with_reducible exact LeO.refl _)
   | (with_reducible exact LeO.none _)
   | (with_reducible refine LeO.ite ?_ ?_)
   | (with_reducible refine LeO.bind ?_ (fun _ => ?_))
   | exact ih0 _ _ _
   | exact ih1 _ _ _ _
   | exact ih2 _ _ _ _
   | exact ih3 _ _ _ _ _
   | exact impl_OrderOf.mono ..
   | exact impl_RateWord.mono ..
   | exact impl_SortWords.mono ..
   | exact spec_ClassOf.mono ..
   | exact spec_RateWord.mono ..
   | exact spec_SortWords.mono ..
   | exact spec_WordsOf.mono ..
   | exact LeO.none _
   | refine LeO.ite ?_ ?_
   | refine LeO.bind ?_ (fun _ => ?_)
def laws_FnOrder.T13 : Bool × List (List Nat × List Nat):=(true,[([],[]),([],[]),([0,1],[0,1]),([2],[2]),([],[]),([],[]),([4,5],[4,5]),([6],[6]),([3,7],[3,7]),([8],[8]),([9],[9]),([10,9],[9,10]),([9,11],[9,11]),([12,9],[12]),([13],[13]),([13],[13]),([14,15,13],[13,14,15]),([13,16],[13,16]),([17,13],[17]),([18],[18]),([18],[18]),([19,20,18],[18,19,20]),([21,18],[18,21]),([22,18,18],[18,22]),([18],[18]),([18],[18]),([24,25,18],[18,24,25]),([26,18],[18,26]),([27,23,18],[18,27]),([23,28,18],[18,23,28]),([18,29],[18,29])])
def laws_FnOrder.B13 : List Nat:=[0,0,3,7,0,0,48,112,255,511,1023,2047,4095,8191,16383,16383,65535,131071,262143,524287,524287,2097151,4194303,8388607,524287,524287,50855935,117964799,268435455,536870911,1073741823]
theorem laws_FnOrder.tab13 : rtab .any (opsOf Try.f8 13) = laws_FnOrder.T13:=by kernel_rfl
theorem laws_FnOrder.bits13 : waitsOk laws_FnOrder.T13.2 laws_FnOrder.B13 = true:=by kernel_rfl
def laws_FnOrder.T16 : Bool × List (List Nat × List Nat):=(true,[([],[]),([],[]),([1],[1]),([0,2],[0,2]),([3],[3]),([],[]),([],[]),([5,6],[5,6]),([7],[7]),([4,8],[4,8]),([9],[9]),([10],[10]),([10],[10]),([11,9,0,1,2,3,4,5,6,7,8,9,10,11],[11]),([12,13,0,1,2,3,4,5,6,7,8,9,10,11,12,13],[12])])
def laws_FnOrder.B16 : List Nat:=[0,0,2,7,15,0,0,96,224,511,1023,2047,2047,4095,16383]
theorem laws_FnOrder.tab16 : rtab .any (opsOf Try.f8 16) = laws_FnOrder.T16:=by kernel_rfl
theorem laws_FnOrder.bits16 : waitsOk laws_FnOrder.T16.2 laws_FnOrder.B16 = true:=by kernel_rfl
def laws_FnOrder.T17 : Bool × List (List Nat × List Nat):=(true,[([],[]),([],[]),([0,1],[0,1]),([2],[2]),([],[]),([],[]),([5],[5]),([4,6],[4,6]),([7],[7]),([3,8],[3,8]),([9],[9]),([10],[10]),([10],[10]),([11,9,0,1,2,3,4,5,6,7,8,9,10,11],[11]),([12,13,0,1,2,3,4,5,6,7,8,9,10,11,12,13],[12])])
def laws_FnOrder.B17 : List Nat:=[0,0,3,7,0,0,32,112,240,511,1023,2047,2047,4095,16383]
theorem laws_FnOrder.tab17 : rtab .any (opsOf Try.f8 17) = laws_FnOrder.T17:=by kernel_rfl
theorem laws_FnOrder.bits17 : waitsOk laws_FnOrder.T17.2 laws_FnOrder.B17 = true:=by kernel_rfl
set_option maxHeartbeats 8000000 in
set_option maxRecDepth 100000 in
theorem laws_FnOrder.calls (k : Nat) (A0 : Option Addr) (c0 : Nat) (l0 : List Int) (A1 : Option Addr) (c1 : Nat) (l1 : List Int) (r : Bool) (w : World) (hr0 : Kd.C (Kd.int .u8) w A0 l0.length l0) (hc0 : l0.length ≤ c0) (hr1 : Kd.C (Kd.int .u8) w A1 l1.length l1) (hc1 : l1.length ≤ c1) (h : laws_FnOrder.f k l0 l1 = some r) (hr_ : r = true) :
  Calls Try.prog 8 #[.slice A0 l0.length c0,.slice A1 l1.length c1] w fun e w' => e = .returned (.bool r) ∧ Below w.heap.size w w':=by
 have HRT_:=aMk hr_
 clear hr_
 have hu31:=Try.underlying31
 have HR0:=aMk hr0
 have HC0:=aMk hc0
 clear hr0 hc0
 have HR1:=aMk hr1
 have HC1:=aMk hc1
 clear hr1 hc1
 have HB:=aMk (Below.refl w.heap.size w)
 have H : (if (l0.length : Int) > 1048576 then (laws_FnOrder.j0 k l0 l1 true) else (laws_FnOrder.j0 k l0 l1 (decide ((l1.length : Int) > 1048576)))) = some r:=h
 clear h
 have HC3:=aMk H
 clear H
 go_enter Try.func8,Try.ntmps8
 go_upto_region 1 with (fail)
 go_cut [36] (fun v36 wc => ∃ (kq : Nat) (x36_2 : Bool),v36 = .bool x36_2 ∧ Aside0 (laws_FnOrder.j0 kq l0 l1 x36_2 = some r) ∧ Aside0 (kq ≤ k) ∧ Aside0 (Below w.heap.size w wc))
 case first =>
  have H:=HC3.out
  clear HC3
  by_cases c4 : (l0.length : Int) > 1048576
  ·rw [if_pos c4] at H
   have c4b0 : decide (1048576 < (l0.length : Int)) = true:=decide_eq_true c4
   have c4b1 : decide (1048576 < l0.length) = true:=decide_eq_true (by omega)
   clear c4
   (first|rw [c4b0]|(simp only [i64_w,i32_w];rw [c4b0]) | skip)
   have H':=aMk H
   clear H
   go_wp2
   go_meet
   case rel => exact ⟨_,(true),(by first | rfl|(simp;done)|(simp [*];done)|(simp [ne_nil_b];done)|(simp [ne_nil_b, *];done)),H',⟨by first | omega|exact Nat.le_refl _⟩,⟨by repeat (first|(with_reducible first|exact HB.out|apply bwA|apply bwN|apply bw1)|exact HB.out)⟩⟩
  ·rw [if_neg c4] at H
   have c4b0 : decide (1048576 < (l0.length : Int)) = false:=decide_eq_false c4
   have c4b1 : decide (1048576 < l0.length) = false:=decide_eq_false (by omega)
   clear c4
   (first|rw [c4b0]|(simp only [i64_w,i32_w];rw [c4b0]) | skip)
   have H':=aMk H
   clear H
   go_wp2
   go_meet
   case rel => exact ⟨_,(decide ((l1.length : Int) > 1048576)),(by first | rfl|(simp;done)|(simp [*];done)|(simp [ne_nil_b];done)|(simp [ne_nil_b, *];done)),H',⟨by first | omega|exact Nat.le_refl _⟩,⟨by repeat (first|(with_reducible first|exact HB.out|apply bwA|apply bwN|apply bw1)|exact HB.out)⟩⟩
 case rest =>
  as_aux_lemma =>
   clear HC3
   try clear c1
   try clear p2
   try clear c4
   try clear c4b0
   try clear c4b1
   obtain ⟨kq,x36_2,rfl,HA,HJ2,HB⟩:=hcut
   cases kq with
   | zero => exact absurd HA.out (by simp [laws_FnOrder.j0])
   | succ kj2 =>
    have H:=HA.out
    clear HA
    simp only [laws_FnOrder.j0] at H
    by_cases c5 : x36_2 = true
    ·subst c5
     have H1 : (some true) = some r:=by rw [if_pos rfl] at H;exact H
     clear H
     have H:=H1
     clear H1
     obtain rfl:=Option.some.inj H
     go_wp2
     go_ret
     exact ⟨eRf,by repeat (first|(with_reducible first|exact HB.out|apply bwA|apply bwN|apply bw1)|exact HB.out)⟩
    ·replace c5:=Bool.eq_false_iff.mpr c5
     subst c5
     have H1 : ((some (([] : List (S31)) : List (S31))).bind fun y524 => ((spec_WordsOf.f kj2 l0).bind fun t527 => (if y524.length + t527.length < 8796093022208 then ((some (y524 ++ t527 : List (S31))).bind fun y530 => ((spec_WordsOf.f kj2 l1).bind fun t533 => (if y530.length + t533.length < 8796093022208 then ((some (y530 ++ t533 : List (S31))).bind fun y536 => ((impl_SortWords.f kj2 y536).bind fun bt539 => ((spec_SortWords.f kj2 y536).bind fun bt543 => (if bt539.2 = 0 then (if (bt539.1.length : Int) = (y536.length : Int) then (laws_FnOrder.j1 kj2 y536 bt539.1 bt543.1 ((bt543.1.length : Int) != (y536.length : Int))) else (laws_FnOrder.j1 kj2 y536 bt539.1 bt543.1 true)) else (laws_FnOrder.j1 kj2 y536 bt539.1 bt543.1 true))))) else (none)))) else (none)))) = some r:=by rw [if_neg (show ¬ (false = true) by decide)] at H;exact H
     clear H
     have H:=H1
     clear H1
     obtain ⟨y524,hy524⟩ : ∃ y_ : List (S31),y_ = (([] : List (S31))):=⟨_,rfl⟩
     replace H : ((spec_WordsOf.f kj2 l0).bind fun t527 => (if y524.length + t527.length < 8796093022208 then ((some (y524 ++ t527 : List (S31))).bind fun y530 => ((spec_WordsOf.f kj2 l1).bind fun t533 => (if y530.length + t533.length < 8796093022208 then ((some (y530 ++ t533 : List (S31))).bind fun y536 => ((impl_SortWords.f kj2 y536).bind fun bt539 => ((spec_SortWords.f kj2 y536).bind fun bt543 => (if bt539.2 = 0 then (if (bt539.1.length : Int) = (y536.length : Int) then (laws_FnOrder.j1 kj2 y536 bt539.1 bt543.1 ((bt543.1.length : Int) != (y536.length : Int))) else (laws_FnOrder.j1 kj2 y536 bt539.1 bt543.1 true)) else (laws_FnOrder.j1 kj2 y536 bt539.1 bt543.1 true))))) else (none)))) else (none))) = some r:=by first|(rw [hy524];with_reducible exact H)|(have H2_:=(Option.bind_some _ _).symm.trans H;rw [hy524];with_reducible exact H2_)|(have H2_:=(Option.bind_some _ _).symm.trans H;with_reducible exact H2_) | with_reducible exact H|(rw [hy524];exact H)|exact H
     have Ny524:=aMk hy524
     clear hy524
     replace H:=Option.bind_eq_some_iff.mp H
     obtain ⟨t527,A60,H⟩:=H
     replace H : (if y524.length + t527.length < 8796093022208 then ((some (y524 ++ t527 : List (S31))).bind fun y530 => ((spec_WordsOf.f kj2 l1).bind fun t533 => (if y530.length + t533.length < 8796093022208 then ((some (y530 ++ t533 : List (S31))).bind fun y536 => ((impl_SortWords.f kj2 y536).bind fun bt539 => ((spec_SortWords.f kj2 y536).bind fun bt543 => (if bt539.2 = 0 then (if (bt539.1.length : Int) = (y536.length : Int) then (laws_FnOrder.j1 kj2 y536 bt539.1 bt543.1 ((bt543.1.length : Int) != (y536.length : Int))) else (laws_FnOrder.j1 kj2 y536 bt539.1 bt543.1 true)) else (laws_FnOrder.j1 kj2 y536 bt539.1 bt543.1 true))))) else (none)))) else (none)) = some r:=H
     have A6:=aMk A60
     clear A60
     by_cases c7 : y524.length + t527.length < 8796093022208
     ·rw [if_pos c7] at H
      have LMc7:=aMk c7
      clear c7
      obtain ⟨y530,hy530⟩ : ∃ y_ : List (S31),y_ = (y524 ++ t527):=⟨_,rfl⟩
      replace H : ((spec_WordsOf.f kj2 l1).bind fun t533 => (if y530.length + t533.length < 8796093022208 then ((some (y530 ++ t533 : List (S31))).bind fun y536 => ((impl_SortWords.f kj2 y536).bind fun bt539 => ((spec_SortWords.f kj2 y536).bind fun bt543 => (if bt539.2 = 0 then (if (bt539.1.length : Int) = (y536.length : Int) then (laws_FnOrder.j1 kj2 y536 bt539.1 bt543.1 ((bt543.1.length : Int) != (y536.length : Int))) else (laws_FnOrder.j1 kj2 y536 bt539.1 bt543.1 true)) else (laws_FnOrder.j1 kj2 y536 bt539.1 bt543.1 true))))) else (none))) = some r:=by first|(rw [hy530];with_reducible exact H)|(have H2_:=(Option.bind_some _ _).symm.trans H;rw [hy530];with_reducible exact H2_)|(have H2_:=(Option.bind_some _ _).symm.trans H;with_reducible exact H2_) | with_reducible exact H|(rw [hy530];exact H)|exact H
      have Ny530:=aMk hy530
      clear hy530
      replace H:=Option.bind_eq_some_iff.mp H
      obtain ⟨t533,A80,H⟩:=H
      replace H : (if y530.length + t533.length < 8796093022208 then ((some (y530 ++ t533 : List (S31))).bind fun y536 => ((impl_SortWords.f kj2 y536).bind fun bt539 => ((spec_SortWords.f kj2 y536).bind fun bt543 => (if bt539.2 = 0 then (if (bt539.1.length : Int) = (y536.length : Int) then (laws_FnOrder.j1 kj2 y536 bt539.1 bt543.1 ((bt543.1.length : Int) != (y536.length : Int))) else (laws_FnOrder.j1 kj2 y536 bt539.1 bt543.1 true)) else (laws_FnOrder.j1 kj2 y536 bt539.1 bt543.1 true))))) else (none)) = some r:=H
      have A8:=aMk A80
      clear A80
      by_cases c9 : y530.length + t533.length < 8796093022208
      ·rw [if_pos c9] at H
       have LMc9:=aMk c9
       clear c9
       obtain ⟨y536,hy536⟩ : ∃ y_ : List (S31),y_ = (y530 ++ t533):=⟨_,rfl⟩
       replace H : ((impl_SortWords.f kj2 y536).bind fun bt539 => ((spec_SortWords.f kj2 y536).bind fun bt543 => (if bt539.2 = 0 then (if (bt539.1.length : Int) = (y536.length : Int) then (laws_FnOrder.j1 kj2 y536 bt539.1 bt543.1 ((bt543.1.length : Int) != (y536.length : Int))) else (laws_FnOrder.j1 kj2 y536 bt539.1 bt543.1 true)) else (laws_FnOrder.j1 kj2 y536 bt539.1 bt543.1 true)))) = some r:=by first|(rw [hy536];with_reducible exact H)|(have H2_:=(Option.bind_some _ _).symm.trans H;rw [hy536];with_reducible exact H2_)|(have H2_:=(Option.bind_some _ _).symm.trans H;with_reducible exact H2_) | with_reducible exact H|(rw [hy536];exact H)|exact H
       have Ny536:=aMk hy536
       clear hy536
       replace H:=Option.bind_eq_some_iff.mp H
       obtain ⟨⟨t539,t540⟩,A100,H⟩:=H
       replace H : ((spec_SortWords.f kj2 y536).bind fun bt543 => (if t540 = 0 then (if (t539.length : Int) = (y536.length : Int) then (laws_FnOrder.j1 kj2 y536 t539 bt543.1 ((bt543.1.length : Int) != (y536.length : Int))) else (laws_FnOrder.j1 kj2 y536 t539 bt543.1 true)) else (laws_FnOrder.j1 kj2 y536 t539 bt543.1 true))) = some r:=H
       have A10:=aMk A100
       clear A100
       replace H:=Option.bind_eq_some_iff.mp H
       obtain ⟨⟨t543,t544⟩,A110,H⟩:=H
       replace H : (if t540 = 0 then (if (t539.length : Int) = (y536.length : Int) then (laws_FnOrder.j1 kj2 y536 t539 t543 ((t543.length : Int) != (y536.length : Int))) else (laws_FnOrder.j1 kj2 y536 t539 t543 true)) else (laws_FnOrder.j1 kj2 y536 t539 t543 true)) = some r:=H
       have A11:=aMk A110
       clear A110
       have HC12:=aMk H
       clear H
       go_upto_region 6 with (first|((with_reducible refine gate_dst (N:=37) rfl ?_);(try (refine gate_guard (by rfl) ?_;dsimp only));refine Kd.R_lit k31 _ 31 ?hg (N:=37) ?hd (xs:=([] : List (S31))) (inner:=[]) (ok:=fun _ => True) (okp:=fun _ => True) ?hr ?hp (fun _ hk => hk) trivial (Below.refl _ _) (Nat.le_refl _) (by simp) ?_;(case hd => rfl);(case hg => rfl);(case hr => first|(go_simp;done)|(go_simp;rfl));(case hp => exact (Reps.none _ _));intro v525 w13 ho14 hb hg_ hnew_;clear hg_ hnew_;(first|rw [← Ny524.out] at ho14|(simp only [Int.reduceToNat] at ho14;rw [← Ny524.out] at ho14));have n0_:=aMk (Kd.R_lower ho14 bSz);have n1_:=aMk (bSt hb);clear HB;have HO526:=n0_;have HB:=n1_;clear n0_ n1_;clear hb ho14)|((with_reducible refine gate_callee (f:=31) rfl ?_);refine gLs 39 Try.func31 #[.slice A0 l0.length c0] ?_;(with_reducible refine (spec_WordsOf.calls kj2 _ _ l0 t527 _ ?side1 ?side2 A6.out).mono ?_);(case side1 => repeat (first|exact (Kd.C_below HR0.out HB.out)|(with_reducible refine Kd.C_alloc ?_ _)|(with_reducible refine Kd.C_drewN ?_ _)|(with_reducible refine Kd.C_drew ?_)));(case side2 => exact HC0.out);rintro e w15 ⟨v528,rfl,ho0,hb⟩;refine ⟨_,rfl,?_⟩;have n0_:=aMk (Kd.R_elder' (by (with_reducible repeat (first|apply Kd.R_alloc|apply Kd.R_drewN|apply Kd.R_drew));exact HO526.out) (Kd.R_base ho0) hb);have n1_:=aMk (Kd.R_lower (Kd.R_new' ho0 (Kd.R_lt (by (with_reducible repeat (first|apply Kd.R_alloc|apply Kd.R_drewN|apply Kd.R_drew));exact HO526.out))) bSz);have n2_:=aMk (bSt hb);clear HO526;clear HB;have HO526:=n0_;have HO529:=n1_;have HB:=n2_;clear n0_ n1_ n2_;(try clear hb);(try clear hb2);(try clear hk);(try clear hi);(try clear ho0);obtain ⟨Ao17,co17,eo17⟩:=Kd.R_slice HO529.out;subst eo17)|((with_reducible refine gate_builtin (b:=.append) (xs:=#[.tmp 37,.tmp 39]) rfl ?_);(try (refine gate_guard (by rfl) ?_;dsimp only));at_builtin;refine Kd.R_append_rows k31 (w0:=w) w.heap.size rfl (.tmp 37) (.tmp 39) 47 31 (.agg #[(.int .i64 0),(.int .i64 0)]) 16 rfl Try.underlying47 info31 rfl (by decide) (by omega) v525 y524 t527 _ _ _ (fun k_ => some k_ ≠ (.slice Ao17 t527.length co17 : Value).ownBlock) (fun _ => False) rfl rfl ?aO ?aR (fun _ _ h => h) (fun _ h => h.elim) ?aF ?aB ?aS ?aL ?_;(case aR => repeat (first|exact (Kd.R_reads' HO529.out).2.2|(with_reducible refine Kd.C_alloc ?_ _)|(with_reducible refine Kd.C_drewN ?_ _)|(with_reducible refine Kd.C_drew ?_)));(case aB => exact (by repeat first|exact HB.out|apply bwA|apply bwN|apply bw1));(case aF => exact (fun k_ hk => Kd.fresh' (Kd.R_lt (by (with_reducible repeat (first|apply Kd.R_alloc|apply Kd.R_drewN|apply Kd.R_drew));exact HO529.out)) k_ hk));(case aO => exact (by (with_reducible repeat (first|apply Kd.R_alloc|apply Kd.R_drewN|apply Kd.R_drew));exact Kd.R_mono HO526.out (fun _ hk => hk.2)));(case aS => exact bSz);(case aL => have:=LMc7.out;omega);intro v531 w16 ho hb hg hat;rw [← Ny530.out] at ho;have n0_:=aMk (Kd.R_after (ok:=(fun _ => True)) (by (with_reducible repeat (first|apply Kd.R_alloc|apply Kd.R_drewN|apply Kd.R_drew));exact HO529.out) hg hat);have n1_:=aMk (hb);have n2_:=aMk (ho);clear HO529;clear HB;clear HO526;have HO529:=n0_;have HB:=n1_;have HO532:=n2_;clear n0_ n1_ n2_;clear ho hb hg hat)|((with_reducible refine gate_callee (f:=31) rfl ?_);refine gLs 42 Try.func31 #[.slice A1 l1.length c1] ?_;(with_reducible refine (spec_WordsOf.calls kj2 _ _ l1 t533 _ ?side1 ?side2 A8.out).mono ?_);(case side1 => repeat (first|exact (Kd.C_below HR1.out HB.out)|(with_reducible refine Kd.C_alloc ?_ _)|(with_reducible refine Kd.C_drewN ?_ _)|(with_reducible refine Kd.C_drew ?_)));(case side2 => exact HC1.out);rintro e w18 ⟨v534,rfl,ho0,hb⟩;refine ⟨_,rfl,?_⟩;have n0_:=aMk (Kd.R_elder' (by (with_reducible repeat (first|apply Kd.R_alloc|apply Kd.R_drewN|apply Kd.R_drew));exact HO529.out) (Kd.R_base ho0) hb);have n1_:=aMk (Kd.R_elder' (by (with_reducible repeat (first|apply Kd.R_alloc|apply Kd.R_drewN|apply Kd.R_drew));exact HO532.out) (Kd.R_base ho0) hb);have n2_:=aMk (Kd.R_lower (Kd.R_new' (Kd.R_new' ho0 (Kd.R_lt (by (with_reducible repeat (first|apply Kd.R_alloc|apply Kd.R_drewN|apply Kd.R_drew));exact HO529.out))) (Kd.R_lt (by (with_reducible repeat (first|apply Kd.R_alloc|apply Kd.R_drewN|apply Kd.R_drew));exact HO532.out))) bSz);have n3_:=aMk (bSt hb);clear HO529;clear HO532;clear HB;have HO529:=n0_;have HO532:=n1_;have HO535:=n2_;have HB:=n3_;clear n0_ n1_ n2_ n3_;(try clear hb);(try clear hb2);(try clear hk);(try clear hi);(try clear ho0);obtain ⟨Ao20,co20,eo20⟩:=Kd.R_slice HO535.out;subst eo20)|((with_reducible refine gate_builtin (b:=.append) (xs:=#[.tmp 40,.tmp 42]) rfl ?_);(try (refine gate_guard (by rfl) ?_;dsimp only));at_builtin;refine Kd.R_append_rows k31 (w0:=w) w.heap.size rfl (.tmp 40) (.tmp 42) 47 31 (.agg #[(.int .i64 0),(.int .i64 0)]) 16 rfl Try.underlying47 info31 rfl (by decide) (by omega) v531 y530 t533 _ _ _ (fun k_ => some k_ ≠ (.slice Ao17 t527.length co17 : Value).ownBlock ∧ some k_ ≠ (.slice Ao20 t533.length co20 : Value).ownBlock) (fun _ => False) rfl rfl ?aO ?aR (fun _ _ h => h) (fun _ h => h.elim) ?aF ?aB ?aS ?aL ?_;(case aR => repeat (first|exact (Kd.R_reads' HO535.out).2.2|(with_reducible refine Kd.C_alloc ?_ _)|(with_reducible refine Kd.C_drewN ?_ _)|(with_reducible refine Kd.C_drew ?_)));(case aB => exact (by repeat first|exact HB.out|apply bwA|apply bwN|apply bw1));(case aF => exact (fun k_ hk => ⟨Kd.fresh' (Kd.R_lt (by (with_reducible repeat (first|apply Kd.R_alloc|apply Kd.R_drewN|apply Kd.R_drew));exact HO529.out)) k_ hk,Kd.fresh' (Kd.R_lt (by (with_reducible repeat (first|apply Kd.R_alloc|apply Kd.R_drewN|apply Kd.R_drew));exact HO535.out)) k_ hk⟩));(case aO => exact (by (with_reducible repeat (first|apply Kd.R_alloc|apply Kd.R_drewN|apply Kd.R_drew));exact HO532.out));(case aS => exact bSz);(case aL => have:=LMc9.out;omega);intro v537 w19 ho hb hg hat;rw [← Ny536.out] at ho;have n0_:=aMk (Kd.R_after (ok:=(fun k_ => some k_ ≠ (.slice Ao20 t533.length co20 : Value).ownBlock)) (by (with_reducible repeat (first|apply Kd.R_alloc|apply Kd.R_drewN|apply Kd.R_drew));exact Kd.R_mono HO529.out (fun _ hk => ⟨hk.2,hk.1.2⟩)) hg hat);have n1_:=aMk (Kd.R_after (ok:=(fun k_ => some k_ ≠ (.slice Ao17 t527.length co17 : Value).ownBlock)) (by (with_reducible repeat (first|apply Kd.R_alloc|apply Kd.R_drewN|apply Kd.R_drew));exact Kd.R_mono HO535.out (fun _ hk => ⟨hk.1.2,hk.2⟩)) hg hat);have n2_:=aMk (hb);have n3_:=aMk (ho);clear HO529;clear HO535;clear HB;clear HO532;have HO529:=n0_;have HO535:=n1_;have HB:=n2_;have HO538:=n3_;clear n0_ n1_ n2_ n3_;clear ho hb hg hat;obtain ⟨Ao21,co21,eo21⟩:=Kd.R_slice HO538.out;subst eo21)|((with_reducible refine gate_callee (f:=27) rfl ?_);refine gLs 46 Try.func27 #[.slice Ao21 y536.length co21] ?_;(with_reducible refine (impl_SortWords.calls kj2 _ _ y536 t539 t540 _ ?side1 ?side2 A10.out).mono ?_);(case side1 => repeat (first|exact (Kd.R_reads' HO538.out).2.2|(with_reducible refine Kd.C_alloc ?_ _)|(with_reducible refine Kd.C_drewN ?_ _)|(with_reducible refine Kd.C_drew ?_)));(case side2 => exact (Kd.R_reads' HO538.out).2.1);rintro e w22 ⟨v541,rfl,ho0,hb⟩;refine ⟨_,rfl,?_⟩;have n0_:=aMk (Kd.R_elder' (by (with_reducible repeat (first|apply Kd.R_alloc|apply Kd.R_drewN|apply Kd.R_drew));exact HO529.out) (Kd.R_base ho0) hb);have n1_:=aMk (Kd.R_elder' (by (with_reducible repeat (first|apply Kd.R_alloc|apply Kd.R_drewN|apply Kd.R_drew));exact HO535.out) (Kd.R_base ho0) hb);have n2_:=aMk (Kd.R_elder' (by (with_reducible repeat (first|apply Kd.R_alloc|apply Kd.R_drewN|apply Kd.R_drew));exact HO538.out) (Kd.R_base ho0) hb);have n3_:=aMk (Kd.R_lower (Kd.R_new' (Kd.R_new' (Kd.R_new' ho0 (Kd.R_lt (by (with_reducible repeat (first|apply Kd.R_alloc|apply Kd.R_drewN|apply Kd.R_drew));exact HO529.out))) (Kd.R_lt (by (with_reducible repeat (first|apply Kd.R_alloc|apply Kd.R_drewN|apply Kd.R_drew));exact HO535.out))) (Kd.R_lt (by (with_reducible repeat (first|apply Kd.R_alloc|apply Kd.R_drewN|apply Kd.R_drew));exact HO538.out))) bSz);have n4_:=aMk (bSt hb);clear HO529;clear HO535;clear HO538;clear HB;have HO529:=n0_;have HO535:=n1_;have HO538:=n2_;have HO542:=n3_;have HB:=n4_;clear n0_ n1_ n2_ n3_ n4_;(try clear hb);(try clear hb2);(try clear hk);(try clear hi);(try clear ho0))|((with_reducible refine gate_callee (f:=25) rfl ?_);refine gLs 51 Try.func25 #[.slice Ao21 y536.length co21] ?_;(with_reducible refine (spec_SortWords.calls kj2 _ _ y536 t543 t544 _ ?side1 ?side2 A11.out).mono ?_);(case side1 => repeat (first|exact (Kd.R_reads' HO538.out).2.2|(with_reducible refine Kd.C_alloc ?_ _)|(with_reducible refine Kd.C_drewN ?_ _)|(with_reducible refine Kd.C_drew ?_)));(case side2 => exact (Kd.R_reads' HO538.out).2.1);rintro e w23 ⟨v545,rfl,ho0,hb⟩;refine ⟨_,rfl,?_⟩;have n0_:=aMk (Kd.R_elder' (by (with_reducible repeat (first|apply Kd.R_alloc|apply Kd.R_drewN|apply Kd.R_drew));exact HO529.out) (Kd.R_base ho0) hb);have n1_:=aMk (Kd.R_elder' (by (with_reducible repeat (first|apply Kd.R_alloc|apply Kd.R_drewN|apply Kd.R_drew));exact HO535.out) (Kd.R_base ho0) hb);have n2_:=aMk (Kd.R_elder' (by (with_reducible repeat (first|apply Kd.R_alloc|apply Kd.R_drewN|apply Kd.R_drew));exact HO538.out) (Kd.R_base ho0) hb);have n3_:=aMk (Kd.R_elder' (by (with_reducible repeat (first|apply Kd.R_alloc|apply Kd.R_drewN|apply Kd.R_drew));exact HO542.out) (Kd.R_base ho0) hb);have n4_:=aMk (Kd.R_lower (Kd.R_new' (Kd.R_new' (Kd.R_new' (Kd.R_new' ho0 (Kd.R_lt (by (with_reducible repeat (first|apply Kd.R_alloc|apply Kd.R_drewN|apply Kd.R_drew));exact HO529.out))) (Kd.R_lt (by (with_reducible repeat (first|apply Kd.R_alloc|apply Kd.R_drewN|apply Kd.R_drew));exact HO535.out))) (Kd.R_lt (by (with_reducible repeat (first|apply Kd.R_alloc|apply Kd.R_drewN|apply Kd.R_drew));exact HO538.out))) (Kd.R_lt (by (with_reducible repeat (first|apply Kd.R_alloc|apply Kd.R_drewN|apply Kd.R_drew));exact HO542.out))) bSz);have n5_:=aMk (bSt hb);clear HO529;clear HO535;clear HO538;clear HO542;clear HB;have HO529:=n0_;have HO535:=n1_;have HO538:=n2_;have HO542:=n3_;have HO546:=n4_;have HB:=n5_;clear n0_ n1_ n2_ n3_ n4_ n5_;(try clear hb);(try clear hb2);(try clear hk);(try clear hi);(try clear ho0)))
       (try simp only [Act.put,List.setIfInBounds_toArray,List.set_cons_zero,List.set_cons_succ])
       go_cut [69] (fun v69 wc => ∃ (kq : Nat) (x69_11 : Bool),v69 = .bool x69_11 ∧ Aside0 (laws_FnOrder.j1 kq y536 t539 t543 x69_11 = some r) ∧ Aside0 (kq ≤ kj2) ∧ Aside0 (Kd.R k31 31 wc w.heap.size (fun k_ => some k_ ≠ (v541 : Value).ownBlock ∧ some k_ ≠ (v545 : Value).ownBlock) (.slice Ao21 y536.length co21) y536) ∧ Aside0 (Kd.R k31 31 wc w.heap.size (fun k_ => some k_ ≠ ((.slice Ao21 y536.length co21) : Value).ownBlock ∧ some k_ ≠ (v545 : Value).ownBlock) v541 t539) ∧ Aside0 (Kd.R k31 31 wc w.heap.size (fun k_ => some k_ ≠ ((.slice Ao21 y536.length co21) : Value).ownBlock ∧ some k_ ≠ (v541 : Value).ownBlock) v545 t543) ∧ Aside0 (Below w.heap.size w wc))
       case first =>
        have H:=HC12.out
        clear HC12
        by_cases c24 : t540 = 0
        ·rw [if_pos c24] at H
         have c24b0 : (t540 == 0) = true:=beq_iff_eq.mpr c24
         have c24b1 : (t540 != 0) = false:=bne_eq_false_iff_eq.mpr c24
         clear c24
         (first|rw [c24b0]|(simp only [i64_w,i32_w];rw [c24b0]) | skip)
         by_cases c25 : (t539.length : Int) = (y536.length : Int)
         ·rw [if_pos c25] at H
          have c25b0 : ((t539.length : Int) == (y536.length : Int)) = true:=beq_iff_eq.mpr c25
          have c25b1 : ((t539.length : Int) != (y536.length : Int)) = false:=bne_eq_false_iff_eq.mpr c25
          have c25b2 : (t539.length == y536.length) = true:=by first | simpa using c25|(simp at c25 ⊢;omega)
          clear c25
          have H':=aMk H
          clear H
          obtain ⟨Ao26,co26,eo26⟩:=Kd.R_slice HO542.out
          subst eo26
          obtain ⟨Ao27,co27,eo27⟩:=Kd.R_slice HO546.out
          subst eo27
          go_wp2
          go_meet
          case rel => exact ⟨_,(((t543.length : Int) != (y536.length : Int))),(by first | rfl|(simp;done)|(simp [*];done)|(simp [ne_nil_b];done)|(simp [ne_nil_b, *];done)),H',⟨by have:=HJ2.out;first | omega|exact Nat.le_refl _⟩,⟨by (with_reducible repeat (first|apply Kd.R_alloc|apply Kd.R_drewN|apply Kd.R_drew));exact Kd.R_mono HO538.out (fun _ hk => ⟨hk.1.2,hk.2⟩)⟩,⟨by (with_reducible repeat (first|apply Kd.R_alloc|apply Kd.R_drewN|apply Kd.R_drew));exact Kd.R_mono HO542.out (fun _ hk => ⟨hk.1.2,hk.2⟩)⟩,⟨by (with_reducible repeat (first|apply Kd.R_alloc|apply Kd.R_drewN|apply Kd.R_drew));exact Kd.R_mono HO546.out (fun _ hk => ⟨hk.1.2,hk.2⟩)⟩,⟨by repeat (first|(with_reducible first|exact HB.out|apply bwA|apply bwN|apply bw1)|exact HB.out)⟩⟩
         ·rw [if_neg c25] at H
          have c25b0 : ((t539.length : Int) == (y536.length : Int)) = false:=beq_eq_false_iff_ne.mpr c25
          have c25b1 : ((t539.length : Int) != (y536.length : Int)) = true:=bne_iff_ne.mpr c25
          have c25b2 : (t539.length == y536.length) = false:=by first | simpa using c25|(simp at c25 ⊢;omega)
          have H':=aMk H
          clear H
          obtain ⟨Ao28,co28,eo28⟩:=Kd.R_slice HO542.out
          subst eo28
          go_wp2
          go_meet
          case rel => exact ⟨_,(true),(by first | rfl|(simp;done)|(simp [*];done)|(simp [ne_nil_b];done)|(simp [ne_nil_b, *];done)),H',⟨by have:=HJ2.out;first | omega|exact Nat.le_refl _⟩,⟨by (with_reducible repeat (first|apply Kd.R_alloc|apply Kd.R_drewN|apply Kd.R_drew));exact Kd.R_mono HO538.out (fun _ hk => ⟨hk.1.2,hk.2⟩)⟩,⟨by (with_reducible repeat (first|apply Kd.R_alloc|apply Kd.R_drewN|apply Kd.R_drew));exact Kd.R_mono HO542.out (fun _ hk => ⟨hk.1.2,hk.2⟩)⟩,⟨by (with_reducible repeat (first|apply Kd.R_alloc|apply Kd.R_drewN|apply Kd.R_drew));exact Kd.R_mono HO546.out (fun _ hk => ⟨hk.1.2,hk.2⟩)⟩,⟨by repeat (first|(with_reducible first|exact HB.out|apply bwA|apply bwN|apply bw1)|exact HB.out)⟩⟩
        ·rw [if_neg c24] at H
         have c24b0 : (t540 == 0) = false:=beq_eq_false_iff_ne.mpr c24
         have c24b1 : (t540 != 0) = true:=bne_iff_ne.mpr c24
         (first|rw [c24b0]|(simp only [i64_w,i32_w];rw [c24b0]) | skip)
         have H':=aMk H
         clear H
         go_wp2
         go_meet
         case rel => exact ⟨_,(true),(by first | rfl|(simp;done)|(simp [*];done)|(simp [ne_nil_b];done)|(simp [ne_nil_b, *];done)),H',⟨by have:=HJ2.out;first | omega|exact Nat.le_refl _⟩,⟨by (with_reducible repeat (first|apply Kd.R_alloc|apply Kd.R_drewN|apply Kd.R_drew));exact Kd.R_mono HO538.out (fun _ hk => ⟨hk.1.2,hk.2⟩)⟩,⟨by (with_reducible repeat (first|apply Kd.R_alloc|apply Kd.R_drewN|apply Kd.R_drew));exact Kd.R_mono HO542.out (fun _ hk => ⟨hk.1.2,hk.2⟩)⟩,⟨by (with_reducible repeat (first|apply Kd.R_alloc|apply Kd.R_drewN|apply Kd.R_drew));exact Kd.R_mono HO546.out (fun _ hk => ⟨hk.1.2,hk.2⟩)⟩,⟨by repeat (first|(with_reducible first|exact HB.out|apply bwA|apply bwN|apply bw1)|exact HB.out)⟩⟩
       case rest =>
        as_aux_lemma =>
         clear HC12
         try clear c1
         try clear c2
         try clear p2
         try clear c3
         try clear c4
         try clear c4b0
         try clear c4b1
         try clear c5
         try clear c7
         try clear c8
         try clear c9
         try clear c24
         try clear c24b0
         try clear c24b1
         try clear c25
         try clear c25b0
         try clear c25b1
         try clear c25b2
         try clear c27
         try clear p2
         obtain ⟨kq,x69_11,rfl,HA,HJ11,HO_5,HO_6,HO_8,HB⟩:=hcut
         cases kq with
         | zero => exact absurd HA.out (by simp [laws_FnOrder.j1])
         | succ kj11 =>
          have H:=HA.out
          clear HA
          simp only [laws_FnOrder.j1] at H
          by_cases c29 : x69_11 = true
          ·subst c29
           have H1 : (some false) = some r:=by rw [if_pos rfl] at H;exact H
           clear H
           have H:=H1
           clear H1
           exact absurd ((Option.some.inj H).trans HRT_.out) (by decide)
          ·replace c29:=Bool.eq_false_iff.mpr c29
           subst c29
           have H1 : (laws_FnOrder.l0 kj11 y536 t539 t543 0) = some r:=by rw [if_neg (show ¬ (false = true) by decide)] at H;exact H
           clear H
           have H:=H1
           clear H1
           have H':=aMk H
           clear H
           go_wp2
           go_loopg [10] kj11 (fun kq v10 w' => ∃ (x10_3 : Int),v10 = .int .i64 x10_3 ∧ Aside0 (laws_FnOrder.l0 kq y536 t539 t543 x10_3 = some r) ∧ Aside0 (kq ≤ kj11) ∧ Aside0 (Kd.R k31 31 w' w.heap.size (fun k_ => some k_ ≠ (v541 : Value).ownBlock ∧ some k_ ≠ (v545 : Value).ownBlock) (.slice Ao21 y536.length co21) y536) ∧ Aside0 (Kd.R k31 31 w' w.heap.size (fun k_ => some k_ ≠ ((.slice Ao21 y536.length co21) : Value).ownBlock ∧ some k_ ≠ (v545 : Value).ownBlock) v541 t539) ∧ Aside0 (Kd.R k31 31 w' w.heap.size (fun k_ => some k_ ≠ ((.slice Ao21 y536.length co21) : Value).ownBlock ∧ some k_ ≠ (v541 : Value).ownBlock) v545 t543) ∧ Aside0 (Below w.heap.size w w'))
           case atStart => exact ⟨(0),(by first | rfl|(simp;done)|(simp [*];done)|(simp [ne_nil_b];done)|(simp [ne_nil_b, *];done)),H',⟨Nat.le_refl _⟩,⟨by (with_reducible repeat (first|apply Kd.R_alloc|apply Kd.R_drewN|apply Kd.R_drew));exact HO_5.out⟩,⟨by (with_reducible repeat (first|apply Kd.R_alloc|apply Kd.R_drewN|apply Kd.R_drew));exact HO_6.out⟩,⟨by (with_reducible repeat (first|apply Kd.R_alloc|apply Kd.R_drewN|apply Kd.R_drew));exact HO_8.out⟩,⟨by repeat (first|(with_reducible first|exact HB.out|apply bwA|apply bwN|apply bw1)|exact HB.out)⟩⟩
           case round =>
            as_aux_lemma =>
             clear H'
             try clear c1
             try clear c2
             try clear p2
             try clear c3
             try clear c4
             try clear c4b0
             try clear c4b1
             try clear c5
             try clear c7
             try clear c8
             try clear c9
             try clear c24
             try clear c24b0
             try clear c24b1
             try clear c25
             try clear c25b0
             try clear c25b1
             try clear c25b2
             try clear c27
             try clear c29
             try clear p2
             obtain ⟨x10_3,rfl,HA,HK3,HO_5,HO_6,HO_8,HB⟩:=hrel
             cases gk with
             | zero => exact absurd HA.out (by simp [laws_FnOrder.l0])
             | succ k3 =>
              have H:=HA.out
              clear HA
              simp only [laws_FnOrder.l0] at H
              by_cases c30 : x10_3 < (t539.length : Int)
              ·rw [if_pos c30] at H
               have c30b0 : decide (x10_3 < (t539.length : Int)) = true:=decide_eq_true c30
               clear c30
               by_cases c31 : 0 ≤ x10_3
               ·rw [if_pos c31] at H
                have c31b0 : decide (0 ≤ x10_3) = true:=decide_eq_true c31
                clear c31
                by_cases c32 : x10_3 < (y536.length : Int)
                ·rw [if_pos c32] at H
                 have c32b0 : decide (x10_3 < (y536.length : Int)) = true:=decide_eq_true c32
                 clear c32
                 replace H:=Option.bind_eq_some_iff.mp H
                 obtain ⟨⟨t550,t551⟩,A330,H⟩:=H
                 replace H : ((spec_ClassOf.f k3 ((rd_T31 y536 x10_3).f0) ((rd_T31 y536 x10_3).f1)).bind fun bt553 => (if x10_3 < (t543.length : Int) then (if (!(((rd_T31 t539 x10_3).f0) == ((rd_T31 t543 x10_3).f0)) || (!(((rd_T31 t539 x10_3).f1) == ((rd_T31 t543 x10_3).f1)))) = true then (laws_FnOrder.j3 k3 y536 t539 t543 x10_3 true) else (if t551 = 0 then (if t550 = bt553.1 then ((impl_RateWord.f k3 ((rd_T31 y536 x10_3).f0) ((rd_T31 y536 x10_3).f1)).bind fun t558 => ((spec_RateWord.f k3 ((rd_T31 y536 x10_3).f0) ((rd_T31 y536 x10_3).f1)).bind fun t560 => (laws_FnOrder.j3 k3 y536 t539 t543 x10_3 (t558.toList != t560.toList)))) else (laws_FnOrder.j3 k3 y536 t539 t543 x10_3 true)) else (laws_FnOrder.j3 k3 y536 t539 t543 x10_3 true))) else (none))) = some r:=H
                 have A33:=aMk A330
                 clear A330
                 replace H:=Option.bind_eq_some_iff.mp H
                 obtain ⟨⟨t553,t554⟩,A340,H⟩:=H
                 replace H : (if x10_3 < (t543.length : Int) then (if (!(((rd_T31 t539 x10_3).f0) == ((rd_T31 t543 x10_3).f0)) || (!(((rd_T31 t539 x10_3).f1) == ((rd_T31 t543 x10_3).f1)))) = true then (laws_FnOrder.j3 k3 y536 t539 t543 x10_3 true) else (if t551 = 0 then (if t550 = t553 then ((impl_RateWord.f k3 ((rd_T31 y536 x10_3).f0) ((rd_T31 y536 x10_3).f1)).bind fun t558 => ((spec_RateWord.f k3 ((rd_T31 y536 x10_3).f0) ((rd_T31 y536 x10_3).f1)).bind fun t560 => (laws_FnOrder.j3 k3 y536 t539 t543 x10_3 (t558.toList != t560.toList)))) else (laws_FnOrder.j3 k3 y536 t539 t543 x10_3 true)) else (laws_FnOrder.j3 k3 y536 t539 t543 x10_3 true))) else (none)) = some r:=H
                 have A34:=aMk A340
                 clear A340
                 have HC35:=aMk H
                 clear H
                 obtain ⟨Ao36,co36,eo36⟩:=Kd.R_slice HO_6.out
                 subst eo36
                 have p549 : 0 ≤ (x10_3 : Int):=of_decide_eq_true (by first|(with_reducible assumption) | assumption)
                 have q549 : x10_3 < (y536.length : Int):=of_decide_eq_true (by first|(with_reducible assumption) | assumption)
                 obtain ⟨ad549,e549,hx549_0,hx549_1⟩:=at_T31 (Kd.R_reads' HO_5.out).2.2 x10_3 p549 q549
                 cases e549
                 replace p549:=eq_true p549
                 replace q549:=eq_true q549
                 go_upto_region 13 with (first|((with_reducible refine gate_callee (f:=32) rfl ?_);refine gLs 81 Try.func32 #[.agg #[.int .i64 ((rd_T31 y536 x10_3).f0),.int .i64 ((rd_T31 y536 x10_3).f1)]] ?_;(with_reducible refine (impl_ClassOf.calls ((rd_T31 y536 x10_3).f0) ((rd_T31 y536 x10_3).f1) t550 t551 _ A33.out).mono ?_);rintro e w37 ⟨rfl,hb⟩;refine ⟨_,rfl,?_⟩;have n0_:=aMk (Kd.R_below (by (with_reducible repeat (first|apply Kd.R_alloc|apply Kd.R_drewN|apply Kd.R_drew));exact HO_5.out) hb);have n1_:=aMk (Kd.R_below (by (with_reducible repeat (first|apply Kd.R_alloc|apply Kd.R_drewN|apply Kd.R_drew));exact HO_6.out) hb);have n2_:=aMk (Kd.R_below (by (with_reducible repeat (first|apply Kd.R_alloc|apply Kd.R_drewN|apply Kd.R_drew));exact HO_8.out) hb);have n3_:=aMk (bSt hb);clear HO_5;clear HO_6;clear HO_8;clear HB;have HO_5:=n0_;have HO_6:=n1_;have HO_8:=n2_;have HB:=n3_;clear n0_ n1_ n2_ n3_;(try clear hb);(try clear hb2);(try clear hk);(try clear hi);have p552 : 0 ≤ (x10_3 : Int):=of_decide_eq_true (by first|(with_reducible assumption) | assumption);have q552 : x10_3 < (y536.length : Int):=of_decide_eq_true (by first|(with_reducible assumption) | assumption);obtain ⟨ad552,e552,hx552_0,hx552_1⟩:=at_T31 (Kd.R_reads' HO_5.out).2.2 x10_3 p552 q552;obtain rfl : ad549 = ad552:=(by injection e552);replace p552:=eq_true p552;replace q552:=eq_true q552)|((with_reducible refine gate_callee (f:=33) rfl ?_);refine gLs 89 Try.func33 #[.agg #[.int .i64 ((rd_T31 y536 x10_3).f0),.int .i64 ((rd_T31 y536 x10_3).f1)]] ?_;(with_reducible refine (spec_ClassOf.calls k3 ((rd_T31 y536 x10_3).f0) ((rd_T31 y536 x10_3).f1) t553 t554 _ A34.out).mono ?_);rintro e w38 ⟨rfl,hb⟩;refine ⟨_,rfl,?_⟩;have n0_:=aMk (Kd.R_below (by (with_reducible repeat (first|apply Kd.R_alloc|apply Kd.R_drewN|apply Kd.R_drew));exact HO_5.out) hb);have n1_:=aMk (Kd.R_below (by (with_reducible repeat (first|apply Kd.R_alloc|apply Kd.R_drewN|apply Kd.R_drew));exact HO_6.out) hb);have n2_:=aMk (Kd.R_below (by (with_reducible repeat (first|apply Kd.R_alloc|apply Kd.R_drewN|apply Kd.R_drew));exact HO_8.out) hb);have n3_:=aMk (bSt hb);clear HO_5;clear HO_6;clear HO_8;clear HB;have HO_5:=n0_;have HO_6:=n1_;have HO_8:=n2_;have HB:=n3_;clear n0_ n1_ n2_ n3_;(try clear hb);(try clear hb2);(try clear hk);(try clear hi)))
                 (try simp only [Act.put,List.setIfInBounds_toArray,List.set_cons_zero,List.set_cons_succ])
                 go_cut [122] (fun v122 wc => ∃ (kq : Nat) (x122_34 : Bool),v122 = .bool x122_34 ∧ Aside0 (laws_FnOrder.j3 kq y536 t539 t543 x10_3 x122_34 = some r) ∧ Aside0 (kq ≤ k3) ∧ Aside0 (Kd.R k31 31 wc w.heap.size (fun k_ => some k_ ≠ ((.slice Ao36 t539.length co36) : Value).ownBlock ∧ some k_ ≠ (v545 : Value).ownBlock) (.slice (some ad549) y536.length co21) y536) ∧ Aside0 (Kd.R k31 31 wc w.heap.size (fun k_ => some k_ ≠ ((.slice (some ad549) y536.length co21) : Value).ownBlock ∧ some k_ ≠ (v545 : Value).ownBlock) (.slice Ao36 t539.length co36) t539) ∧ Aside0 (Kd.R k31 31 wc w.heap.size (fun k_ => some k_ ≠ ((.slice (some ad549) y536.length co21) : Value).ownBlock ∧ some k_ ≠ ((.slice Ao36 t539.length co36) : Value).ownBlock) v545 t543) ∧ Aside0 (Below w.heap.size w wc))
                 case first =>
                  as_aux_lemma =>
                   have H:=HC35.out
                   clear HC35
                   by_cases c39 : x10_3 < (t543.length : Int)
                   ·rw [if_pos c39] at H
                    have c39b0 : decide (x10_3 < (t543.length : Int)) = true:=decide_eq_true c39
                    clear c39
                    (first|rw [c39b0]|(simp only [i64_w,i32_w];rw [c39b0]) | skip)
                    by_cases c40 : (!(((rd_T31 t539 x10_3).f0) == ((rd_T31 t543 x10_3).f0)) || (!(((rd_T31 t539 x10_3).f1) == ((rd_T31 t543 x10_3).f1)))) = true
                    ·rw [if_pos c40] at H
                     as_aux_lemma =>
                      have c40b0 : (!(((rd_T31 t539 x10_3).f0) == ((rd_T31 t543 x10_3).f0)) || (!(((rd_T31 t539 x10_3).f1) == ((rd_T31 t543 x10_3).f1)))) = true:=c40
                      clear c40
                      have H':=aMk H
                      clear H
                      try go_wp2
                      have n0_:=aMk (Kd.R_drew HO_5.out)
                      have n1_:=aMk (Kd.R_drew HO_6.out)
                      have n2_:=aMk (Kd.R_drew HO_8.out)
                      have n3_:=aMk (bw1 HB.out)
                      clear HO_5
                      clear HO_6
                      clear HO_8
                      clear HB
                      have HO_5:=n0_
                      have HO_6:=n1_
                      have HO_8:=n2_
                      have HB:=n3_
                      clear n0_ n1_ n2_ n3_
                      have p555 : 0 ≤ (x10_3 : Int):=of_decide_eq_true (by first|(with_reducible assumption) | assumption)
                      have q555 : x10_3 < (t539.length : Int):=of_decide_eq_true (by first|(with_reducible assumption) | assumption)
                      obtain ⟨ad555,e555,hx555_0,hx555_1⟩:=at_T31 (Kd.R_reads' HO_6.out).2.2 x10_3 p555 q555
                      cases e555
                      replace p555:=eq_true p555
                      replace q555:=eq_true q555
                      obtain ⟨Ao42,co42,eo42⟩:=Kd.R_slice HO_8.out
                      (first|subst eo42|(injection eo42 with f1_ f2_ f3_;have f4_:=f1_.symm;have f5_:=f3_.symm;clear f1_ f2_ f3_;subst f4_;subst f5_))
                      have p556 : 0 ≤ (x10_3 : Int):=of_decide_eq_true (by first|(with_reducible assumption) | assumption)
                      have q556 : x10_3 < (t543.length : Int):=of_decide_eq_true (by first|(with_reducible assumption) | assumption)
                      obtain ⟨ad556,e556,hx556_0,hx556_1⟩:=at_T31 (Kd.R_reads' HO_8.out).2.2 x10_3 p556 q556
                      cases e556
                      replace p556:=eq_true p556
                      replace q556:=eq_true q556
                      refine start_ (n:=31) (S:=fun w' => w'.cell? (ad555.add ((x10_3).toNat * 2)) = some (.int .i64 ((rd_T31 t539 x10_3).f0)) ∧ w'.cell? ⟨(ad555.add ((x10_3).toNat * 2)).block,(ad555.add ((x10_3).toNat * 2)).off + 1,none⟩ = some (.int .i64 ((rd_T31 t539 x10_3).f1)) ∧ w'.cell? (ad556.add ((x10_3).toNat * 2)) = some (.int .i64 ((rd_T31 t543 x10_3).f0)) ∧ w'.cell? ⟨(ad556.add ((x10_3).toNat * 2)).block,(ad556.add ((x10_3).toNat * 2)).off + 1,none⟩ = some (.int .i64 ((rd_T31 t543 x10_3).f1))) (ds:=[]) #[false,false,false,false,false,false,false,false,false,false,false,false,false,false,false,false,false,false,false,false,false,false,false,false,false,false,false,false,false,false,false] (by kernel_rfl) rfl rfl ⟨hx555_0,hx555_1,hx556_0,hx556_1⟩ (fun hHeld => ?_);refine with_tabW laws_FnOrder.tab13 laws_FnOrder.bits13 (fun HT_ HW_ => ?_)
                      generalize w38.drew = w41 at HO_5 HO_6 HO_8 HB hx555_0 hx555_1 hx556_0 hx556_1 hHeld ⊢
                      refine pU (i:=0) (N:=some 92) #[true,false,false,false,false,false,false,false,false,false,false,false,false,false,false,false,false,false,false,false,false,false,false,false,false,false,false,false,false,false,false] (any_of HT_.out (by kernel_rfl)) ?_
                      refine pU (i:=1) (N:=some 93) #[true,true,false,false,false,false,false,false,false,false,false,false,false,false,false,false,false,false,false,false,false,false,false,false,false,false,false,false,false,false,false] (any_of HT_.out (by kernel_rfl)) ?_
                      refine pU (i:=2) (N:=some 94) #[true,true,true,false,false,false,false,false,false,false,false,false,false,false,false,false,false,false,false,false,false,false,false,false,false,false,false,false,false,false,false] (any_of HT_.out (by kernel_rfl)) ?_
                      refine pU (i:=4) (N:=some 96) #[true,true,true,false,true,false,false,false,false,false,false,false,false,false,false,false,false,false,false,false,false,false,false,false,false,false,false,false,false,false,false] (any_of HT_.out (by kernel_rfl)) ?_
                      refine pU (i:=5) (N:=some 97) #[true,true,true,false,true,true,false,false,false,false,false,false,false,false,false,false,false,false,false,false,false,false,false,false,false,false,false,false,false,false,false] (any_of HT_.out (by kernel_rfl)) ?_
                      refine pU (i:=6) (N:=some 98) #[true,true,true,false,true,true,true,false,false,false,false,false,false,false,false,false,false,false,false,false,false,false,false,false,false,false,false,false,false,false,false] (any_of HT_.out (by kernel_rfl)) ?_
                      refine tU4 (i:=3) (N:=some 95) #[true,true,true,true,true,true,true,false,false,false,false,false,false,false,false,false,false,false,false,false,false,false,false,false,false,false,false,false,false,false,false] (take_ofW HT_.out HW_.out (by kernel_rfl)) hHeld ?_
                      refine tU4 (i:=7) (N:=some 99) #[true,true,true,true,true,true,true,true,false,false,false,false,false,false,false,false,false,false,false,false,false,false,false,false,false,false,false,false,false,false,false] (take_ofW HT_.out HW_.out (by kernel_rfl)) hHeld ?_
                      refine pU (i:=8) (N:=some 100) #[true,true,true,true,true,true,true,true,true,false,false,false,false,false,false,false,false,false,false,false,false,false,false,false,false,false,false,false,false,false,false] (any_of HT_.out (by kernel_rfl)) ?_
                      refine pU (i:=9) (N:=some 101) #[true,true,true,true,true,true,true,true,true,true,false,false,false,false,false,false,false,false,false,false,false,false,false,false,false,false,false,false,false,false,false] (any_of HT_.out (by kernel_rfl)) ?_
                      refine pure_ (i:=10) (N:=some 102) (v:=undef) (a':=?_) #[true,true,true,true,true,true,true,true,true,true,true,false,false,false,false,false,false,false,false,false,false,false,false,false,false,false,false,false,false,false,false] rfl rfl (any_of HT_.out (by kernel_rfl)) (fun _ _ _ h => h) (Or.inr ⟨by rfl,rfl⟩) ?_ ?_
                      rotate_left
                      ·simp only [Act.put,List.setIfInBounds_toArray,List.set_cons_zero,List.set_cons_succ,i64_w,i32_w]
                       rfl
                      refine pure_ (i:=11) (N:=some 103) (v:=undef) (a':=?_) #[true,true,true,true,true,true,true,true,true,true,true,true,false,false,false,false,false,false,false,false,false,false,false,false,false,false,false,false,false,false,false] rfl rfl (any_of HT_.out (by kernel_rfl)) (fun _ _ _ h => h) (Or.inr ⟨by rfl,rfl⟩) ?_ ?_
                      rotate_left
                      ·simp only [Act.put,List.setIfInBounds_toArray,List.set_cons_zero,List.set_cons_succ,i64_w,i32_w]
                       rfl
                      refine pU (i:=12) (N:=some 104) #[true,true,true,true,true,true,true,true,true,true,true,true,true,false,false,false,false,false,false,false,false,false,false,false,false,false,false,false,false,false,false] (any_of HT_.out (by kernel_rfl)) ?_
                      refine pU (i:=13) (N:=some 105) #[true,true,true,true,true,true,true,true,true,true,true,true,true,true,false,false,false,false,false,false,false,false,false,false,false,false,false,false,false,false,false] (any_of HT_.out (by kernel_rfl)) ?_
                      refine pure_ (i:=14) (N:=some 106) (v:=undef) (a':=?_) #[true,true,true,true,true,true,true,true,true,true,true,true,true,true,true,false,false,false,false,false,false,false,false,false,false,false,false,false,false,false,false] rfl rfl (any_of HT_.out (by kernel_rfl)) (fun _ _ _ h => h) (Or.inr ⟨by rfl,rfl⟩) ?_ ?_
                      rotate_left
                      ·simp only [Act.put,List.setIfInBounds_toArray,List.set_cons_zero,List.set_cons_succ,i64_w,i32_w]
                       rfl
                      refine pure_ (i:=15) (N:=some 107) (v:=undef) (a':=?_) #[true,true,true,true,true,true,true,true,true,true,true,true,true,true,true,true,false,false,false,false,false,false,false,false,false,false,false,false,false,false,false] rfl rfl (any_of HT_.out (by kernel_rfl)) (fun _ _ _ h => h) (Or.inr ⟨by rfl,rfl⟩) ?_ ?_
                      rotate_left
                      ·simp only [Act.put,List.setIfInBounds_toArray,List.set_cons_zero,List.set_cons_succ,i64_w,i32_w]
                       rfl
                      refine pure_ (i:=16) (N:=some 108) (v:=undef) (a':=?_) #[true,true,true,true,true,true,true,true,true,true,true,true,true,true,true,true,true,false,false,false,false,false,false,false,false,false,false,false,false,false,false] rfl rfl (any_of HT_.out (by kernel_rfl)) (fun _ _ _ h => h) (Or.inr ⟨by rfl,rfl⟩) ?_ ?_
                      rotate_left
                      ·simp only [Act.put,List.setIfInBounds_toArray,List.set_cons_zero,List.set_cons_succ,i64_w,i32_w]
                       rfl
                      refine pU (i:=17) (N:=some 109) #[true,true,true,true,true,true,true,true,true,true,true,true,true,true,true,true,true,true,false,false,false,false,false,false,false,false,false,false,false,false,false] (any_of HT_.out (by kernel_rfl)) ?_
                      refine pU (i:=18) (N:=some 110) #[true,true,true,true,true,true,true,true,true,true,true,true,true,true,true,true,true,true,true,false,false,false,false,false,false,false,false,false,false,false,false] (any_of HT_.out (by kernel_rfl)) ?_
                      refine pure_ (i:=19) (N:=some 111) (v:=undef) (a':=?_) #[true,true,true,true,true,true,true,true,true,true,true,true,true,true,true,true,true,true,true,true,false,false,false,false,false,false,false,false,false,false,false] rfl rfl (any_of HT_.out (by kernel_rfl)) (fun _ _ _ h => h) (Or.inr ⟨by rfl,rfl⟩) ?_ ?_
                      rotate_left
                      ·simp only [Act.put,List.setIfInBounds_toArray,List.set_cons_zero,List.set_cons_succ,i64_w,i32_w]
                       rfl
                      refine pure_ (i:=20) (N:=some 112) (v:=undef) (a':=?_) #[true,true,true,true,true,true,true,true,true,true,true,true,true,true,true,true,true,true,true,true,true,false,false,false,false,false,false,false,false,false,false] rfl rfl (any_of HT_.out (by kernel_rfl)) (fun _ _ _ h => h) (Or.inr ⟨by rfl,rfl⟩) ?_ ?_
                      rotate_left
                      ·simp only [Act.put,List.setIfInBounds_toArray,List.set_cons_zero,List.set_cons_succ,i64_w,i32_w]
                       rfl
                      refine pure_ (i:=21) (N:=some 113) (v:=undef) (a':=?_) #[true,true,true,true,true,true,true,true,true,true,true,true,true,true,true,true,true,true,true,true,true,true,false,false,false,false,false,false,false,false,false] rfl rfl (any_of HT_.out (by kernel_rfl)) (fun _ _ _ h => h) (Or.inr ⟨by rfl,rfl⟩) ?_ ?_
                      rotate_left
                      ·simp only [Act.put,List.setIfInBounds_toArray,List.set_cons_zero,List.set_cons_succ,i64_w,i32_w]
                       rfl
                      refine pure_ (i:=22) (N:=some 114) (v:=undef) (a':=?_) #[true,true,true,true,true,true,true,true,true,true,true,true,true,true,true,true,true,true,true,true,true,true,true,false,false,false,false,false,false,false,false] rfl rfl (any_of HT_.out (by kernel_rfl)) (fun _ _ _ h => h) (Or.inr ⟨by rfl,rfl⟩) ?_ ?_
                      rotate_left
                      ·simp only [Act.put,List.setIfInBounds_toArray,List.set_cons_zero,List.set_cons_succ,i64_w,i32_w]
                       rfl
                      refine pure_ (i:=23) (N:=some 115) (v:=undef) (a':=?_) #[true,true,true,true,true,true,true,true,true,true,true,true,true,true,true,true,true,true,true,true,true,true,true,true,false,false,false,false,false,false,false] rfl rfl (any_of HT_.out (by kernel_rfl)) (fun _ _ _ h => h) (Or.inr ⟨by rfl,rfl⟩) ?_ ?_
                      rotate_left
                      ·simp only [Act.put,List.setIfInBounds_toArray,List.set_cons_zero,List.set_cons_succ,i64_w,i32_w]
                       rfl
                      refine pure_ (i:=24) (N:=some 116) (v:=undef) (a':=?_) #[true,true,true,true,true,true,true,true,true,true,true,true,true,true,true,true,true,true,true,true,true,true,true,true,true,false,false,false,false,false,false] rfl rfl (any_of HT_.out (by kernel_rfl)) (fun _ _ _ h => h) (Or.inr ⟨by rfl,rfl⟩) ?_ ?_
                      rotate_left
                      ·simp only [Act.put,List.setIfInBounds_toArray,List.set_cons_zero,List.set_cons_succ,i64_w,i32_w]
                       rfl
                      refine pure_ (i:=25) (N:=some 117) (v:=undef) (a':=?_) #[true,true,true,true,true,true,true,true,true,true,true,true,true,true,true,true,true,true,true,true,true,true,true,true,true,true,false,false,false,false,false] rfl rfl (any_of HT_.out (by kernel_rfl)) (fun _ _ _ h => h) (Or.inr ⟨by rfl,rfl⟩) ?_ ?_
                      rotate_left
                      ·simp only [Act.put,List.setIfInBounds_toArray,List.set_cons_zero,List.set_cons_succ,i64_w,i32_w]
                       rfl
                      refine pure_ (i:=26) (N:=some 118) (v:=undef) (a':=?_) #[true,true,true,true,true,true,true,true,true,true,true,true,true,true,true,true,true,true,true,true,true,true,true,true,true,true,true,false,false,false,false] rfl rfl (any_of HT_.out (by kernel_rfl)) (fun _ _ _ h => h) (Or.inr ⟨by rfl,rfl⟩) ?_ ?_
                      rotate_left
                      ·simp only [Act.put,List.setIfInBounds_toArray,List.set_cons_zero,List.set_cons_succ,i64_w,i32_w]
                       rfl
                      refine pure_ (i:=27) (N:=some 119) (v:=undef) (a':=?_) #[true,true,true,true,true,true,true,true,true,true,true,true,true,true,true,true,true,true,true,true,true,true,true,true,true,true,true,true,false,false,false] rfl rfl (any_of HT_.out (by kernel_rfl)) (fun _ _ _ h => h) (Or.inr ⟨by rfl,rfl⟩) ?_ ?_
                      rotate_left
                      ·simp only [Act.put,List.setIfInBounds_toArray,List.set_cons_zero,List.set_cons_succ,i64_w,i32_w]
                       rfl
                      refine pure_ (i:=28) (N:=some 120) (v:=undef) (a':=?_) #[true,true,true,true,true,true,true,true,true,true,true,true,true,true,true,true,true,true,true,true,true,true,true,true,true,true,true,true,true,false,false] rfl rfl (any_of HT_.out (by kernel_rfl)) (fun _ _ _ h => h) (Or.inr ⟨by rfl,rfl⟩) ?_ ?_
                      rotate_left
                      ·simp only [Act.put,List.setIfInBounds_toArray,List.set_cons_zero,List.set_cons_succ,i64_w,i32_w]
                       rfl
                      refine pure_ (i:=29) (N:=some 121) (v:=undef) (a':=?_) #[true,true,true,true,true,true,true,true,true,true,true,true,true,true,true,true,true,true,true,true,true,true,true,true,true,true,true,true,true,true,false] rfl rfl (any_of HT_.out (by kernel_rfl)) (fun _ _ _ h => h) (Or.inr ⟨by rfl,rfl⟩) ?_ ?_
                      rotate_left
                      ·simp only [Act.put,List.setIfInBounds_toArray,List.set_cons_zero,List.set_cons_succ,i64_w,i32_w]
                       rfl
                      refine pU (i:=30) (N:=some 122) #[true,true,true,true,true,true,true,true,true,true,true,true,true,true,true,true,true,true,true,true,true,true,true,true,true,true,true,true,true,true,true] (any_of HT_.out (by kernel_rfl)) ?_
                      refine done_ (done_of HT_.out (by kernel_rfl)) ?_
                      try go_wp2
                      go_meet
                      case rel => exact ⟨_,(true),(by first | rfl|(simp;done)|(simp [*];done)|(simp [ne_nil_b];done)|(simp [ne_nil_b, *];done)),H',⟨by have:=HJ2.out;have:=HJ11.out;have:=HK3.out;first | omega|exact Nat.le_refl _⟩,⟨by (with_reducible repeat (first|apply Kd.R_alloc|apply Kd.R_drewN|apply Kd.R_drew));exact HO_5.out⟩,⟨by (with_reducible repeat (first|apply Kd.R_alloc|apply Kd.R_drewN|apply Kd.R_drew));exact HO_6.out⟩,⟨by (with_reducible repeat (first|apply Kd.R_alloc|apply Kd.R_drewN|apply Kd.R_drew));exact HO_8.out⟩,⟨by repeat (first|(with_reducible first|exact HB.out|apply bwA|apply bwN|apply bw1)|exact HB.out)⟩⟩
                    ·rw [if_neg c40] at H
                     have c40b0 : (!(((rd_T31 t539 x10_3).f0) == ((rd_T31 t543 x10_3).f0)) || (!(((rd_T31 t539 x10_3).f1) == ((rd_T31 t543 x10_3).f1)))) = false:=by simpa using c40
                     clear c40
                     by_cases c43 : t551 = 0
                     ·rw [if_pos c43] at H
                      as_aux_lemma =>
                       have c43b0 : (t551 == 0) = true:=beq_iff_eq.mpr c43
                       have c43b1 : (t551 != 0) = false:=bne_eq_false_iff_eq.mpr c43
                       clear c43
                       by_cases c44 : t550 = t553
                       ·rw [if_pos c44] at H
                        have c44b0 : (t550 == t553) = true:=beq_iff_eq.mpr c44
                        have c44b1 : (t550 != t553) = false:=bne_eq_false_iff_eq.mpr c44
                        clear c44
                        replace H:=Option.bind_eq_some_iff.mp H
                        obtain ⟨t558,A450,H⟩:=H
                        replace H : ((spec_RateWord.f k3 ((rd_T31 y536 x10_3).f0) ((rd_T31 y536 x10_3).f1)).bind fun t560 => (laws_FnOrder.j3 k3 y536 t539 t543 x10_3 (t558.toList != t560.toList))) = some r:=H
                        have A45:=aMk A450
                        clear A450
                        replace H:=Option.bind_eq_some_iff.mp H
                        obtain ⟨t560,A460,H⟩:=H
                        replace H : (laws_FnOrder.j3 k3 y536 t539 t543 x10_3 (t558.toList != t560.toList)) = some r:=H
                        have A46:=aMk A460
                        clear A460
                        have H':=aMk H
                        clear H
                        try go_wp2
                        have n0_:=aMk (Kd.R_drew HO_5.out)
                        have n1_:=aMk (Kd.R_drew HO_6.out)
                        have n2_:=aMk (Kd.R_drew HO_8.out)
                        have n3_:=aMk (bw1 HB.out)
                        clear HO_5
                        clear HO_6
                        clear HO_8
                        clear HB
                        have HO_5:=n0_
                        have HO_6:=n1_
                        have HO_8:=n2_
                        have HB:=n3_
                        clear n0_ n1_ n2_ n3_
                        have p555 : 0 ≤ (x10_3 : Int):=of_decide_eq_true (by first|(with_reducible assumption) | assumption)
                        have q555 : x10_3 < (t539.length : Int):=of_decide_eq_true (by first|(with_reducible assumption) | assumption)
                        obtain ⟨ad555,e555,hx555_0,hx555_1⟩:=at_T31 (Kd.R_reads' HO_6.out).2.2 x10_3 p555 q555
                        cases e555
                        replace p555:=eq_true p555
                        replace q555:=eq_true q555
                        obtain ⟨Ao48,co48,eo48⟩:=Kd.R_slice HO_8.out
                        (first|subst eo48|(injection eo48 with f1_ f2_ f3_;have f4_:=f1_.symm;have f5_:=f3_.symm;clear f1_ f2_ f3_;subst f4_;subst f5_))
                        have p556 : 0 ≤ (x10_3 : Int):=of_decide_eq_true (by first|(with_reducible assumption) | assumption)
                        have q556 : x10_3 < (t543.length : Int):=of_decide_eq_true (by first|(with_reducible assumption) | assumption)
                        obtain ⟨ad556,e556,hx556_0,hx556_1⟩:=at_T31 (Kd.R_reads' HO_8.out).2.2 x10_3 p556 q556
                        cases e556
                        replace p556:=eq_true p556
                        replace q556:=eq_true q556
                        have p557 : 0 ≤ (x10_3 : Int):=of_decide_eq_true (by first|(with_reducible assumption) | assumption)
                        have q557 : x10_3 < (y536.length : Int):=of_decide_eq_true (by first|(with_reducible assumption) | assumption)
                        obtain ⟨ad557,e557,hx557_0,hx557_1⟩:=at_T31 (Kd.R_reads' HO_5.out).2.2 x10_3 p557 q557
                        obtain rfl : ad549 = ad557:=(by injection e557)
                        replace p557:=eq_true p557
                        replace q557:=eq_true q557
                        have p559 : 0 ≤ (x10_3 : Int):=of_decide_eq_true (by first|(with_reducible assumption) | assumption)
                        have q559 : x10_3 < (y536.length : Int):=of_decide_eq_true (by first|(with_reducible assumption) | assumption)
                        obtain ⟨ad559,e559,hx559_0,hx559_1⟩:=at_T31 (Kd.R_reads' HO_5.out).2.2 x10_3 p559 q559
                        obtain rfl : ad549 = ad559:=(by injection e559)
                        replace p559:=eq_true p559
                        replace q559:=eq_true q559
                        refine start_ (n:=31) (S:=fun w' => w'.cell? (ad555.add ((x10_3).toNat * 2)) = some (.int .i64 ((rd_T31 t539 x10_3).f0)) ∧ w'.cell? ⟨(ad555.add ((x10_3).toNat * 2)).block,(ad555.add ((x10_3).toNat * 2)).off + 1,none⟩ = some (.int .i64 ((rd_T31 t539 x10_3).f1)) ∧ w'.cell? (ad556.add ((x10_3).toNat * 2)) = some (.int .i64 ((rd_T31 t543 x10_3).f0)) ∧ w'.cell? ⟨(ad556.add ((x10_3).toNat * 2)).block,(ad556.add ((x10_3).toNat * 2)).off + 1,none⟩ = some (.int .i64 ((rd_T31 t543 x10_3).f1)) ∧ w'.cell? (ad549.add ((x10_3).toNat * 2)) = some (.int .i64 ((rd_T31 y536 x10_3).f0)) ∧ w'.cell? ⟨(ad549.add ((x10_3).toNat * 2)).block,(ad549.add ((x10_3).toNat * 2)).off + 1,none⟩ = some (.int .i64 ((rd_T31 y536 x10_3).f1)) ∧ w'.cell? (ad549.add ((x10_3).toNat * 2)) = some (.int .i64 ((rd_T31 y536 x10_3).f0)) ∧ w'.cell? ⟨(ad549.add ((x10_3).toNat * 2)).block,(ad549.add ((x10_3).toNat * 2)).off + 1,none⟩ = some (.int .i64 ((rd_T31 y536 x10_3).f1))) (ds:=[]) #[false,false,false,false,false,false,false,false,false,false,false,false,false,false,false,false,false,false,false,false,false,false,false,false,false,false,false,false,false,false,false] (by kernel_rfl) rfl rfl ⟨hx555_0,hx555_1,hx556_0,hx556_1,hx557_0,hx557_1,hx559_0,hx559_1⟩ (fun hHeld => ?_);refine with_tabW laws_FnOrder.tab13 laws_FnOrder.bits13 (fun HT_ HW_ => ?_)
                        generalize w38.drew = w47 at HO_5 HO_6 HO_8 HB hx555_0 hx555_1 hx556_0 hx556_1 hx557_0 hx557_1 hx559_0 hx559_1 hHeld ⊢
                        refine pU (i:=0) (N:=some 92) #[true,false,false,false,false,false,false,false,false,false,false,false,false,false,false,false,false,false,false,false,false,false,false,false,false,false,false,false,false,false,false] (any_of HT_.out (by kernel_rfl)) ?_
                        refine pU (i:=1) (N:=some 93) #[true,true,false,false,false,false,false,false,false,false,false,false,false,false,false,false,false,false,false,false,false,false,false,false,false,false,false,false,false,false,false] (any_of HT_.out (by kernel_rfl)) ?_
                        refine pU (i:=2) (N:=some 94) #[true,true,true,false,false,false,false,false,false,false,false,false,false,false,false,false,false,false,false,false,false,false,false,false,false,false,false,false,false,false,false] (any_of HT_.out (by kernel_rfl)) ?_
                        refine pU (i:=4) (N:=some 96) #[true,true,true,false,true,false,false,false,false,false,false,false,false,false,false,false,false,false,false,false,false,false,false,false,false,false,false,false,false,false,false] (any_of HT_.out (by kernel_rfl)) ?_
                        refine pU (i:=5) (N:=some 97) #[true,true,true,false,true,true,false,false,false,false,false,false,false,false,false,false,false,false,false,false,false,false,false,false,false,false,false,false,false,false,false] (any_of HT_.out (by kernel_rfl)) ?_
                        refine pU (i:=6) (N:=some 98) #[true,true,true,false,true,true,true,false,false,false,false,false,false,false,false,false,false,false,false,false,false,false,false,false,false,false,false,false,false,false,false] (any_of HT_.out (by kernel_rfl)) ?_
                        refine tU8 (i:=3) (N:=some 95) #[true,true,true,true,true,true,true,false,false,false,false,false,false,false,false,false,false,false,false,false,false,false,false,false,false,false,false,false,false,false,false] (take_ofW HT_.out HW_.out (by kernel_rfl)) hHeld ?_
                        refine tU8 (i:=7) (N:=some 99) #[true,true,true,true,true,true,true,true,false,false,false,false,false,false,false,false,false,false,false,false,false,false,false,false,false,false,false,false,false,false,false] (take_ofW HT_.out HW_.out (by kernel_rfl)) hHeld ?_
                        refine pU (i:=8) (N:=some 100) #[true,true,true,true,true,true,true,true,true,false,false,false,false,false,false,false,false,false,false,false,false,false,false,false,false,false,false,false,false,false,false] (any_of HT_.out (by kernel_rfl)) ?_
                        refine pU (i:=9) (N:=some 101) #[true,true,true,true,true,true,true,true,true,true,false,false,false,false,false,false,false,false,false,false,false,false,false,false,false,false,false,false,false,false,false] (any_of HT_.out (by kernel_rfl)) ?_
                        refine pU (i:=10) (N:=some 102) #[true,true,true,true,true,true,true,true,true,true,true,false,false,false,false,false,false,false,false,false,false,false,false,false,false,false,false,false,false,false,false] (any_of HT_.out (by kernel_rfl)) ?_
                        refine pU (i:=11) (N:=some 103) #[true,true,true,true,true,true,true,true,true,true,true,true,false,false,false,false,false,false,false,false,false,false,false,false,false,false,false,false,false,false,false] (any_of HT_.out (by kernel_rfl)) ?_
                        refine pU (i:=12) (N:=some 104) #[true,true,true,true,true,true,true,true,true,true,true,true,true,false,false,false,false,false,false,false,false,false,false,false,false,false,false,false,false,false,false] (any_of HT_.out (by kernel_rfl)) ?_
                        refine pU (i:=13) (N:=some 105) #[true,true,true,true,true,true,true,true,true,true,true,true,true,true,false,false,false,false,false,false,false,false,false,false,false,false,false,false,false,false,false] (any_of HT_.out (by kernel_rfl)) ?_
                        refine pU (i:=14) (N:=some 106) #[true,true,true,true,true,true,true,true,true,true,true,true,true,true,true,false,false,false,false,false,false,false,false,false,false,false,false,false,false,false,false] (any_of HT_.out (by kernel_rfl)) ?_
                        refine pU (i:=15) (N:=some 107) #[true,true,true,true,true,true,true,true,true,true,true,true,true,true,true,true,false,false,false,false,false,false,false,false,false,false,false,false,false,false,false] (any_of HT_.out (by kernel_rfl)) ?_
                        refine pU (i:=16) (N:=some 108) #[true,true,true,true,true,true,true,true,true,true,true,true,true,true,true,true,true,false,false,false,false,false,false,false,false,false,false,false,false,false,false] (any_of HT_.out (by kernel_rfl)) ?_
                        refine pU (i:=17) (N:=some 109) #[true,true,true,true,true,true,true,true,true,true,true,true,true,true,true,true,true,true,false,false,false,false,false,false,false,false,false,false,false,false,false] (any_of HT_.out (by kernel_rfl)) ?_
                        refine pU (i:=18) (N:=some 110) #[true,true,true,true,true,true,true,true,true,true,true,true,true,true,true,true,true,true,true,false,false,false,false,false,false,false,false,false,false,false,false] (any_of HT_.out (by kernel_rfl)) ?_
                        refine pU (i:=19) (N:=some 111) #[true,true,true,true,true,true,true,true,true,true,true,true,true,true,true,true,true,true,true,true,false,false,false,false,false,false,false,false,false,false,false] (any_of HT_.out (by kernel_rfl)) ?_
                        refine pU (i:=20) (N:=some 112) #[true,true,true,true,true,true,true,true,true,true,true,true,true,true,true,true,true,true,true,true,true,false,false,false,false,false,false,false,false,false,false] (any_of HT_.out (by kernel_rfl)) ?_
                        refine pU (i:=21) (N:=some 113) #[true,true,true,true,true,true,true,true,true,true,true,true,true,true,true,true,true,true,true,true,true,true,false,false,false,false,false,false,false,false,false] (any_of HT_.out (by kernel_rfl)) ?_
                        refine pU (i:=24) (N:=some 116) #[true,true,true,true,true,true,true,true,true,true,true,true,true,true,true,true,true,true,true,true,true,true,false,false,true,false,false,false,false,false,false] (any_of HT_.out (by kernel_rfl)) ?_
                        refine pU (i:=25) (N:=some 117) #[true,true,true,true,true,true,true,true,true,true,true,true,true,true,true,true,true,true,true,true,true,true,false,false,true,true,false,false,false,false,false] (any_of HT_.out (by kernel_rfl)) ?_
                        refine pU (i:=26) (N:=some 118) #[true,true,true,true,true,true,true,true,true,true,true,true,true,true,true,true,true,true,true,true,true,true,false,false,true,true,true,false,false,false,false] (any_of HT_.out (by kernel_rfl)) ?_
                        refine tU8 (i:=22) (N:=some 114) #[true,true,true,true,true,true,true,true,true,true,true,true,true,true,true,true,true,true,true,true,true,true,true,false,true,true,true,false,false,false,false] (take_ofW HT_.out HW_.out (by kernel_rfl)) hHeld ?_
                        refine tU8 (i:=27) (N:=some 119) #[true,true,true,true,true,true,true,true,true,true,true,true,true,true,true,true,true,true,true,true,true,true,true,false,true,true,true,true,false,false,false] (take_ofW HT_.out HW_.out (by kernel_rfl)) hHeld ?_
                        refine one_ (i:=23) (N:=some 115) #[true,true,true,true,true,true,true,true,true,true,true,true,true,true,true,true,true,true,true,true,true,true,true,true,true,true,true,true,false,false,false] rfl rfl (one_of HT_.out (by kernel_rfl)) (by decide) (fun K hK => ?_)
                        refine goes_ Try.func17 (by kernel_rfl) rfl #[.agg #[.int .i64 ((rd_T31 y536 x10_3).f0),.int .i64 ((rd_T31 y536 x10_3).f1)]] (by rfl) rfl rfl (by (try simp only [List.map_toArray,List.map_cons,List.map_nil]);first | done | rfl|(simp only [List.length_drop,List.length_take];rfl)) ?_
                        with_reducible refine (impl_RateWord.calls k3 ((rd_T31 y536 x10_3).f0) ((rd_T31 y536 x10_3).f1) t558 _ A45.out).mono ?_
                        rintro e w49 ⟨rfl,hb⟩
                        have HS0_:=(hb.cell (wLt _ _ (hHeld.1))).trans (hHeld.1)
                        have HS1_:=(hb.cell (wLt _ _ (hHeld.2.1))).trans (hHeld.2.1)
                        have HS2_:=(hb.cell (wLt _ _ (hHeld.2.2.1))).trans (hHeld.2.2.1)
                        have HS3_:=(hb.cell (wLt _ _ (hHeld.2.2.2.1))).trans (hHeld.2.2.2.1)
                        have HS4_:=(hb.cell (wLt _ _ (hHeld.2.2.2.2.1))).trans (hHeld.2.2.2.2.1)
                        have HS5_:=(hb.cell (wLt _ _ (hHeld.2.2.2.2.2.1))).trans (hHeld.2.2.2.2.2.1)
                        have HS6_:=(hb.cell (wLt _ _ (hHeld.2.2.2.2.2.2.1))).trans (hHeld.2.2.2.2.2.2.1)
                        have HS7_:=(hb.cell (wLt _ _ (hHeld.2.2.2.2.2.2.2))).trans (hHeld.2.2.2.2.2.2.2)
                        refine ⟨_,rfl,?_⟩
                        have n0_:=aMk (Kd.R_below (by (with_reducible repeat (first|apply Kd.R_alloc|apply Kd.R_drewN|apply Kd.R_drew));exact HO_5.out) hb)
                        have n1_:=aMk (Kd.R_below (by (with_reducible repeat (first|apply Kd.R_alloc|apply Kd.R_drewN|apply Kd.R_drew));exact HO_6.out) hb)
                        have n2_:=aMk (Kd.R_below (by (with_reducible repeat (first|apply Kd.R_alloc|apply Kd.R_drewN|apply Kd.R_drew));exact HO_8.out) hb)
                        have n3_:=aMk (bSt hb)
                        clear HO_5
                        clear HO_6
                        clear HO_8
                        clear HB
                        have HO_5:=n0_
                        have HO_6:=n1_
                        have HO_8:=n2_
                        have HB:=n3_
                        clear n0_ n1_ n2_ n3_
                        (try clear hb)
                        (try clear hb2)
                        (try clear hk)
                        (try clear hi)
                        refine hK.out _ _ ⟨HS0_,HS1_,HS2_,HS3_,HS4_,HS5_,HS6_,HS7_⟩ (fun hHeld => ?_)
                        clear hK K
                        refine norm_ (a':=?_) ?_ ?_
                        rotate_left
                        ·show Act.put _ (some 115) _ = _
                         simp only [Act.put,List.setIfInBounds_toArray,List.set_cons_zero,List.set_cons_succ,i64_w,i32_w]
                         rfl
                        refine one_ (i:=28) (N:=some 120) #[true,true,true,true,true,true,true,true,true,true,true,true,true,true,true,true,true,true,true,true,true,true,true,true,true,true,true,true,true,false,false] rfl rfl (one_of HT_.out (by kernel_rfl)) (by decide) (fun K hK => ?_)
                        refine goes_ Try.func16 (by kernel_rfl) rfl #[.agg #[.int .i64 ((rd_T31 y536 x10_3).f0),.int .i64 ((rd_T31 y536 x10_3).f1)]] (by rfl) rfl rfl (by (try simp only [List.map_toArray,List.map_cons,List.map_nil]);first | done | rfl|(simp only [List.length_drop,List.length_take];rfl)) ?_
                        with_reducible refine (spec_RateWord.calls k3 ((rd_T31 y536 x10_3).f0) ((rd_T31 y536 x10_3).f1) t560 _ A46.out).mono ?_
                        rintro e w50 ⟨rfl,hb⟩
                        have HS0_:=(hb.cell (wLt _ _ (hHeld.1))).trans (hHeld.1)
                        have HS1_:=(hb.cell (wLt _ _ (hHeld.2.1))).trans (hHeld.2.1)
                        have HS2_:=(hb.cell (wLt _ _ (hHeld.2.2.1))).trans (hHeld.2.2.1)
                        have HS3_:=(hb.cell (wLt _ _ (hHeld.2.2.2.1))).trans (hHeld.2.2.2.1)
                        have HS4_:=(hb.cell (wLt _ _ (hHeld.2.2.2.2.1))).trans (hHeld.2.2.2.2.1)
                        have HS5_:=(hb.cell (wLt _ _ (hHeld.2.2.2.2.2.1))).trans (hHeld.2.2.2.2.2.1)
                        have HS6_:=(hb.cell (wLt _ _ (hHeld.2.2.2.2.2.2.1))).trans (hHeld.2.2.2.2.2.2.1)
                        have HS7_:=(hb.cell (wLt _ _ (hHeld.2.2.2.2.2.2.2))).trans (hHeld.2.2.2.2.2.2.2)
                        refine ⟨_,rfl,?_⟩
                        have n0_:=aMk (Kd.R_below (by (with_reducible repeat (first|apply Kd.R_alloc|apply Kd.R_drewN|apply Kd.R_drew));exact HO_5.out) hb)
                        have n1_:=aMk (Kd.R_below (by (with_reducible repeat (first|apply Kd.R_alloc|apply Kd.R_drewN|apply Kd.R_drew));exact HO_6.out) hb)
                        have n2_:=aMk (Kd.R_below (by (with_reducible repeat (first|apply Kd.R_alloc|apply Kd.R_drewN|apply Kd.R_drew));exact HO_8.out) hb)
                        have n3_:=aMk (bSt hb)
                        clear HO_5
                        clear HO_6
                        clear HO_8
                        clear HB
                        have HO_5:=n0_
                        have HO_6:=n1_
                        have HO_8:=n2_
                        have HB:=n3_
                        clear n0_ n1_ n2_ n3_
                        (try clear hb)
                        (try clear hb2)
                        (try clear hk)
                        (try clear hi)
                        refine hK.out _ _ ⟨HS0_,HS1_,HS2_,HS3_,HS4_,HS5_,HS6_,HS7_⟩ (fun hHeld => ?_)
                        clear hK K
                        refine norm_ (a':=?_) ?_ ?_
                        rotate_left
                        ·show Act.put _ (some 120) _ = _
                         simp only [Act.put,List.setIfInBounds_toArray,List.set_cons_zero,List.set_cons_succ,i64_w,i32_w]
                         rfl
                        refine pU (i:=29) (N:=some 121) #[true,true,true,true,true,true,true,true,true,true,true,true,true,true,true,true,true,true,true,true,true,true,true,true,true,true,true,true,true,true,false] (any_of HT_.out (by kernel_rfl)) ?_
                        refine pU (i:=30) (N:=some 122) #[true,true,true,true,true,true,true,true,true,true,true,true,true,true,true,true,true,true,true,true,true,true,true,true,true,true,true,true,true,true,true] (any_of HT_.out (by kernel_rfl)) ?_
                        refine done_ (done_of HT_.out (by kernel_rfl)) ?_
                        try go_wp2
                        go_meet
                        case rel => exact ⟨_,((t558.toList != t560.toList)),(by first | rfl|(simp;done)|(simp [*];done)|(simp [ne_nil_b];done)|(simp [ne_nil_b, *];done)),H',⟨by have:=HJ2.out;have:=HJ11.out;have:=HK3.out;first | omega|exact Nat.le_refl _⟩,⟨by (with_reducible repeat (first|apply Kd.R_alloc|apply Kd.R_drewN|apply Kd.R_drew));exact HO_5.out⟩,⟨by (with_reducible repeat (first|apply Kd.R_alloc|apply Kd.R_drewN|apply Kd.R_drew));exact HO_6.out⟩,⟨by (with_reducible repeat (first|apply Kd.R_alloc|apply Kd.R_drewN|apply Kd.R_drew));exact HO_8.out⟩,⟨by repeat (first|(with_reducible first|exact HB.out|apply bwA|apply bwN|apply bw1)|exact HB.out)⟩⟩
                       ·rw [if_neg c44] at H
                        have c44b0 : (t550 == t553) = false:=beq_eq_false_iff_ne.mpr c44
                        have c44b1 : (t550 != t553) = true:=bne_iff_ne.mpr c44
                        have H':=aMk H
                        clear H
                        try go_wp2
                        have n0_:=aMk (Kd.R_drew HO_5.out)
                        have n1_:=aMk (Kd.R_drew HO_6.out)
                        have n2_:=aMk (Kd.R_drew HO_8.out)
                        have n3_:=aMk (bw1 HB.out)
                        clear HO_5
                        clear HO_6
                        clear HO_8
                        clear HB
                        have HO_5:=n0_
                        have HO_6:=n1_
                        have HO_8:=n2_
                        have HB:=n3_
                        clear n0_ n1_ n2_ n3_
                        have p555 : 0 ≤ (x10_3 : Int):=of_decide_eq_true (by first|(with_reducible assumption) | assumption)
                        have q555 : x10_3 < (t539.length : Int):=of_decide_eq_true (by first|(with_reducible assumption) | assumption)
                        obtain ⟨ad555,e555,hx555_0,hx555_1⟩:=at_T31 (Kd.R_reads' HO_6.out).2.2 x10_3 p555 q555
                        cases e555
                        replace p555:=eq_true p555
                        replace q555:=eq_true q555
                        obtain ⟨Ao52,co52,eo52⟩:=Kd.R_slice HO_8.out
                        (first|subst eo52|(injection eo52 with f1_ f2_ f3_;have f4_:=f1_.symm;have f5_:=f3_.symm;clear f1_ f2_ f3_;subst f4_;subst f5_))
                        have p556 : 0 ≤ (x10_3 : Int):=of_decide_eq_true (by first|(with_reducible assumption) | assumption)
                        have q556 : x10_3 < (t543.length : Int):=of_decide_eq_true (by first|(with_reducible assumption) | assumption)
                        obtain ⟨ad556,e556,hx556_0,hx556_1⟩:=at_T31 (Kd.R_reads' HO_8.out).2.2 x10_3 p556 q556
                        cases e556
                        replace p556:=eq_true p556
                        replace q556:=eq_true q556
                        refine start_ (n:=31) (S:=fun w' => w'.cell? (ad555.add ((x10_3).toNat * 2)) = some (.int .i64 ((rd_T31 t539 x10_3).f0)) ∧ w'.cell? ⟨(ad555.add ((x10_3).toNat * 2)).block,(ad555.add ((x10_3).toNat * 2)).off + 1,none⟩ = some (.int .i64 ((rd_T31 t539 x10_3).f1)) ∧ w'.cell? (ad556.add ((x10_3).toNat * 2)) = some (.int .i64 ((rd_T31 t543 x10_3).f0)) ∧ w'.cell? ⟨(ad556.add ((x10_3).toNat * 2)).block,(ad556.add ((x10_3).toNat * 2)).off + 1,none⟩ = some (.int .i64 ((rd_T31 t543 x10_3).f1))) (ds:=[]) #[false,false,false,false,false,false,false,false,false,false,false,false,false,false,false,false,false,false,false,false,false,false,false,false,false,false,false,false,false,false,false] (by kernel_rfl) rfl rfl ⟨hx555_0,hx555_1,hx556_0,hx556_1⟩ (fun hHeld => ?_);refine with_tabW laws_FnOrder.tab13 laws_FnOrder.bits13 (fun HT_ HW_ => ?_)
                        generalize w38.drew = w51 at HO_5 HO_6 HO_8 HB hx555_0 hx555_1 hx556_0 hx556_1 hHeld ⊢
                        refine pU (i:=0) (N:=some 92) #[true,false,false,false,false,false,false,false,false,false,false,false,false,false,false,false,false,false,false,false,false,false,false,false,false,false,false,false,false,false,false] (any_of HT_.out (by kernel_rfl)) ?_
                        refine pU (i:=1) (N:=some 93) #[true,true,false,false,false,false,false,false,false,false,false,false,false,false,false,false,false,false,false,false,false,false,false,false,false,false,false,false,false,false,false] (any_of HT_.out (by kernel_rfl)) ?_
                        refine pU (i:=2) (N:=some 94) #[true,true,true,false,false,false,false,false,false,false,false,false,false,false,false,false,false,false,false,false,false,false,false,false,false,false,false,false,false,false,false] (any_of HT_.out (by kernel_rfl)) ?_
                        refine pU (i:=4) (N:=some 96) #[true,true,true,false,true,false,false,false,false,false,false,false,false,false,false,false,false,false,false,false,false,false,false,false,false,false,false,false,false,false,false] (any_of HT_.out (by kernel_rfl)) ?_
                        refine pU (i:=5) (N:=some 97) #[true,true,true,false,true,true,false,false,false,false,false,false,false,false,false,false,false,false,false,false,false,false,false,false,false,false,false,false,false,false,false] (any_of HT_.out (by kernel_rfl)) ?_
                        refine pU (i:=6) (N:=some 98) #[true,true,true,false,true,true,true,false,false,false,false,false,false,false,false,false,false,false,false,false,false,false,false,false,false,false,false,false,false,false,false] (any_of HT_.out (by kernel_rfl)) ?_
                        refine tU4 (i:=3) (N:=some 95) #[true,true,true,true,true,true,true,false,false,false,false,false,false,false,false,false,false,false,false,false,false,false,false,false,false,false,false,false,false,false,false] (take_ofW HT_.out HW_.out (by kernel_rfl)) hHeld ?_
                        refine tU4 (i:=7) (N:=some 99) #[true,true,true,true,true,true,true,true,false,false,false,false,false,false,false,false,false,false,false,false,false,false,false,false,false,false,false,false,false,false,false] (take_ofW HT_.out HW_.out (by kernel_rfl)) hHeld ?_
                        refine pU (i:=8) (N:=some 100) #[true,true,true,true,true,true,true,true,true,false,false,false,false,false,false,false,false,false,false,false,false,false,false,false,false,false,false,false,false,false,false] (any_of HT_.out (by kernel_rfl)) ?_
                        refine pU (i:=9) (N:=some 101) #[true,true,true,true,true,true,true,true,true,true,false,false,false,false,false,false,false,false,false,false,false,false,false,false,false,false,false,false,false,false,false] (any_of HT_.out (by kernel_rfl)) ?_
                        refine pU (i:=10) (N:=some 102) #[true,true,true,true,true,true,true,true,true,true,true,false,false,false,false,false,false,false,false,false,false,false,false,false,false,false,false,false,false,false,false] (any_of HT_.out (by kernel_rfl)) ?_
                        refine pU (i:=11) (N:=some 103) #[true,true,true,true,true,true,true,true,true,true,true,true,false,false,false,false,false,false,false,false,false,false,false,false,false,false,false,false,false,false,false] (any_of HT_.out (by kernel_rfl)) ?_
                        refine pU (i:=12) (N:=some 104) #[true,true,true,true,true,true,true,true,true,true,true,true,true,false,false,false,false,false,false,false,false,false,false,false,false,false,false,false,false,false,false] (any_of HT_.out (by kernel_rfl)) ?_
                        refine pU (i:=13) (N:=some 105) #[true,true,true,true,true,true,true,true,true,true,true,true,true,true,false,false,false,false,false,false,false,false,false,false,false,false,false,false,false,false,false] (any_of HT_.out (by kernel_rfl)) ?_
                        refine pU (i:=14) (N:=some 106) #[true,true,true,true,true,true,true,true,true,true,true,true,true,true,true,false,false,false,false,false,false,false,false,false,false,false,false,false,false,false,false] (any_of HT_.out (by kernel_rfl)) ?_
                        refine pU (i:=15) (N:=some 107) #[true,true,true,true,true,true,true,true,true,true,true,true,true,true,true,true,false,false,false,false,false,false,false,false,false,false,false,false,false,false,false] (any_of HT_.out (by kernel_rfl)) ?_
                        refine pU (i:=16) (N:=some 108) #[true,true,true,true,true,true,true,true,true,true,true,true,true,true,true,true,true,false,false,false,false,false,false,false,false,false,false,false,false,false,false] (any_of HT_.out (by kernel_rfl)) ?_
                        refine pU (i:=17) (N:=some 109) #[true,true,true,true,true,true,true,true,true,true,true,true,true,true,true,true,true,true,false,false,false,false,false,false,false,false,false,false,false,false,false] (any_of HT_.out (by kernel_rfl)) ?_
                        refine pU (i:=18) (N:=some 110) #[true,true,true,true,true,true,true,true,true,true,true,true,true,true,true,true,true,true,true,false,false,false,false,false,false,false,false,false,false,false,false] (any_of HT_.out (by kernel_rfl)) ?_
                        refine pure_ (i:=19) (N:=some 111) (v:=undef) (a':=?_) #[true,true,true,true,true,true,true,true,true,true,true,true,true,true,true,true,true,true,true,true,false,false,false,false,false,false,false,false,false,false,false] rfl rfl (any_of HT_.out (by kernel_rfl)) (fun _ _ _ h => h) (Or.inr ⟨by rfl,rfl⟩) ?_ ?_
                        rotate_left
                        ·simp only [Act.put,List.setIfInBounds_toArray,List.set_cons_zero,List.set_cons_succ,i64_w,i32_w]
                         rfl
                        refine pure_ (i:=20) (N:=some 112) (v:=undef) (a':=?_) #[true,true,true,true,true,true,true,true,true,true,true,true,true,true,true,true,true,true,true,true,true,false,false,false,false,false,false,false,false,false,false] rfl rfl (any_of HT_.out (by kernel_rfl)) (fun _ _ _ h => h) (Or.inr ⟨by rfl,rfl⟩) ?_ ?_
                        rotate_left
                        ·simp only [Act.put,List.setIfInBounds_toArray,List.set_cons_zero,List.set_cons_succ,i64_w,i32_w]
                         rfl
                        refine pure_ (i:=21) (N:=some 113) (v:=undef) (a':=?_) #[true,true,true,true,true,true,true,true,true,true,true,true,true,true,true,true,true,true,true,true,true,true,false,false,false,false,false,false,false,false,false] rfl rfl (any_of HT_.out (by kernel_rfl)) (fun _ _ _ h => h) (Or.inr ⟨by rfl,rfl⟩) ?_ ?_
                        rotate_left
                        ·simp only [Act.put,List.setIfInBounds_toArray,List.set_cons_zero,List.set_cons_succ,i64_w,i32_w]
                         rfl
                        refine pure_ (i:=22) (N:=some 114) (v:=undef) (a':=?_) #[true,true,true,true,true,true,true,true,true,true,true,true,true,true,true,true,true,true,true,true,true,true,true,false,false,false,false,false,false,false,false] rfl rfl (any_of HT_.out (by kernel_rfl)) (fun _ _ _ h => h) (Or.inr ⟨by rfl,rfl⟩) ?_ ?_
                        rotate_left
                        ·simp only [Act.put,List.setIfInBounds_toArray,List.set_cons_zero,List.set_cons_succ,i64_w,i32_w]
                         rfl
                        refine pure_ (i:=23) (N:=some 115) (v:=undef) (a':=?_) #[true,true,true,true,true,true,true,true,true,true,true,true,true,true,true,true,true,true,true,true,true,true,true,true,false,false,false,false,false,false,false] rfl rfl (any_of HT_.out (by kernel_rfl)) (fun _ _ _ h => h) (Or.inr ⟨by rfl,rfl⟩) ?_ ?_
                        rotate_left
                        ·simp only [Act.put,List.setIfInBounds_toArray,List.set_cons_zero,List.set_cons_succ,i64_w,i32_w]
                         rfl
                        refine pure_ (i:=24) (N:=some 116) (v:=undef) (a':=?_) #[true,true,true,true,true,true,true,true,true,true,true,true,true,true,true,true,true,true,true,true,true,true,true,true,true,false,false,false,false,false,false] rfl rfl (any_of HT_.out (by kernel_rfl)) (fun _ _ _ h => h) (Or.inr ⟨by rfl,rfl⟩) ?_ ?_
                        rotate_left
                        ·simp only [Act.put,List.setIfInBounds_toArray,List.set_cons_zero,List.set_cons_succ,i64_w,i32_w]
                         rfl
                        refine pure_ (i:=25) (N:=some 117) (v:=undef) (a':=?_) #[true,true,true,true,true,true,true,true,true,true,true,true,true,true,true,true,true,true,true,true,true,true,true,true,true,true,false,false,false,false,false] rfl rfl (any_of HT_.out (by kernel_rfl)) (fun _ _ _ h => h) (Or.inr ⟨by rfl,rfl⟩) ?_ ?_
                        rotate_left
                        ·simp only [Act.put,List.setIfInBounds_toArray,List.set_cons_zero,List.set_cons_succ,i64_w,i32_w]
                         rfl
                        refine pure_ (i:=26) (N:=some 118) (v:=undef) (a':=?_) #[true,true,true,true,true,true,true,true,true,true,true,true,true,true,true,true,true,true,true,true,true,true,true,true,true,true,true,false,false,false,false] rfl rfl (any_of HT_.out (by kernel_rfl)) (fun _ _ _ h => h) (Or.inr ⟨by rfl,rfl⟩) ?_ ?_
                        rotate_left
                        ·simp only [Act.put,List.setIfInBounds_toArray,List.set_cons_zero,List.set_cons_succ,i64_w,i32_w]
                         rfl
                        refine pure_ (i:=27) (N:=some 119) (v:=undef) (a':=?_) #[true,true,true,true,true,true,true,true,true,true,true,true,true,true,true,true,true,true,true,true,true,true,true,true,true,true,true,true,false,false,false] rfl rfl (any_of HT_.out (by kernel_rfl)) (fun _ _ _ h => h) (Or.inr ⟨by rfl,rfl⟩) ?_ ?_
                        rotate_left
                        ·simp only [Act.put,List.setIfInBounds_toArray,List.set_cons_zero,List.set_cons_succ,i64_w,i32_w]
                         rfl
                        refine pure_ (i:=28) (N:=some 120) (v:=undef) (a':=?_) #[true,true,true,true,true,true,true,true,true,true,true,true,true,true,true,true,true,true,true,true,true,true,true,true,true,true,true,true,true,false,false] rfl rfl (any_of HT_.out (by kernel_rfl)) (fun _ _ _ h => h) (Or.inr ⟨by rfl,rfl⟩) ?_ ?_
                        rotate_left
                        ·simp only [Act.put,List.setIfInBounds_toArray,List.set_cons_zero,List.set_cons_succ,i64_w,i32_w]
                         rfl
                        refine pure_ (i:=29) (N:=some 121) (v:=undef) (a':=?_) #[true,true,true,true,true,true,true,true,true,true,true,true,true,true,true,true,true,true,true,true,true,true,true,true,true,true,true,true,true,true,false] rfl rfl (any_of HT_.out (by kernel_rfl)) (fun _ _ _ h => h) (Or.inr ⟨by rfl,rfl⟩) ?_ ?_
                        rotate_left
                        ·simp only [Act.put,List.setIfInBounds_toArray,List.set_cons_zero,List.set_cons_succ,i64_w,i32_w]
                         rfl
                        refine pU (i:=30) (N:=some 122) #[true,true,true,true,true,true,true,true,true,true,true,true,true,true,true,true,true,true,true,true,true,true,true,true,true,true,true,true,true,true,true] (any_of HT_.out (by kernel_rfl)) ?_
                        refine done_ (done_of HT_.out (by kernel_rfl)) ?_
                        try go_wp2
                        go_meet
                        case rel => exact ⟨_,(true),(by first | rfl|(simp;done)|(simp [*];done)|(simp [ne_nil_b];done)|(simp [ne_nil_b, *];done)),H',⟨by have:=HJ2.out;have:=HJ11.out;have:=HK3.out;first | omega|exact Nat.le_refl _⟩,⟨by (with_reducible repeat (first|apply Kd.R_alloc|apply Kd.R_drewN|apply Kd.R_drew));exact HO_5.out⟩,⟨by (with_reducible repeat (first|apply Kd.R_alloc|apply Kd.R_drewN|apply Kd.R_drew));exact HO_6.out⟩,⟨by (with_reducible repeat (first|apply Kd.R_alloc|apply Kd.R_drewN|apply Kd.R_drew));exact HO_8.out⟩,⟨by repeat (first|(with_reducible first|exact HB.out|apply bwA|apply bwN|apply bw1)|exact HB.out)⟩⟩
                     ·rw [if_neg c43] at H
                      as_aux_lemma =>
                       have c43b0 : (t551 == 0) = false:=beq_eq_false_iff_ne.mpr c43
                       have c43b1 : (t551 != 0) = true:=bne_iff_ne.mpr c43
                       have H':=aMk H
                       clear H
                       try go_wp2
                       have n0_:=aMk (Kd.R_drew HO_5.out)
                       have n1_:=aMk (Kd.R_drew HO_6.out)
                       have n2_:=aMk (Kd.R_drew HO_8.out)
                       have n3_:=aMk (bw1 HB.out)
                       clear HO_5
                       clear HO_6
                       clear HO_8
                       clear HB
                       have HO_5:=n0_
                       have HO_6:=n1_
                       have HO_8:=n2_
                       have HB:=n3_
                       clear n0_ n1_ n2_ n3_
                       have p555 : 0 ≤ (x10_3 : Int):=of_decide_eq_true (by first|(with_reducible assumption) | assumption)
                       have q555 : x10_3 < (t539.length : Int):=of_decide_eq_true (by first|(with_reducible assumption) | assumption)
                       obtain ⟨ad555,e555,hx555_0,hx555_1⟩:=at_T31 (Kd.R_reads' HO_6.out).2.2 x10_3 p555 q555
                       cases e555
                       replace p555:=eq_true p555
                       replace q555:=eq_true q555
                       obtain ⟨Ao54,co54,eo54⟩:=Kd.R_slice HO_8.out
                       (first|subst eo54|(injection eo54 with f1_ f2_ f3_;have f4_:=f1_.symm;have f5_:=f3_.symm;clear f1_ f2_ f3_;subst f4_;subst f5_))
                       have p556 : 0 ≤ (x10_3 : Int):=of_decide_eq_true (by first|(with_reducible assumption) | assumption)
                       have q556 : x10_3 < (t543.length : Int):=of_decide_eq_true (by first|(with_reducible assumption) | assumption)
                       obtain ⟨ad556,e556,hx556_0,hx556_1⟩:=at_T31 (Kd.R_reads' HO_8.out).2.2 x10_3 p556 q556
                       cases e556
                       replace p556:=eq_true p556
                       replace q556:=eq_true q556
                       refine start_ (n:=31) (S:=fun w' => w'.cell? (ad555.add ((x10_3).toNat * 2)) = some (.int .i64 ((rd_T31 t539 x10_3).f0)) ∧ w'.cell? ⟨(ad555.add ((x10_3).toNat * 2)).block,(ad555.add ((x10_3).toNat * 2)).off + 1,none⟩ = some (.int .i64 ((rd_T31 t539 x10_3).f1)) ∧ w'.cell? (ad556.add ((x10_3).toNat * 2)) = some (.int .i64 ((rd_T31 t543 x10_3).f0)) ∧ w'.cell? ⟨(ad556.add ((x10_3).toNat * 2)).block,(ad556.add ((x10_3).toNat * 2)).off + 1,none⟩ = some (.int .i64 ((rd_T31 t543 x10_3).f1))) (ds:=[]) #[false,false,false,false,false,false,false,false,false,false,false,false,false,false,false,false,false,false,false,false,false,false,false,false,false,false,false,false,false,false,false] (by kernel_rfl) rfl rfl ⟨hx555_0,hx555_1,hx556_0,hx556_1⟩ (fun hHeld => ?_);refine with_tabW laws_FnOrder.tab13 laws_FnOrder.bits13 (fun HT_ HW_ => ?_)
                       generalize w38.drew = w53 at HO_5 HO_6 HO_8 HB hx555_0 hx555_1 hx556_0 hx556_1 hHeld ⊢
                       refine pU (i:=0) (N:=some 92) #[true,false,false,false,false,false,false,false,false,false,false,false,false,false,false,false,false,false,false,false,false,false,false,false,false,false,false,false,false,false,false] (any_of HT_.out (by kernel_rfl)) ?_
                       refine pU (i:=1) (N:=some 93) #[true,true,false,false,false,false,false,false,false,false,false,false,false,false,false,false,false,false,false,false,false,false,false,false,false,false,false,false,false,false,false] (any_of HT_.out (by kernel_rfl)) ?_
                       refine pU (i:=2) (N:=some 94) #[true,true,true,false,false,false,false,false,false,false,false,false,false,false,false,false,false,false,false,false,false,false,false,false,false,false,false,false,false,false,false] (any_of HT_.out (by kernel_rfl)) ?_
                       refine pU (i:=4) (N:=some 96) #[true,true,true,false,true,false,false,false,false,false,false,false,false,false,false,false,false,false,false,false,false,false,false,false,false,false,false,false,false,false,false] (any_of HT_.out (by kernel_rfl)) ?_
                       refine pU (i:=5) (N:=some 97) #[true,true,true,false,true,true,false,false,false,false,false,false,false,false,false,false,false,false,false,false,false,false,false,false,false,false,false,false,false,false,false] (any_of HT_.out (by kernel_rfl)) ?_
                       refine pU (i:=6) (N:=some 98) #[true,true,true,false,true,true,true,false,false,false,false,false,false,false,false,false,false,false,false,false,false,false,false,false,false,false,false,false,false,false,false] (any_of HT_.out (by kernel_rfl)) ?_
                       refine tU4 (i:=3) (N:=some 95) #[true,true,true,true,true,true,true,false,false,false,false,false,false,false,false,false,false,false,false,false,false,false,false,false,false,false,false,false,false,false,false] (take_ofW HT_.out HW_.out (by kernel_rfl)) hHeld ?_
                       refine tU4 (i:=7) (N:=some 99) #[true,true,true,true,true,true,true,true,false,false,false,false,false,false,false,false,false,false,false,false,false,false,false,false,false,false,false,false,false,false,false] (take_ofW HT_.out HW_.out (by kernel_rfl)) hHeld ?_
                       refine pU (i:=8) (N:=some 100) #[true,true,true,true,true,true,true,true,true,false,false,false,false,false,false,false,false,false,false,false,false,false,false,false,false,false,false,false,false,false,false] (any_of HT_.out (by kernel_rfl)) ?_
                       refine pU (i:=9) (N:=some 101) #[true,true,true,true,true,true,true,true,true,true,false,false,false,false,false,false,false,false,false,false,false,false,false,false,false,false,false,false,false,false,false] (any_of HT_.out (by kernel_rfl)) ?_
                       refine pU (i:=10) (N:=some 102) #[true,true,true,true,true,true,true,true,true,true,true,false,false,false,false,false,false,false,false,false,false,false,false,false,false,false,false,false,false,false,false] (any_of HT_.out (by kernel_rfl)) ?_
                       refine pU (i:=11) (N:=some 103) #[true,true,true,true,true,true,true,true,true,true,true,true,false,false,false,false,false,false,false,false,false,false,false,false,false,false,false,false,false,false,false] (any_of HT_.out (by kernel_rfl)) ?_
                       refine pU (i:=12) (N:=some 104) #[true,true,true,true,true,true,true,true,true,true,true,true,true,false,false,false,false,false,false,false,false,false,false,false,false,false,false,false,false,false,false] (any_of HT_.out (by kernel_rfl)) ?_
                       refine pU (i:=13) (N:=some 105) #[true,true,true,true,true,true,true,true,true,true,true,true,true,true,false,false,false,false,false,false,false,false,false,false,false,false,false,false,false,false,false] (any_of HT_.out (by kernel_rfl)) ?_
                       refine pure_ (i:=14) (N:=some 106) (v:=undef) (a':=?_) #[true,true,true,true,true,true,true,true,true,true,true,true,true,true,true,false,false,false,false,false,false,false,false,false,false,false,false,false,false,false,false] rfl rfl (any_of HT_.out (by kernel_rfl)) (fun _ _ _ h => h) (Or.inr ⟨by rfl,rfl⟩) ?_ ?_
                       rotate_left
                       ·simp only [Act.put,List.setIfInBounds_toArray,List.set_cons_zero,List.set_cons_succ,i64_w,i32_w]
                        rfl
                       refine pure_ (i:=15) (N:=some 107) (v:=undef) (a':=?_) #[true,true,true,true,true,true,true,true,true,true,true,true,true,true,true,true,false,false,false,false,false,false,false,false,false,false,false,false,false,false,false] rfl rfl (any_of HT_.out (by kernel_rfl)) (fun _ _ _ h => h) (Or.inr ⟨by rfl,rfl⟩) ?_ ?_
                       rotate_left
                       ·simp only [Act.put,List.setIfInBounds_toArray,List.set_cons_zero,List.set_cons_succ,i64_w,i32_w]
                        rfl
                       refine pure_ (i:=16) (N:=some 108) (v:=undef) (a':=?_) #[true,true,true,true,true,true,true,true,true,true,true,true,true,true,true,true,true,false,false,false,false,false,false,false,false,false,false,false,false,false,false] rfl rfl (any_of HT_.out (by kernel_rfl)) (fun _ _ _ h => h) (Or.inr ⟨by rfl,rfl⟩) ?_ ?_
                       rotate_left
                       ·simp only [Act.put,List.setIfInBounds_toArray,List.set_cons_zero,List.set_cons_succ,i64_w,i32_w]
                        rfl
                       refine pU (i:=17) (N:=some 109) #[true,true,true,true,true,true,true,true,true,true,true,true,true,true,true,true,true,true,false,false,false,false,false,false,false,false,false,false,false,false,false] (any_of HT_.out (by kernel_rfl)) ?_
                       refine pU (i:=18) (N:=some 110) #[true,true,true,true,true,true,true,true,true,true,true,true,true,true,true,true,true,true,true,false,false,false,false,false,false,false,false,false,false,false,false] (any_of HT_.out (by kernel_rfl)) ?_
                       refine pure_ (i:=19) (N:=some 111) (v:=undef) (a':=?_) #[true,true,true,true,true,true,true,true,true,true,true,true,true,true,true,true,true,true,true,true,false,false,false,false,false,false,false,false,false,false,false] rfl rfl (any_of HT_.out (by kernel_rfl)) (fun _ _ _ h => h) (Or.inr ⟨by rfl,rfl⟩) ?_ ?_
                       rotate_left
                       ·simp only [Act.put,List.setIfInBounds_toArray,List.set_cons_zero,List.set_cons_succ,i64_w,i32_w]
                        rfl
                       refine pure_ (i:=20) (N:=some 112) (v:=undef) (a':=?_) #[true,true,true,true,true,true,true,true,true,true,true,true,true,true,true,true,true,true,true,true,true,false,false,false,false,false,false,false,false,false,false] rfl rfl (any_of HT_.out (by kernel_rfl)) (fun _ _ _ h => h) (Or.inr ⟨by rfl,rfl⟩) ?_ ?_
                       rotate_left
                       ·simp only [Act.put,List.setIfInBounds_toArray,List.set_cons_zero,List.set_cons_succ,i64_w,i32_w]
                        rfl
                       refine pure_ (i:=21) (N:=some 113) (v:=undef) (a':=?_) #[true,true,true,true,true,true,true,true,true,true,true,true,true,true,true,true,true,true,true,true,true,true,false,false,false,false,false,false,false,false,false] rfl rfl (any_of HT_.out (by kernel_rfl)) (fun _ _ _ h => h) (Or.inr ⟨by rfl,rfl⟩) ?_ ?_
                       rotate_left
                       ·simp only [Act.put,List.setIfInBounds_toArray,List.set_cons_zero,List.set_cons_succ,i64_w,i32_w]
                        rfl
                       refine pure_ (i:=22) (N:=some 114) (v:=undef) (a':=?_) #[true,true,true,true,true,true,true,true,true,true,true,true,true,true,true,true,true,true,true,true,true,true,true,false,false,false,false,false,false,false,false] rfl rfl (any_of HT_.out (by kernel_rfl)) (fun _ _ _ h => h) (Or.inr ⟨by rfl,rfl⟩) ?_ ?_
                       rotate_left
                       ·simp only [Act.put,List.setIfInBounds_toArray,List.set_cons_zero,List.set_cons_succ,i64_w,i32_w]
                        rfl
                       refine pure_ (i:=23) (N:=some 115) (v:=undef) (a':=?_) #[true,true,true,true,true,true,true,true,true,true,true,true,true,true,true,true,true,true,true,true,true,true,true,true,false,false,false,false,false,false,false] rfl rfl (any_of HT_.out (by kernel_rfl)) (fun _ _ _ h => h) (Or.inr ⟨by rfl,rfl⟩) ?_ ?_
                       rotate_left
                       ·simp only [Act.put,List.setIfInBounds_toArray,List.set_cons_zero,List.set_cons_succ,i64_w,i32_w]
                        rfl
                       refine pure_ (i:=24) (N:=some 116) (v:=undef) (a':=?_) #[true,true,true,true,true,true,true,true,true,true,true,true,true,true,true,true,true,true,true,true,true,true,true,true,true,false,false,false,false,false,false] rfl rfl (any_of HT_.out (by kernel_rfl)) (fun _ _ _ h => h) (Or.inr ⟨by rfl,rfl⟩) ?_ ?_
                       rotate_left
                       ·simp only [Act.put,List.setIfInBounds_toArray,List.set_cons_zero,List.set_cons_succ,i64_w,i32_w]
                        rfl
                       refine pure_ (i:=25) (N:=some 117) (v:=undef) (a':=?_) #[true,true,true,true,true,true,true,true,true,true,true,true,true,true,true,true,true,true,true,true,true,true,true,true,true,true,false,false,false,false,false] rfl rfl (any_of HT_.out (by kernel_rfl)) (fun _ _ _ h => h) (Or.inr ⟨by rfl,rfl⟩) ?_ ?_
                       rotate_left
                       ·simp only [Act.put,List.setIfInBounds_toArray,List.set_cons_zero,List.set_cons_succ,i64_w,i32_w]
                        rfl
                       refine pure_ (i:=26) (N:=some 118) (v:=undef) (a':=?_) #[true,true,true,true,true,true,true,true,true,true,true,true,true,true,true,true,true,true,true,true,true,true,true,true,true,true,true,false,false,false,false] rfl rfl (any_of HT_.out (by kernel_rfl)) (fun _ _ _ h => h) (Or.inr ⟨by rfl,rfl⟩) ?_ ?_
                       rotate_left
                       ·simp only [Act.put,List.setIfInBounds_toArray,List.set_cons_zero,List.set_cons_succ,i64_w,i32_w]
                        rfl
                       refine pure_ (i:=27) (N:=some 119) (v:=undef) (a':=?_) #[true,true,true,true,true,true,true,true,true,true,true,true,true,true,true,true,true,true,true,true,true,true,true,true,true,true,true,true,false,false,false] rfl rfl (any_of HT_.out (by kernel_rfl)) (fun _ _ _ h => h) (Or.inr ⟨by rfl,rfl⟩) ?_ ?_
                       rotate_left
                       ·simp only [Act.put,List.setIfInBounds_toArray,List.set_cons_zero,List.set_cons_succ,i64_w,i32_w]
                        rfl
                       refine pure_ (i:=28) (N:=some 120) (v:=undef) (a':=?_) #[true,true,true,true,true,true,true,true,true,true,true,true,true,true,true,true,true,true,true,true,true,true,true,true,true,true,true,true,true,false,false] rfl rfl (any_of HT_.out (by kernel_rfl)) (fun _ _ _ h => h) (Or.inr ⟨by rfl,rfl⟩) ?_ ?_
                       rotate_left
                       ·simp only [Act.put,List.setIfInBounds_toArray,List.set_cons_zero,List.set_cons_succ,i64_w,i32_w]
                        rfl
                       refine pure_ (i:=29) (N:=some 121) (v:=undef) (a':=?_) #[true,true,true,true,true,true,true,true,true,true,true,true,true,true,true,true,true,true,true,true,true,true,true,true,true,true,true,true,true,true,false] rfl rfl (any_of HT_.out (by kernel_rfl)) (fun _ _ _ h => h) (Or.inr ⟨by rfl,rfl⟩) ?_ ?_
                       rotate_left
                       ·simp only [Act.put,List.setIfInBounds_toArray,List.set_cons_zero,List.set_cons_succ,i64_w,i32_w]
                        rfl
                       refine pU (i:=30) (N:=some 122) #[true,true,true,true,true,true,true,true,true,true,true,true,true,true,true,true,true,true,true,true,true,true,true,true,true,true,true,true,true,true,true] (any_of HT_.out (by kernel_rfl)) ?_
                       refine done_ (done_of HT_.out (by kernel_rfl)) ?_
                       try go_wp2
                       go_meet
                       case rel => exact ⟨_,(true),(by first | rfl|(simp;done)|(simp [*];done)|(simp [ne_nil_b];done)|(simp [ne_nil_b, *];done)),H',⟨by have:=HJ2.out;have:=HJ11.out;have:=HK3.out;first | omega|exact Nat.le_refl _⟩,⟨by (with_reducible repeat (first|apply Kd.R_alloc|apply Kd.R_drewN|apply Kd.R_drew));exact HO_5.out⟩,⟨by (with_reducible repeat (first|apply Kd.R_alloc|apply Kd.R_drewN|apply Kd.R_drew));exact HO_6.out⟩,⟨by (with_reducible repeat (first|apply Kd.R_alloc|apply Kd.R_drewN|apply Kd.R_drew));exact HO_8.out⟩,⟨by repeat (first|(with_reducible first|exact HB.out|apply bwA|apply bwN|apply bw1)|exact HB.out)⟩⟩
                   ·rw [if_neg c39] at H
                    exact absurd H (by simp)
                 case rest =>
                  as_aux_lemma =>
                   clear HC35
                   try clear c1
                   try clear p2
                   try clear c3
                   try clear c4
                   try clear p5
                   try clear q5
                   try clear hx5
                   try clear c16
                   try clear c17
                   try clear c39
                   try clear c43
                   try clear c43b0
                   try clear c43b1
                   try clear c44
                   try clear c44b0
                   try clear c44b1
                   try clear hx555_0
                   try clear hx555_1
                   try clear hx556_0
                   try clear hx556_1
                   try clear p555
                   try clear p556
                   try clear q555
                   try clear q556
                   obtain ⟨kq,x122_34,rfl,HA,HJ34,HO_5,HO_6,HO_8,HB⟩:=hcut
                   cases kq with
                   | zero => exact absurd HA.out (by simp [laws_FnOrder.j3])
                   | succ kj34 =>
                    have H:=HA.out
                    clear HA
                    simp only [laws_FnOrder.j3] at H
                    by_cases c55 : x122_34 = true
                    ·subst c55
                     have H1 : (some false) = some r:=by rw [if_pos rfl] at H;exact H
                     clear H
                     have H:=H1
                     clear H1
                     exact absurd ((Option.some.inj H).trans HRT_.out) (by decide)
                    ·replace c55:=Bool.eq_false_iff.mpr c55
                     subst c55
                     have H1 : (if x10_3 = 0 then (laws_FnOrder.l0 kj34 y536 t539 t543 (wrap64 (x10_3 + 1))) else (if 0 ≤ (wrap64 (x10_3 - 1)) then (if (wrap64 (x10_3 - 1)) < (t539.length : Int) then (if 0 ≤ x10_3 then (if x10_3 < (t539.length : Int) then ((impl_OrderOf.f kj34 ((rd_T31 t539 (wrap64 (x10_3 - 1))).f0) ((rd_T31 t539 (wrap64 (x10_3 - 1))).f1) ((rd_T31 t539 x10_3).f0) ((rd_T31 t539 x10_3).f1)).bind fun bt563 => ((impl_OrderOf.f kj34 ((rd_T31 t539 x10_3).f0) ((rd_T31 t539 x10_3).f1) ((rd_T31 t539 (wrap64 (x10_3 - 1))).f0) ((rd_T31 t539 (wrap64 (x10_3 - 1))).f1)).bind fun bt567 => ((impl_NegOf.f ((rd_T31 t539 (wrap64 (x10_3 - 1))).f0) ((rd_T31 t539 (wrap64 (x10_3 - 1))).f1)).bind fun bt570 => ((impl_NegOf.f ((rd_T31 t539 x10_3).f0) ((rd_T31 t539 x10_3).f1)).bind fun bt575 => ((impl_OrderOf.f kj34 bt570.1 bt570.2.1 bt575.1 bt575.2.1).bind fun bt579 => ((impl_ClassOf.f ((rd_T31 t539 (wrap64 (x10_3 - 1))).f0) ((rd_T31 t539 (wrap64 (x10_3 - 1))).f1)).bind fun bt582 => (if bt563.2 = 0 then (if bt567.2 = 0 then (if bt570.2.2 = 0 then (if bt575.2.2 = 0 then (if bt579.2 = 0 then (if bt582.2 = 0 then (if bt563.1 > 0 then (some false) else (if bt563.1 = (wrap64 (-bt567.1)) then (if bt582.1 = 0 then (laws_FnOrder.l0 kj34 y536 t539 t543 (wrap64 (x10_3 + 1))) else (if bt579.1 = bt567.1 then (laws_FnOrder.l0 kj34 y536 t539 t543 (wrap64 (x10_3 + 1))) else (some false))) else (some false))) else (some false)) else (some false)) else (some false)) else (some false)) else (some false)) else (some false)))))))) else (none)) else (none)) else (none)) else (none))) = some r:=by rw [if_neg (show ¬ (false = true) by decide)] at H;exact H
                     clear H
                     have H:=H1
                     clear H1
                     by_cases c56 : x10_3 = 0
                     ·rw [if_pos c56] at H
                      have c56b0 : (x10_3 == 0) = true:=beq_iff_eq.mpr c56
                      have c56b1 : (x10_3 != 0) = false:=bne_eq_false_iff_eq.mpr c56
                      clear c56
                      have H':=aMk H
                      clear H
                      go_wp2
                      go_roundg kj34
                      case measure => have:=HJ2.out;have:=HJ11.out;have:=HK3.out;have:=HJ34.out;omega
                      case rel => exact ⟨(wrap64 (x10_3 + 1)),(by first | rfl|(simp;done)|(simp [*];done)|(simp [ne_nil_b];done)|(simp [ne_nil_b, *];done)),H',⟨by have:=HJ2.out;have:=HJ11.out;have:=HK3.out;have:=HJ34.out;omega⟩,⟨by (with_reducible repeat (first|apply Kd.R_alloc|apply Kd.R_drewN|apply Kd.R_drew));exact HO_5.out⟩,⟨by (with_reducible repeat (first|apply Kd.R_alloc|apply Kd.R_drewN|apply Kd.R_drew));exact HO_6.out⟩,⟨by (with_reducible repeat (first|apply Kd.R_alloc|apply Kd.R_drewN|apply Kd.R_drew));exact HO_8.out⟩,⟨by repeat (first|(with_reducible first|exact HB.out|apply bwA|apply bwN|apply bw1)|exact HB.out)⟩⟩
                     ·rw [if_neg c56] at H
                      have c56b0 : (x10_3 == 0) = false:=beq_eq_false_iff_ne.mpr c56
                      have c56b1 : (x10_3 != 0) = true:=bne_iff_ne.mpr c56
                      obtain ⟨ji57,hji57⟩ : ∃ j_ : Int,(wrap64 (x10_3 - 1)) = j_:=⟨_,rfl⟩
                      replace H : (if 0 ≤ (ji57) then (if (ji57) < (t539.length : Int) then (if 0 ≤ x10_3 then (if x10_3 < (t539.length : Int) then ((impl_OrderOf.f kj34 ((rd_T31 t539 (ji57)).f0) ((rd_T31 t539 (ji57)).f1) ((rd_T31 t539 x10_3).f0) ((rd_T31 t539 x10_3).f1)).bind fun bt563 => ((impl_OrderOf.f kj34 ((rd_T31 t539 x10_3).f0) ((rd_T31 t539 x10_3).f1) ((rd_T31 t539 (ji57)).f0) ((rd_T31 t539 (ji57)).f1)).bind fun bt567 => ((impl_NegOf.f ((rd_T31 t539 (ji57)).f0) ((rd_T31 t539 (ji57)).f1)).bind fun bt570 => ((impl_NegOf.f ((rd_T31 t539 x10_3).f0) ((rd_T31 t539 x10_3).f1)).bind fun bt575 => ((impl_OrderOf.f kj34 bt570.1 bt570.2.1 bt575.1 bt575.2.1).bind fun bt579 => ((impl_ClassOf.f ((rd_T31 t539 (ji57)).f0) ((rd_T31 t539 (ji57)).f1)).bind fun bt582 => (if bt563.2 = 0 then (if bt567.2 = 0 then (if bt570.2.2 = 0 then (if bt575.2.2 = 0 then (if bt579.2 = 0 then (if bt582.2 = 0 then (if bt563.1 > 0 then (some false) else (if bt563.1 = (wrap64 (-bt567.1)) then (if bt582.1 = 0 then (laws_FnOrder.l0 kj34 y536 t539 t543 (wrap64 (x10_3 + 1))) else (if bt579.1 = bt567.1 then (laws_FnOrder.l0 kj34 y536 t539 t543 (wrap64 (x10_3 + 1))) else (some false))) else (some false))) else (some false)) else (some false)) else (some false)) else (some false)) else (some false)) else (some false)))))))) else (none)) else (none)) else (none)) else (none)) = some r:=by first|(rw [hji57] at H;exact H)|(simp only [hji57] at H ⊢;exact H)
                      have hji57w : (IntKind.i64.wrap (x10_3 - 1)) = ji57:=(i64_w _).trans hji57
                      by_cases c58 : 0 ≤ (ji57)
                      ·rw [if_pos c58] at H
                       have c58b0 : decide (0 ≤ (ji57)) = true:=decide_eq_true c58
                       clear c58
                       by_cases c59 : (ji57) < (t539.length : Int)
                       ·rw [if_pos c59] at H
                        have c59b0 : decide ((ji57) < (t539.length : Int)) = true:=decide_eq_true c59
                        clear c59
                        by_cases c60 : 0 ≤ x10_3
                        ·rw [if_pos c60] at H
                         have c60b0 : decide (0 ≤ x10_3) = true:=decide_eq_true c60
                         clear c60
                         by_cases c61 : x10_3 < (t539.length : Int)
                         ·rw [if_pos c61] at H
                          have c61b0 : decide (x10_3 < (t539.length : Int)) = true:=decide_eq_true c61
                          clear c61
                          replace H:=Option.bind_eq_some_iff.mp H
                          obtain ⟨⟨t563,t564⟩,A620,H⟩:=H
                          replace H : ((impl_OrderOf.f kj34 ((rd_T31 t539 x10_3).f0) ((rd_T31 t539 x10_3).f1) ((rd_T31 t539 (ji57)).f0) ((rd_T31 t539 (ji57)).f1)).bind fun bt567 => ((impl_NegOf.f ((rd_T31 t539 (ji57)).f0) ((rd_T31 t539 (ji57)).f1)).bind fun bt570 => ((impl_NegOf.f ((rd_T31 t539 x10_3).f0) ((rd_T31 t539 x10_3).f1)).bind fun bt575 => ((impl_OrderOf.f kj34 bt570.1 bt570.2.1 bt575.1 bt575.2.1).bind fun bt579 => ((impl_ClassOf.f ((rd_T31 t539 (ji57)).f0) ((rd_T31 t539 (ji57)).f1)).bind fun bt582 => (if t564 = 0 then (if bt567.2 = 0 then (if bt570.2.2 = 0 then (if bt575.2.2 = 0 then (if bt579.2 = 0 then (if bt582.2 = 0 then (if t563 > 0 then (some false) else (if t563 = (wrap64 (-bt567.1)) then (if bt582.1 = 0 then (laws_FnOrder.l0 kj34 y536 t539 t543 (wrap64 (x10_3 + 1))) else (if bt579.1 = bt567.1 then (laws_FnOrder.l0 kj34 y536 t539 t543 (wrap64 (x10_3 + 1))) else (some false))) else (some false))) else (some false)) else (some false)) else (some false)) else (some false)) else (some false)) else (some false))))))) = some r:=H
                          have A62:=aMk A620
                          clear A620
                          replace H:=Option.bind_eq_some_iff.mp H
                          obtain ⟨⟨t567,t568⟩,A630,H⟩:=H
                          replace H : ((impl_NegOf.f ((rd_T31 t539 (ji57)).f0) ((rd_T31 t539 (ji57)).f1)).bind fun bt570 => ((impl_NegOf.f ((rd_T31 t539 x10_3).f0) ((rd_T31 t539 x10_3).f1)).bind fun bt575 => ((impl_OrderOf.f kj34 bt570.1 bt570.2.1 bt575.1 bt575.2.1).bind fun bt579 => ((impl_ClassOf.f ((rd_T31 t539 (ji57)).f0) ((rd_T31 t539 (ji57)).f1)).bind fun bt582 => (if t564 = 0 then (if t568 = 0 then (if bt570.2.2 = 0 then (if bt575.2.2 = 0 then (if bt579.2 = 0 then (if bt582.2 = 0 then (if t563 > 0 then (some false) else (if t563 = (wrap64 (-t567)) then (if bt582.1 = 0 then (laws_FnOrder.l0 kj34 y536 t539 t543 (wrap64 (x10_3 + 1))) else (if bt579.1 = t567 then (laws_FnOrder.l0 kj34 y536 t539 t543 (wrap64 (x10_3 + 1))) else (some false))) else (some false))) else (some false)) else (some false)) else (some false)) else (some false)) else (some false)) else (some false)))))) = some r:=H
                          have A63:=aMk A630
                          clear A630
                          replace H:=Option.bind_eq_some_iff.mp H
                          obtain ⟨⟨t570,t571,t572⟩,A640,H⟩:=H
                          replace H : ((impl_NegOf.f ((rd_T31 t539 x10_3).f0) ((rd_T31 t539 x10_3).f1)).bind fun bt575 => ((impl_OrderOf.f kj34 t570 t571 bt575.1 bt575.2.1).bind fun bt579 => ((impl_ClassOf.f ((rd_T31 t539 (ji57)).f0) ((rd_T31 t539 (ji57)).f1)).bind fun bt582 => (if t564 = 0 then (if t568 = 0 then (if t572 = 0 then (if bt575.2.2 = 0 then (if bt579.2 = 0 then (if bt582.2 = 0 then (if t563 > 0 then (some false) else (if t563 = (wrap64 (-t567)) then (if bt582.1 = 0 then (laws_FnOrder.l0 kj34 y536 t539 t543 (wrap64 (x10_3 + 1))) else (if bt579.1 = t567 then (laws_FnOrder.l0 kj34 y536 t539 t543 (wrap64 (x10_3 + 1))) else (some false))) else (some false))) else (some false)) else (some false)) else (some false)) else (some false)) else (some false)) else (some false))))) = some r:=H
                          have A64:=aMk A640
                          clear A640
                          replace H:=Option.bind_eq_some_iff.mp H
                          obtain ⟨⟨t575,t576,t577⟩,A650,H⟩:=H
                          replace H : ((impl_OrderOf.f kj34 t570 t571 t575 t576).bind fun bt579 => ((impl_ClassOf.f ((rd_T31 t539 (ji57)).f0) ((rd_T31 t539 (ji57)).f1)).bind fun bt582 => (if t564 = 0 then (if t568 = 0 then (if t572 = 0 then (if t577 = 0 then (if bt579.2 = 0 then (if bt582.2 = 0 then (if t563 > 0 then (some false) else (if t563 = (wrap64 (-t567)) then (if bt582.1 = 0 then (laws_FnOrder.l0 kj34 y536 t539 t543 (wrap64 (x10_3 + 1))) else (if bt579.1 = t567 then (laws_FnOrder.l0 kj34 y536 t539 t543 (wrap64 (x10_3 + 1))) else (some false))) else (some false))) else (some false)) else (some false)) else (some false)) else (some false)) else (some false)) else (some false)))) = some r:=H
                          have A65:=aMk A650
                          clear A650
                          replace H:=Option.bind_eq_some_iff.mp H
                          obtain ⟨⟨t579,t580⟩,A660,H⟩:=H
                          replace H : ((impl_ClassOf.f ((rd_T31 t539 (ji57)).f0) ((rd_T31 t539 (ji57)).f1)).bind fun bt582 => (if t564 = 0 then (if t568 = 0 then (if t572 = 0 then (if t577 = 0 then (if t580 = 0 then (if bt582.2 = 0 then (if t563 > 0 then (some false) else (if t563 = (wrap64 (-t567)) then (if bt582.1 = 0 then (laws_FnOrder.l0 kj34 y536 t539 t543 (wrap64 (x10_3 + 1))) else (if t579 = t567 then (laws_FnOrder.l0 kj34 y536 t539 t543 (wrap64 (x10_3 + 1))) else (some false))) else (some false))) else (some false)) else (some false)) else (some false)) else (some false)) else (some false)) else (some false))) = some r:=H
                          have A66:=aMk A660
                          clear A660
                          replace H:=Option.bind_eq_some_iff.mp H
                          obtain ⟨⟨t582,t583⟩,A670,H⟩:=H
                          replace H : (if t564 = 0 then (if t568 = 0 then (if t572 = 0 then (if t577 = 0 then (if t580 = 0 then (if t583 = 0 then (if t563 > 0 then (some false) else (if t563 = (wrap64 (-t567)) then (if t582 = 0 then (laws_FnOrder.l0 kj34 y536 t539 t543 (wrap64 (x10_3 + 1))) else (if t579 = t567 then (laws_FnOrder.l0 kj34 y536 t539 t543 (wrap64 (x10_3 + 1))) else (some false))) else (some false))) else (some false)) else (some false)) else (some false)) else (some false)) else (some false)) else (some false)) = some r:=H
                          have A67:=aMk A670
                          clear A670
                          by_cases c68 : t564 = 0
                          ·rw [if_pos c68] at H
                           have c68b0 : (t564 == 0) = true:=beq_iff_eq.mpr c68
                           have c68b1 : (t564 != 0) = false:=bne_eq_false_iff_eq.mpr c68
                           clear c68
                           by_cases c69 : t568 = 0
                           ·rw [if_pos c69] at H
                            have c69b0 : (t568 == 0) = true:=beq_iff_eq.mpr c69
                            have c69b1 : (t568 != 0) = false:=bne_eq_false_iff_eq.mpr c69
                            clear c69
                            by_cases c70 : t572 = 0
                            ·rw [if_pos c70] at H
                             have c70b0 : (t572 == 0) = true:=beq_iff_eq.mpr c70
                             have c70b1 : (t572 != 0) = false:=bne_eq_false_iff_eq.mpr c70
                             clear c70
                             by_cases c71 : t577 = 0
                             ·rw [if_pos c71] at H
                              have c71b0 : (t577 == 0) = true:=beq_iff_eq.mpr c71
                              have c71b1 : (t577 != 0) = false:=bne_eq_false_iff_eq.mpr c71
                              clear c71
                              by_cases c72 : t580 = 0
                              ·rw [if_pos c72] at H
                               have c72b0 : (t580 == 0) = true:=beq_iff_eq.mpr c72
                               have c72b1 : (t580 != 0) = false:=bne_eq_false_iff_eq.mpr c72
                               clear c72
                               by_cases c73 : t583 = 0
                               ·rw [if_pos c73] at H
                                have c73b0 : (t583 == 0) = true:=beq_iff_eq.mpr c73
                                have c73b1 : (t583 != 0) = false:=bne_eq_false_iff_eq.mpr c73
                                clear c73
                                by_cases c74 : t563 > 0
                                ·rw [if_pos c74] at H
                                 have c74b0 : decide (0 < t563) = true:=decide_eq_true c74
                                 clear c74
                                 exact absurd ((Option.some.inj H).trans HRT_.out) (by decide)
                                ·rw [if_neg c74] at H
                                 have c74b0 : decide (0 < t563) = false:=decide_eq_false c74
                                 clear c74
                                 by_cases c89 : t563 = (wrap64 (-t567))
                                 ·rw [if_pos c89] at H
                                  have c89b0 : (t563 == (wrap64 (-t567))) = true:=beq_iff_eq.mpr c89
                                  have c89b1 : (t563 != (wrap64 (-t567))) = false:=bne_eq_false_iff_eq.mpr c89
                                  clear c89
                                  by_cases c90 : t582 = 0
                                  ·rw [if_pos c90] at H
                                   as_aux_lemma =>
                                    have c90b0 : (t582 == 0) = true:=beq_iff_eq.mpr c90
                                    have c90b1 : (t582 != 0) = false:=bne_eq_false_iff_eq.mpr c90
                                    clear c90
                                    have H':=aMk H
                                    clear H
                                    try go_wp2
                                    have n0_:=aMk (Kd.R_drew HO_5.out)
                                    have n1_:=aMk (Kd.R_drew HO_6.out)
                                    have n2_:=aMk (Kd.R_drew HO_8.out)
                                    have n3_:=aMk (bw1 HB.out)
                                    clear HO_5
                                    clear HO_6
                                    clear HO_8
                                    clear HB
                                    have HO_5:=n0_
                                    have HO_6:=n1_
                                    have HO_8:=n2_
                                    have HB:=n3_
                                    clear n0_ n1_ n2_ n3_
                                    have p561 : 0 ≤ ((ji57) : Int):=of_decide_eq_true (by first|(with_reducible assumption) | assumption)
                                    have q561 : (ji57) < (t539.length : Int):=of_decide_eq_true (by first|(with_reducible assumption) | assumption)
                                    obtain ⟨ad561,e561,hx561_0,hx561_1⟩:=at_T31 (Kd.R_reads' HO_6.out).2.2 (ji57) p561 q561
                                    cases e561
                                    replace p561:=eq_true p561
                                    replace q561:=eq_true q561
                                    have p562 : 0 ≤ (x10_3 : Int):=of_decide_eq_true (by first|(with_reducible assumption) | assumption)
                                    have q562 : x10_3 < (t539.length : Int):=of_decide_eq_true (by first|(with_reducible assumption) | assumption)
                                    obtain ⟨ad562,e562,hx562_0,hx562_1⟩:=at_T31 (Kd.R_reads' HO_6.out).2.2 x10_3 p562 q562
                                    obtain rfl : ad561 = ad562:=(by injection e562)
                                    replace p562:=eq_true p562
                                    replace q562:=eq_true q562
                                    refine start_ (n:=15) (S:=fun w' => w'.cell? (ad561.add (((ji57)).toNat * 2)) = some (.int .i64 ((rd_T31 t539 (ji57)).f0)) ∧ w'.cell? ⟨(ad561.add (((ji57)).toNat * 2)).block,(ad561.add (((ji57)).toNat * 2)).off + 1,none⟩ = some (.int .i64 ((rd_T31 t539 (ji57)).f1)) ∧ w'.cell? (ad561.add ((x10_3).toNat * 2)) = some (.int .i64 ((rd_T31 t539 x10_3).f0)) ∧ w'.cell? ⟨(ad561.add ((x10_3).toNat * 2)).block,(ad561.add ((x10_3).toNat * 2)).off + 1,none⟩ = some (.int .i64 ((rd_T31 t539 x10_3).f1))) (ds:=[]) #[false,false,false,false,false,false,false,false,false,false,false,false,false,false,false] (by kernel_rfl) rfl rfl ⟨hx561_0,hx561_1,hx562_0,hx562_1⟩ (fun hHeld => ?_);refine with_tabW laws_FnOrder.tab16 laws_FnOrder.bits16 (fun HT_ HW_ => ?_)
                                    generalize wc.drew = w91 at HO_5 HO_6 HO_8 HB hx561_0 hx561_1 hx562_0 hx562_1 hHeld ⊢
                                    refine pU (i:=0) (N:=some 126) #[true,false,false,false,false,false,false,false,false,false,false,false,false,false,false] (any_of HT_.out (by kernel_rfl)) ?_
                                    refine pU (i:=1) (N:=some 127) #[true,true,false,false,false,false,false,false,false,false,false,false,false,false,false] (any_of HT_.out (by kernel_rfl)) ?_
                                    refine pU (i:=2) (N:=some 128) #[true,true,true,false,false,false,false,false,false,false,false,false,false,false,false] (any_of HT_.out (by kernel_rfl)) ?_
                                    refine pU (i:=3) (N:=some 129) #[true,true,true,true,false,false,false,false,false,false,false,false,false,false,false] (any_of HT_.out (by kernel_rfl)) ?_
                                    refine pU (i:=5) (N:=some 131) #[true,true,true,true,false,true,false,false,false,false,false,false,false,false,false] (any_of HT_.out (by kernel_rfl)) ?_
                                    refine pU (i:=6) (N:=some 132) #[true,true,true,true,false,true,true,false,false,false,false,false,false,false,false] (any_of HT_.out (by kernel_rfl)) ?_
                                    refine pU (i:=7) (N:=some 133) #[true,true,true,true,false,true,true,true,false,false,false,false,false,false,false] (any_of HT_.out (by kernel_rfl)) ?_
                                    refine tU4 (i:=4) (N:=some 130) #[true,true,true,true,true,true,true,true,false,false,false,false,false,false,false] (take_ofW HT_.out HW_.out (by kernel_rfl)) hHeld ?_
                                    refine tU4 (i:=8) (N:=some 134) #[true,true,true,true,true,true,true,true,true,false,false,false,false,false,false] (take_ofW HT_.out HW_.out (by kernel_rfl)) hHeld ?_
                                    refine one_ (i:=9) (N:=some 135) #[true,true,true,true,true,true,true,true,true,true,false,false,false,false,false] rfl rfl (one_of HT_.out (by kernel_rfl)) (by decide) (fun K hK => ?_)
                                    refine goes_ Try.func15 (by kernel_rfl) rfl #[.agg #[.int .i64 ((rd_T31 t539 (ji57)).f0),.int .i64 ((rd_T31 t539 (ji57)).f1)],.agg #[.int .i64 ((rd_T31 t539 x10_3).f0),.int .i64 ((rd_T31 t539 x10_3).f1)]] (by rfl) rfl rfl (by (try simp only [List.map_toArray,List.map_cons,List.map_nil]);first | done|(simp only [hji57];rfl) | rfl|(simp only [List.length_drop,List.length_take];rfl)) ?_
                                    with_reducible refine (impl_OrderOf.calls kj34 ((rd_T31 t539 (ji57)).f0) ((rd_T31 t539 (ji57)).f1) ((rd_T31 t539 x10_3).f0) ((rd_T31 t539 x10_3).f1) t563 t564 _ A62.out).mono ?_
                                    rintro e w92 ⟨rfl,hb⟩
                                    have HS0_:=(hb.cell (wLt _ _ (hHeld.1))).trans (hHeld.1)
                                    have HS1_:=(hb.cell (wLt _ _ (hHeld.2.1))).trans (hHeld.2.1)
                                    have HS2_:=(hb.cell (wLt _ _ (hHeld.2.2.1))).trans (hHeld.2.2.1)
                                    have HS3_:=(hb.cell (wLt _ _ (hHeld.2.2.2))).trans (hHeld.2.2.2)
                                    refine ⟨_,rfl,?_⟩
                                    have n0_:=aMk (Kd.R_below (by (with_reducible repeat (first|apply Kd.R_alloc|apply Kd.R_drewN|apply Kd.R_drew));exact HO_5.out) hb)
                                    have n1_:=aMk (Kd.R_below (by (with_reducible repeat (first|apply Kd.R_alloc|apply Kd.R_drewN|apply Kd.R_drew));exact HO_6.out) hb)
                                    have n2_:=aMk (Kd.R_below (by (with_reducible repeat (first|apply Kd.R_alloc|apply Kd.R_drewN|apply Kd.R_drew));exact HO_8.out) hb)
                                    have n3_:=aMk (bSt hb)
                                    clear HO_5
                                    clear HO_6
                                    clear HO_8
                                    clear HB
                                    have HO_5:=n0_
                                    have HO_6:=n1_
                                    have HO_8:=n2_
                                    have HB:=n3_
                                    clear n0_ n1_ n2_ n3_
                                    (try clear hb)
                                    (try clear hb2)
                                    (try clear hk)
                                    (try clear hi)
                                    refine hK.out _ _ ⟨HS0_,HS1_,HS2_,HS3_⟩ (fun hHeld => ?_)
                                    clear hK K
                                    refine norm_ (a':=?_) ?_ ?_
                                    rotate_left
                                    ·show Act.put _ (some 135) _ = _
                                     simp only [Act.put,List.setIfInBounds_toArray,List.set_cons_zero,List.set_cons_succ,i64_w,i32_w]
                                     rfl
                                    refine pU (i:=10) (N:=some 125) #[true,true,true,true,true,true,true,true,true,true,true,false,false,false,false] (any_of HT_.out (by kernel_rfl)) ?_
                                    refine pU (i:=11) (N:=some 136) #[true,true,true,true,true,true,true,true,true,true,true,true,false,false,false] (any_of HT_.out (by kernel_rfl)) ?_
                                    refine pU (i:=12) (N:=some 137) #[true,true,true,true,true,true,true,true,true,true,true,true,true,false,false] (any_of HT_.out (by kernel_rfl)) ?_
                                    refine pU (i:=13) (N:=some 15) #[true,true,true,true,true,true,true,true,true,true,true,true,true,true,false] (any_of HT_.out (by kernel_rfl)) ?_
                                    refine pU (i:=14) (N:=some 16) #[true,true,true,true,true,true,true,true,true,true,true,true,true,true,true] (any_of HT_.out (by kernel_rfl)) ?_
                                    refine done_ (done_of HT_.out (by kernel_rfl)) ?_
                                    try go_wp2
                                    have n0_:=aMk (Kd.R_drew HO_5.out)
                                    have n1_:=aMk (Kd.R_drew HO_6.out)
                                    have n2_:=aMk (Kd.R_drew HO_8.out)
                                    have n3_:=aMk (bw1 HB.out)
                                    clear HO_5
                                    clear HO_6
                                    clear HO_8
                                    clear HB
                                    have HO_5:=n0_
                                    have HO_6:=n1_
                                    have HO_8:=n2_
                                    have HB:=n3_
                                    clear n0_ n1_ n2_ n3_
                                    have p565 : 0 ≤ (x10_3 : Int):=of_decide_eq_true (by first|(with_reducible assumption) | assumption)
                                    have q565 : x10_3 < (t539.length : Int):=of_decide_eq_true (by first|(with_reducible assumption) | assumption)
                                    obtain ⟨ad565,e565,hx565_0,hx565_1⟩:=at_T31 (Kd.R_reads' HO_6.out).2.2 x10_3 p565 q565
                                    obtain rfl : ad561 = ad565:=(by injection e565)
                                    replace p565:=eq_true p565
                                    replace q565:=eq_true q565
                                    have p566 : 0 ≤ ((ji57) : Int):=of_decide_eq_true (by first|(with_reducible assumption) | assumption)
                                    have q566 : (ji57) < (t539.length : Int):=of_decide_eq_true (by first|(with_reducible assumption) | assumption)
                                    obtain ⟨ad566,e566,hx566_0,hx566_1⟩:=at_T31 (Kd.R_reads' HO_6.out).2.2 (ji57) p566 q566
                                    obtain rfl : ad561 = ad566:=(by injection e566)
                                    replace p566:=eq_true p566
                                    replace q566:=eq_true q566
                                    refine start_ (n:=15) (S:=fun w' => w'.cell? (ad561.add ((x10_3).toNat * 2)) = some (.int .i64 ((rd_T31 t539 x10_3).f0)) ∧ w'.cell? ⟨(ad561.add ((x10_3).toNat * 2)).block,(ad561.add ((x10_3).toNat * 2)).off + 1,none⟩ = some (.int .i64 ((rd_T31 t539 x10_3).f1)) ∧ w'.cell? (ad561.add (((ji57)).toNat * 2)) = some (.int .i64 ((rd_T31 t539 (ji57)).f0)) ∧ w'.cell? ⟨(ad561.add (((ji57)).toNat * 2)).block,(ad561.add (((ji57)).toNat * 2)).off + 1,none⟩ = some (.int .i64 ((rd_T31 t539 (ji57)).f1))) (ds:=[]) #[false,false,false,false,false,false,false,false,false,false,false,false,false,false,false] (by kernel_rfl) rfl rfl ⟨hx565_0,hx565_1,hx566_0,hx566_1⟩ (fun hHeld => ?_);refine with_tabW laws_FnOrder.tab17 laws_FnOrder.bits17 (fun HT_ HW_ => ?_)
                                    generalize w92.drew = w93 at HO_5 HO_6 HO_8 HB hx565_0 hx565_1 hx566_0 hx566_1 hHeld ⊢
                                    refine pU (i:=0) (N:=some 139) #[true,false,false,false,false,false,false,false,false,false,false,false,false,false,false] (any_of HT_.out (by kernel_rfl)) ?_
                                    refine pU (i:=1) (N:=some 140) #[true,true,false,false,false,false,false,false,false,false,false,false,false,false,false] (any_of HT_.out (by kernel_rfl)) ?_
                                    refine pU (i:=2) (N:=some 141) #[true,true,true,false,false,false,false,false,false,false,false,false,false,false,false] (any_of HT_.out (by kernel_rfl)) ?_
                                    refine pU (i:=4) (N:=some 143) #[true,true,true,false,true,false,false,false,false,false,false,false,false,false,false] (any_of HT_.out (by kernel_rfl)) ?_
                                    refine pU (i:=5) (N:=some 144) #[true,true,true,false,true,true,false,false,false,false,false,false,false,false,false] (any_of HT_.out (by kernel_rfl)) ?_
                                    refine pU (i:=6) (N:=some 145) #[true,true,true,false,true,true,true,false,false,false,false,false,false,false,false] (any_of HT_.out (by kernel_rfl)) ?_
                                    refine pU (i:=7) (N:=some 146) #[true,true,true,false,true,true,true,true,false,false,false,false,false,false,false] (any_of HT_.out (by kernel_rfl)) ?_
                                    refine tU4 (i:=3) (N:=some 142) #[true,true,true,true,true,true,true,true,false,false,false,false,false,false,false] (take_ofW HT_.out HW_.out (by kernel_rfl)) hHeld ?_
                                    refine tU4 (i:=8) (N:=some 147) #[true,true,true,true,true,true,true,true,true,false,false,false,false,false,false] (take_ofW HT_.out HW_.out (by kernel_rfl)) hHeld ?_
                                    refine one_ (i:=9) (N:=some 148) #[true,true,true,true,true,true,true,true,true,true,false,false,false,false,false] rfl rfl (one_of HT_.out (by kernel_rfl)) (by decide) (fun K hK => ?_)
                                    refine goes_ Try.func15 (by kernel_rfl) rfl #[.agg #[.int .i64 ((rd_T31 t539 x10_3).f0),.int .i64 ((rd_T31 t539 x10_3).f1)],.agg #[.int .i64 ((rd_T31 t539 (ji57)).f0),.int .i64 ((rd_T31 t539 (ji57)).f1)]] (by rfl) rfl rfl (by (try simp only [List.map_toArray,List.map_cons,List.map_nil]);first | done|(simp only [hji57];rfl) | rfl|(simp only [List.length_drop,List.length_take];rfl)) ?_
                                    with_reducible refine (impl_OrderOf.calls kj34 ((rd_T31 t539 x10_3).f0) ((rd_T31 t539 x10_3).f1) ((rd_T31 t539 (ji57)).f0) ((rd_T31 t539 (ji57)).f1) t567 t568 _ A63.out).mono ?_
                                    rintro e w94 ⟨rfl,hb⟩
                                    have HS0_:=(hb.cell (wLt _ _ (hHeld.1))).trans (hHeld.1)
                                    have HS1_:=(hb.cell (wLt _ _ (hHeld.2.1))).trans (hHeld.2.1)
                                    have HS2_:=(hb.cell (wLt _ _ (hHeld.2.2.1))).trans (hHeld.2.2.1)
                                    have HS3_:=(hb.cell (wLt _ _ (hHeld.2.2.2))).trans (hHeld.2.2.2)
                                    refine ⟨_,rfl,?_⟩
                                    have n0_:=aMk (Kd.R_below (by (with_reducible repeat (first|apply Kd.R_alloc|apply Kd.R_drewN|apply Kd.R_drew));exact HO_5.out) hb)
                                    have n1_:=aMk (Kd.R_below (by (with_reducible repeat (first|apply Kd.R_alloc|apply Kd.R_drewN|apply Kd.R_drew));exact HO_6.out) hb)
                                    have n2_:=aMk (Kd.R_below (by (with_reducible repeat (first|apply Kd.R_alloc|apply Kd.R_drewN|apply Kd.R_drew));exact HO_8.out) hb)
                                    have n3_:=aMk (bSt hb)
                                    clear HO_5
                                    clear HO_6
                                    clear HO_8
                                    clear HB
                                    have HO_5:=n0_
                                    have HO_6:=n1_
                                    have HO_8:=n2_
                                    have HB:=n3_
                                    clear n0_ n1_ n2_ n3_
                                    (try clear hb)
                                    (try clear hb2)
                                    (try clear hk)
                                    (try clear hi)
                                    refine hK.out _ _ ⟨HS0_,HS1_,HS2_,HS3_⟩ (fun hHeld => ?_)
                                    clear hK K
                                    refine norm_ (a':=?_) ?_ ?_
                                    rotate_left
                                    ·show Act.put _ (some 148) _ = _
                                     simp only [Act.put,List.setIfInBounds_toArray,List.set_cons_zero,List.set_cons_succ,i64_w,i32_w]
                                     rfl
                                    refine pU (i:=10) (N:=some 138) #[true,true,true,true,true,true,true,true,true,true,true,false,false,false,false] (any_of HT_.out (by kernel_rfl)) ?_
                                    refine pU (i:=11) (N:=some 149) #[true,true,true,true,true,true,true,true,true,true,true,true,false,false,false] (any_of HT_.out (by kernel_rfl)) ?_
                                    refine pU (i:=12) (N:=some 150) #[true,true,true,true,true,true,true,true,true,true,true,true,true,false,false] (any_of HT_.out (by kernel_rfl)) ?_
                                    refine pU (i:=13) (N:=some 17) #[true,true,true,true,true,true,true,true,true,true,true,true,true,true,false] (any_of HT_.out (by kernel_rfl)) ?_
                                    refine pU (i:=14) (N:=some 18) #[true,true,true,true,true,true,true,true,true,true,true,true,true,true,true] (any_of HT_.out (by kernel_rfl)) ?_
                                    refine done_ (done_of HT_.out (by kernel_rfl)) ?_
                                    have p569 : 0 ≤ ((ji57) : Int):=of_decide_eq_true (by first|(with_reducible assumption) | assumption)
                                    have q569 : (ji57) < (t539.length : Int):=of_decide_eq_true (by first|(with_reducible assumption) | assumption)
                                    obtain ⟨ad569,e569,hx569_0,hx569_1⟩:=at_T31 (Kd.R_reads' HO_6.out).2.2 (ji57) p569 q569
                                    obtain rfl : ad561 = ad569:=(by injection e569)
                                    replace p569:=eq_true p569
                                    replace q569:=eq_true q569
                                    try go_wp2_with (first|((with_reducible refine gate_callee (f:=34) rfl ?_);refine goesL_ (some 157) rfl rfl Try.func34 (by kernel_rfl) rfl #[.agg #[.int .i64 ((rd_T31 t539 (ji57)).f0),.int .i64 ((rd_T31 t539 (ji57)).f1)]] rfl (by (try simp only [List.map_toArray,List.map_cons,List.map_nil]);first | done|(simp only [hji57];rfl) | rfl|(simp only [List.length_drop,List.length_take];rfl)) ?_;(with_reducible refine (impl_NegOf.calls ((rd_T31 t539 (ji57)).f0) ((rd_T31 t539 (ji57)).f1) t570 t571 t572 _ A64.out).mono ?_);rintro e w95 ⟨rfl,hb⟩;refine ⟨_,rfl,?_⟩;have n0_:=aMk (Kd.R_below (by (with_reducible repeat (first|apply Kd.R_alloc|apply Kd.R_drewN|apply Kd.R_drew));exact HO_5.out) hb);have n1_:=aMk (Kd.R_below (by (with_reducible repeat (first|apply Kd.R_alloc|apply Kd.R_drewN|apply Kd.R_drew));exact HO_6.out) hb);have n2_:=aMk (Kd.R_below (by (with_reducible repeat (first|apply Kd.R_alloc|apply Kd.R_drewN|apply Kd.R_drew));exact HO_8.out) hb);have n3_:=aMk (bSt hb);clear HO_5;clear HO_6;clear HO_8;clear HB;have HO_5:=n0_;have HO_6:=n1_;have HO_8:=n2_;have HB:=n3_;clear n0_ n1_ n2_ n3_;(try clear hb);(try clear hb2);(try clear hk);(try clear hi))|((with_reducible refine gate_dst (N:=19) rfl ?_);(try (refine gate_guard (by rfl) ?_;dsimp only));refine bxE (N:=19) (cs:=#[.int .i64 0,.int .i64 0]) (t:=31) ?_;intro gb573 hg w96 hbox hb;have n0_:=aMk (Kd.R_below (Kd.R_elderB (by (with_reducible repeat (first|apply Kd.R_alloc|apply Kd.R_drewN|apply Kd.R_drew));exact HO_5.out) gb573 (Nat.le_of_eq hg.symm)) hb);have n1_:=aMk (Kd.R_below (Kd.R_elderB (by (with_reducible repeat (first|apply Kd.R_alloc|apply Kd.R_drewN|apply Kd.R_drew));exact HO_6.out) gb573 (Nat.le_of_eq hg.symm)) hb);have n2_:=aMk (Kd.R_below (Kd.R_elderB (by (with_reducible repeat (first|apply Kd.R_alloc|apply Kd.R_drewN|apply Kd.R_drew));exact HO_8.out) gb573 (Nat.le_of_eq hg.symm)) hb);have n3_:=aMk (bSt hb);have n4_:=aMk (hbox);have n5_:=aMk ((by rw [hg];exact bSz : w.heap.size ≤ gb573));have n6_:=aMk ((by rw [hg];exact bSz : w.heap.size ≤ gb573));clear HO_5;clear HO_6;clear HO_8;clear HB;have HO_5:=n0_;have HO_6:=n1_;have HO_8:=n2_;have HB:=n3_;have BK573:=n4_;have GW573:=n5_;have GE573:=n6_;clear n0_ n1_ n2_ n3_ n4_ n5_ n6_;clear hb hbox hg;obtain ⟨hcz97_0,hcz97_1,hfz97_0,hfz97_1⟩:=bC2 BK573.out;have p574 : 0 ≤ (x10_3 : Int):=of_decide_eq_true (by first|(with_reducible assumption) | assumption);have q574 : x10_3 < (t539.length : Int):=of_decide_eq_true (by first|(with_reducible assumption) | assumption);obtain ⟨ad574,e574,hx574_0,hx574_1⟩:=at_T31 (Kd.R_reads' HO_6.out).2.2 x10_3 p574 q574;obtain rfl : ad561 = ad574:=(by injection e574);have hn574_0 : ad561.block ≠ gb573:=(by first|exact Kd.own_blk (Kd.R_ne HO_6.out BK573.out (by decide))|exact (HO_6.out.1 _ rfl).2|exact (HO_6.out.1 _ rfl).1.2|exact (HO_6.out.1 _ rfl).1.1.2);have hn574_1 : ad561.block ≠ gb573:=(by first|exact Kd.own_blk (Kd.R_ne HO_6.out BK573.out (by decide))|exact (HO_6.out.1 _ rfl).2|exact (HO_6.out.1 _ rfl).1.2|exact (HO_6.out.1 _ rfl).1.1.2);replace hx574_0:=(cell_far (p:=⟨gb573,0,none⟩) (by first|(rw [add_block];exact hn574_0)|(show (Addr.add _ _).block ≠ _;rw [add_block];exact hn574_0)|exact hn574_0) (.int .i64 t570)).trans hx574_0;replace hx574_1:=(cell_far (p:=⟨gb573,0,none⟩) (by first|(rw [add_block];exact hn574_0)|(show (Addr.add _ _).block ≠ _;rw [add_block];exact hn574_0)|exact hn574_0) (.int .i64 t570)).trans hx574_1;replace hx574_0:=(cell_far (p:=⟨gb573,1,none⟩) (by first|(rw [add_block];exact hn574_1)|(show (Addr.add _ _).block ≠ _;rw [add_block];exact hn574_1)|exact hn574_1) (.int .i64 t571)).trans hx574_0;replace hx574_1:=(cell_far (p:=⟨gb573,1,none⟩) (by first|(rw [add_block];exact hn574_1)|(show (Addr.add _ _).block ≠ _;rw [add_block];exact hn574_1)|exact hn574_1) (.int .i64 t571)).trans hx574_1;clear hn574_0;clear hn574_1;replace p574:=eq_true p574;replace q574:=eq_true q574)|((with_reducible refine gate_callee (f:=34) rfl ?_);refine gLs 165 Try.func34 #[.agg #[.int .i64 ((rd_T31 t539 x10_3).f0),.int .i64 ((rd_T31 t539 x10_3).f1)]] ?_;(with_reducible refine (impl_NegOf.calls ((rd_T31 t539 x10_3).f0) ((rd_T31 t539 x10_3).f1) t575 t576 t577 _ A65.out).mono ?_);rintro e w98 ⟨rfl,hb⟩;refine ⟨_,rfl,?_⟩;have n0_:=aMk (Kd.R_below (by (with_reducible repeat (first|apply Kd.R_alloc|apply Kd.R_drewN|apply Kd.R_drew));exact (Kd.R_mono (Kd.R_far (p:=⟨gb573,1,none⟩) (Kd.R_far (p:=⟨gb573,0,none⟩) (Kd.R_mono HO_5.out (fun k_ hk => (⟨hk,hk.2⟩ : _ ∧ k_ ≠ gb573))) (fun _ hk => hk.2) (.int .i64 t570)) (fun _ hk => hk.2) (.int .i64 t571)) (fun _ h_ => h_.1))) hb);have n1_:=aMk (Kd.R_below (by (with_reducible repeat (first|apply Kd.R_alloc|apply Kd.R_drewN|apply Kd.R_drew));exact (Kd.R_mono (Kd.R_far (p:=⟨gb573,1,none⟩) (Kd.R_far (p:=⟨gb573,0,none⟩) (Kd.R_mono HO_6.out (fun k_ hk => (⟨hk,hk.2⟩ : _ ∧ k_ ≠ gb573))) (fun _ hk => hk.2) (.int .i64 t570)) (fun _ hk => hk.2) (.int .i64 t571)) (fun _ h_ => h_.1))) hb);have n2_:=aMk (Kd.R_below (by (with_reducible repeat (first|apply Kd.R_alloc|apply Kd.R_drewN|apply Kd.R_drew));exact (Kd.R_mono (Kd.R_far (p:=⟨gb573,1,none⟩) (Kd.R_far (p:=⟨gb573,0,none⟩) (Kd.R_mono HO_8.out (fun k_ hk => (⟨hk,hk.2⟩ : _ ∧ k_ ≠ gb573))) (fun _ hk => hk.2) (.int .i64 t570)) (fun _ hk => hk.2) (.int .i64 t571)) (fun _ h_ => h_.1))) hb);have n3_:=aMk (blk_below (g:=gb573) (o:=.cells #[.int .i64 t570,.int .i64 t571] 31 (0,0)) (by refine pB ?_;refine blk_put (cs:=#[.int .i64 t570,.int .i64 0]) ?_ 1 _ rfl;refine pB ?_;refine blk_put (cs:=#[.int .i64 0,.int .i64 0]) ?_ 0 _ rfl;refine pB ?_;exact BK573.out) hb);have n4_:=aMk (below_step (by repeat (first|(with_reducible first|exact HB.out|apply bwA|apply bwN|apply bw1|refine below_set ?_ GE573.out)|exact HB.out)) hb);clear HO_5;clear HO_6;clear HO_8;clear BK573;clear HB;have HO_5:=n0_;have HO_6:=n1_;have HO_8:=n2_;have BK573:=n3_;have HB:=n4_;clear n0_ n1_ n2_ n3_ n4_;(try clear hb);(try clear hb2);(try clear hk);(try clear hi))|((with_reducible refine gate_dst (N:=21) rfl ?_);(try (refine gate_guard (by rfl) ?_;dsimp only));refine bxE (N:=21) (cs:=#[.int .i64 0,.int .i64 0]) (t:=31) ?_;intro gb578 hg w99 hbox hb;have n0_:=aMk (Kd.R_below (Kd.R_elderB (by (with_reducible repeat (first|apply Kd.R_alloc|apply Kd.R_drewN|apply Kd.R_drew));exact HO_5.out) gb578 (Nat.le_of_eq hg.symm)) hb);have n1_:=aMk (Kd.R_below (Kd.R_elderB (by (with_reducible repeat (first|apply Kd.R_alloc|apply Kd.R_drewN|apply Kd.R_drew));exact HO_6.out) gb578 (Nat.le_of_eq hg.symm)) hb);have n2_:=aMk (Kd.R_below (Kd.R_elderB (by (with_reducible repeat (first|apply Kd.R_alloc|apply Kd.R_drewN|apply Kd.R_drew));exact HO_8.out) gb578 (Nat.le_of_eq hg.symm)) hb);have n3_:=aMk (bkB BK573.out hb);have n4_:=aMk (below_step (by repeat (first|(with_reducible first|exact HB.out|apply bwA|apply bwN|apply bw1|refine below_set ?_ GE573.out)|exact HB.out)) hb);have n5_:=aMk (hbox);have n6_:=aMk ((by rw [hg];exact (below_size (by repeat (first|(with_reducible first|exact HB.out|apply bwA|apply bwN|apply bw1|refine below_set ?_ GE573.out)|exact HB.out))) : w.heap.size ≤ gb578));have n7_:=aMk ((by rw [hg];exact (below_size (by repeat (first|(with_reducible first|exact HB.out|apply bwA|apply bwN|apply bw1|refine below_set ?_ GE573.out)|exact HB.out))) : w.heap.size ≤ gb578));have n8_:=aMk ((bkL BK573.out hg : gb573 ≠ gb578));have n9_:=aMk ((bkG BK573.out hg : gb578 ≠ gb573));clear HO_5;clear HO_6;clear HO_8;clear BK573;clear HB;have HO_5:=n0_;have HO_6:=n1_;have HO_8:=n2_;have BK573:=n3_;have HB:=n4_;have BK578:=n5_;have GW578:=n6_;have GE578:=n7_;have NB573_578:=n8_;have NB578_573:=n9_;clear n0_ n1_ n2_ n3_ n4_ n5_ n6_ n7_ n8_ n9_;clear hb hbox hg;have hnb100:=NB578_573.out;have hnc100:=NB573_578.out;obtain ⟨hcz101_0,hcz101_1,hfz101_0,hfz101_1⟩:=bC2 BK578.out;obtain ⟨hcz102_0,hcz102_1,hfz102_0,hfz102_1⟩:=bC2 BK573.out)|((with_reducible refine gate_callee (f:=15) rfl ?_);refine gLs 171 Try.func15 #[.agg #[.int .i64 t570,.int .i64 t571],.agg #[.int .i64 t575,.int .i64 t576]] ?_;(with_reducible refine (impl_OrderOf.calls kj34 t570 t571 t575 t576 t579 t580 _ A66.out).mono ?_);rintro e w103 ⟨rfl,hb⟩;refine ⟨_,rfl,?_⟩;have n0_:=aMk (Kd.R_below (by (with_reducible repeat (first|apply Kd.R_alloc|apply Kd.R_drewN|apply Kd.R_drew));exact (Kd.R_mono (Kd.R_far (p:=⟨gb578,1,none⟩) (Kd.R_far (p:=⟨gb578,0,none⟩) (Kd.R_mono HO_5.out (fun k_ hk => (⟨hk,hk.2⟩ : _ ∧ k_ ≠ gb578))) (fun _ hk => hk.2) (.int .i64 t575)) (fun _ hk => hk.2) (.int .i64 t576)) (fun _ h_ => h_.1))) hb);have n1_:=aMk (Kd.R_below (by (with_reducible repeat (first|apply Kd.R_alloc|apply Kd.R_drewN|apply Kd.R_drew));exact (Kd.R_mono (Kd.R_far (p:=⟨gb578,1,none⟩) (Kd.R_far (p:=⟨gb578,0,none⟩) (Kd.R_mono HO_6.out (fun k_ hk => (⟨hk,hk.2⟩ : _ ∧ k_ ≠ gb578))) (fun _ hk => hk.2) (.int .i64 t575)) (fun _ hk => hk.2) (.int .i64 t576)) (fun _ h_ => h_.1))) hb);have n2_:=aMk (Kd.R_below (by (with_reducible repeat (first|apply Kd.R_alloc|apply Kd.R_drewN|apply Kd.R_drew));exact (Kd.R_mono (Kd.R_far (p:=⟨gb578,1,none⟩) (Kd.R_far (p:=⟨gb578,0,none⟩) (Kd.R_mono HO_8.out (fun k_ hk => (⟨hk,hk.2⟩ : _ ∧ k_ ≠ gb578))) (fun _ hk => hk.2) (.int .i64 t575)) (fun _ hk => hk.2) (.int .i64 t576)) (fun _ h_ => h_.1))) hb);have n3_:=aMk (blk_below (g:=gb573) (o:=.cells #[.int .i64 t570,.int .i64 t571] 31 (0,0)) (by refine pB ?_;refine blk_far ?_ NB573_578.out _;refine pB ?_;refine blk_far ?_ NB573_578.out _;refine pB ?_;exact BK573.out) hb);have n4_:=aMk (blk_below (g:=gb578) (o:=.cells #[.int .i64 t575,.int .i64 t576] 31 (0,0)) (by refine pB ?_;refine blk_put (cs:=#[.int .i64 t575,.int .i64 0]) ?_ 1 _ rfl;refine pB ?_;refine blk_put (cs:=#[.int .i64 0,.int .i64 0]) ?_ 0 _ rfl;refine pB ?_;exact BK578.out) hb);have n5_:=aMk (below_step (by repeat (first|(with_reducible first|exact HB.out|apply bwA|apply bwN|apply bw1|refine below_set ?_ GE573.out|refine below_set ?_ GE578.out)|exact HB.out)) hb);clear HO_5;clear HO_6;clear HO_8;clear BK573;clear BK578;clear HB;have HO_5:=n0_;have HO_6:=n1_;have HO_8:=n2_;have BK573:=n3_;have BK578:=n4_;have HB:=n5_;clear n0_ n1_ n2_ n3_ n4_ n5_;(try clear hb);(try clear hb2);(try clear hk);(try clear hi);have p581 : 0 ≤ ((ji57) : Int):=of_decide_eq_true (by first|(with_reducible assumption) | assumption);have q581 : (ji57) < (t539.length : Int):=of_decide_eq_true (by first|(with_reducible assumption) | assumption);obtain ⟨ad581,e581,hx581_0,hx581_1⟩:=at_T31 (Kd.R_reads' HO_6.out).2.2 (ji57) p581 q581;obtain rfl : ad561 = ad581:=(by injection e581);replace p581:=eq_true p581;replace q581:=eq_true q581)|((with_reducible refine gate_callee (f:=32) rfl ?_);refine goesL_ (some 180) rfl rfl Try.func32 (by kernel_rfl) rfl #[.agg #[.int .i64 ((rd_T31 t539 (ji57)).f0),.int .i64 ((rd_T31 t539 (ji57)).f1)]] rfl (by (try simp only [List.map_toArray,List.map_cons,List.map_nil]);first | done|(simp only [hji57];rfl) | rfl|(simp only [List.length_drop,List.length_take];rfl)) ?_;(with_reducible refine (impl_ClassOf.calls ((rd_T31 t539 (ji57)).f0) ((rd_T31 t539 (ji57)).f1) t582 t583 _ A67.out).mono ?_);rintro e w104 ⟨rfl,hb⟩;refine ⟨_,rfl,?_⟩;have n0_:=aMk (Kd.R_below (by (with_reducible repeat (first|apply Kd.R_alloc|apply Kd.R_drewN|apply Kd.R_drew));exact HO_5.out) hb);have n1_:=aMk (Kd.R_below (by (with_reducible repeat (first|apply Kd.R_alloc|apply Kd.R_drewN|apply Kd.R_drew));exact HO_6.out) hb);have n2_:=aMk (Kd.R_below (by (with_reducible repeat (first|apply Kd.R_alloc|apply Kd.R_drewN|apply Kd.R_drew));exact HO_8.out) hb);have n3_:=aMk (bkB BK573.out hb);have n4_:=aMk (bkB BK578.out hb);have n5_:=aMk (below_step (by repeat (first|(with_reducible first|exact HB.out|apply bwA|apply bwN|apply bw1|refine below_set ?_ GE573.out|refine below_set ?_ GE578.out)|exact HB.out)) hb);clear HO_5;clear HO_6;clear HO_8;clear BK573;clear BK578;clear HB;have HO_5:=n0_;have HO_6:=n1_;have HO_8:=n2_;have BK573:=n3_;have BK578:=n4_;have HB:=n5_;clear n0_ n1_ n2_ n3_ n4_ n5_;(try clear hb);(try clear hb2);(try clear hk);(try clear hi)))
                                    go_roundg kj34
                                    case measure => have:=HJ2.out;have:=HJ11.out;have:=HK3.out;have:=HJ34.out;omega
                                    case rel => exact ⟨(wrap64 (x10_3 + 1)),(by first | rfl|(simp;done)|(simp [*];done)|(simp [ne_nil_b];done)|(simp [ne_nil_b, *];done)),H',⟨by have:=HJ2.out;have:=HJ11.out;have:=HK3.out;have:=HJ34.out;omega⟩,⟨by (with_reducible repeat (first|apply Kd.R_alloc|apply Kd.R_drewN|apply Kd.R_drew));exact Kd.R_mono HO_5.out (fun _ hk => ⟨hk.1.1.1,hk.1.1.2⟩)⟩,⟨by (with_reducible repeat (first|apply Kd.R_alloc|apply Kd.R_drewN|apply Kd.R_drew));exact Kd.R_mono HO_6.out (fun _ hk => ⟨hk.1.1.1,hk.1.1.2⟩)⟩,⟨by (with_reducible repeat (first|apply Kd.R_alloc|apply Kd.R_drewN|apply Kd.R_drew));exact Kd.R_mono HO_8.out (fun _ hk => ⟨hk.1.1.1,hk.1.1.2⟩)⟩,⟨by repeat (first|(with_reducible first|exact HB.out|apply bwA|apply bwN|apply bw1|refine below_set ?_ GE573.out|refine below_set ?_ GE578.out)|exact HB.out)⟩⟩
                                  ·rw [if_neg c90] at H
                                   as_aux_lemma =>
                                    have c90b0 : (t582 == 0) = false:=beq_eq_false_iff_ne.mpr c90
                                    have c90b1 : (t582 != 0) = true:=bne_iff_ne.mpr c90
                                    by_cases c105 : t579 = t567
                                    ·rw [if_pos c105] at H
                                     have c105b0 : (t579 == t567) = true:=beq_iff_eq.mpr c105
                                     have c105b1 : (t579 != t567) = false:=bne_eq_false_iff_eq.mpr c105
                                     clear c105
                                     have H':=aMk H
                                     clear H
                                     try go_wp2
                                     have n0_:=aMk (Kd.R_drew HO_5.out)
                                     have n1_:=aMk (Kd.R_drew HO_6.out)
                                     have n2_:=aMk (Kd.R_drew HO_8.out)
                                     have n3_:=aMk (bw1 HB.out)
                                     clear HO_5
                                     clear HO_6
                                     clear HO_8
                                     clear HB
                                     have HO_5:=n0_
                                     have HO_6:=n1_
                                     have HO_8:=n2_
                                     have HB:=n3_
                                     clear n0_ n1_ n2_ n3_
                                     have p561 : 0 ≤ ((ji57) : Int):=of_decide_eq_true (by first|(with_reducible assumption) | assumption)
                                     have q561 : (ji57) < (t539.length : Int):=of_decide_eq_true (by first|(with_reducible assumption) | assumption)
                                     obtain ⟨ad561,e561,hx561_0,hx561_1⟩:=at_T31 (Kd.R_reads' HO_6.out).2.2 (ji57) p561 q561
                                     cases e561
                                     replace p561:=eq_true p561
                                     replace q561:=eq_true q561
                                     have p562 : 0 ≤ (x10_3 : Int):=of_decide_eq_true (by first|(with_reducible assumption) | assumption)
                                     have q562 : x10_3 < (t539.length : Int):=of_decide_eq_true (by first|(with_reducible assumption) | assumption)
                                     obtain ⟨ad562,e562,hx562_0,hx562_1⟩:=at_T31 (Kd.R_reads' HO_6.out).2.2 x10_3 p562 q562
                                     obtain rfl : ad561 = ad562:=(by injection e562)
                                     replace p562:=eq_true p562
                                     replace q562:=eq_true q562
                                     refine start_ (n:=15) (S:=fun w' => w'.cell? (ad561.add (((ji57)).toNat * 2)) = some (.int .i64 ((rd_T31 t539 (ji57)).f0)) ∧ w'.cell? ⟨(ad561.add (((ji57)).toNat * 2)).block,(ad561.add (((ji57)).toNat * 2)).off + 1,none⟩ = some (.int .i64 ((rd_T31 t539 (ji57)).f1)) ∧ w'.cell? (ad561.add ((x10_3).toNat * 2)) = some (.int .i64 ((rd_T31 t539 x10_3).f0)) ∧ w'.cell? ⟨(ad561.add ((x10_3).toNat * 2)).block,(ad561.add ((x10_3).toNat * 2)).off + 1,none⟩ = some (.int .i64 ((rd_T31 t539 x10_3).f1))) (ds:=[]) #[false,false,false,false,false,false,false,false,false,false,false,false,false,false,false] (by kernel_rfl) rfl rfl ⟨hx561_0,hx561_1,hx562_0,hx562_1⟩ (fun hHeld => ?_);refine with_tabW laws_FnOrder.tab16 laws_FnOrder.bits16 (fun HT_ HW_ => ?_)
                                     generalize wc.drew = w106 at HO_5 HO_6 HO_8 HB hx561_0 hx561_1 hx562_0 hx562_1 hHeld ⊢
                                     refine pU (i:=0) (N:=some 126) #[true,false,false,false,false,false,false,false,false,false,false,false,false,false,false] (any_of HT_.out (by kernel_rfl)) ?_
                                     refine pU (i:=1) (N:=some 127) #[true,true,false,false,false,false,false,false,false,false,false,false,false,false,false] (any_of HT_.out (by kernel_rfl)) ?_
                                     refine pU (i:=2) (N:=some 128) #[true,true,true,false,false,false,false,false,false,false,false,false,false,false,false] (any_of HT_.out (by kernel_rfl)) ?_
                                     refine pU (i:=3) (N:=some 129) #[true,true,true,true,false,false,false,false,false,false,false,false,false,false,false] (any_of HT_.out (by kernel_rfl)) ?_
                                     refine pU (i:=5) (N:=some 131) #[true,true,true,true,false,true,false,false,false,false,false,false,false,false,false] (any_of HT_.out (by kernel_rfl)) ?_
                                     refine pU (i:=6) (N:=some 132) #[true,true,true,true,false,true,true,false,false,false,false,false,false,false,false] (any_of HT_.out (by kernel_rfl)) ?_
                                     refine pU (i:=7) (N:=some 133) #[true,true,true,true,false,true,true,true,false,false,false,false,false,false,false] (any_of HT_.out (by kernel_rfl)) ?_
                                     refine tU4 (i:=4) (N:=some 130) #[true,true,true,true,true,true,true,true,false,false,false,false,false,false,false] (take_ofW HT_.out HW_.out (by kernel_rfl)) hHeld ?_
                                     refine tU4 (i:=8) (N:=some 134) #[true,true,true,true,true,true,true,true,true,false,false,false,false,false,false] (take_ofW HT_.out HW_.out (by kernel_rfl)) hHeld ?_
                                     refine one_ (i:=9) (N:=some 135) #[true,true,true,true,true,true,true,true,true,true,false,false,false,false,false] rfl rfl (one_of HT_.out (by kernel_rfl)) (by decide) (fun K hK => ?_)
                                     refine goes_ Try.func15 (by kernel_rfl) rfl #[.agg #[.int .i64 ((rd_T31 t539 (ji57)).f0),.int .i64 ((rd_T31 t539 (ji57)).f1)],.agg #[.int .i64 ((rd_T31 t539 x10_3).f0),.int .i64 ((rd_T31 t539 x10_3).f1)]] (by rfl) rfl rfl (by (try simp only [List.map_toArray,List.map_cons,List.map_nil]);first | done|(simp only [hji57];rfl) | rfl|(simp only [List.length_drop,List.length_take];rfl)) ?_
                                     with_reducible refine (impl_OrderOf.calls kj34 ((rd_T31 t539 (ji57)).f0) ((rd_T31 t539 (ji57)).f1) ((rd_T31 t539 x10_3).f0) ((rd_T31 t539 x10_3).f1) t563 t564 _ A62.out).mono ?_
                                     rintro e w107 ⟨rfl,hb⟩
                                     have HS0_:=(hb.cell (wLt _ _ (hHeld.1))).trans (hHeld.1)
                                     have HS1_:=(hb.cell (wLt _ _ (hHeld.2.1))).trans (hHeld.2.1)
                                     have HS2_:=(hb.cell (wLt _ _ (hHeld.2.2.1))).trans (hHeld.2.2.1)
                                     have HS3_:=(hb.cell (wLt _ _ (hHeld.2.2.2))).trans (hHeld.2.2.2)
                                     refine ⟨_,rfl,?_⟩
                                     have n0_:=aMk (Kd.R_below (by (with_reducible repeat (first|apply Kd.R_alloc|apply Kd.R_drewN|apply Kd.R_drew));exact HO_5.out) hb)
                                     have n1_:=aMk (Kd.R_below (by (with_reducible repeat (first|apply Kd.R_alloc|apply Kd.R_drewN|apply Kd.R_drew));exact HO_6.out) hb)
                                     have n2_:=aMk (Kd.R_below (by (with_reducible repeat (first|apply Kd.R_alloc|apply Kd.R_drewN|apply Kd.R_drew));exact HO_8.out) hb)
                                     have n3_:=aMk (bSt hb)
                                     clear HO_5
                                     clear HO_6
                                     clear HO_8
                                     clear HB
                                     have HO_5:=n0_
                                     have HO_6:=n1_
                                     have HO_8:=n2_
                                     have HB:=n3_
                                     clear n0_ n1_ n2_ n3_
                                     (try clear hb)
                                     (try clear hb2)
                                     (try clear hk)
                                     (try clear hi)
                                     refine hK.out _ _ ⟨HS0_,HS1_,HS2_,HS3_⟩ (fun hHeld => ?_)
                                     clear hK K
                                     refine norm_ (a':=?_) ?_ ?_
                                     rotate_left
                                     ·show Act.put _ (some 135) _ = _
                                      simp only [Act.put,List.setIfInBounds_toArray,List.set_cons_zero,List.set_cons_succ,i64_w,i32_w]
                                      rfl
                                     refine pU (i:=10) (N:=some 125) #[true,true,true,true,true,true,true,true,true,true,true,false,false,false,false] (any_of HT_.out (by kernel_rfl)) ?_
                                     refine pU (i:=11) (N:=some 136) #[true,true,true,true,true,true,true,true,true,true,true,true,false,false,false] (any_of HT_.out (by kernel_rfl)) ?_
                                     refine pU (i:=12) (N:=some 137) #[true,true,true,true,true,true,true,true,true,true,true,true,true,false,false] (any_of HT_.out (by kernel_rfl)) ?_
                                     refine pU (i:=13) (N:=some 15) #[true,true,true,true,true,true,true,true,true,true,true,true,true,true,false] (any_of HT_.out (by kernel_rfl)) ?_
                                     refine pU (i:=14) (N:=some 16) #[true,true,true,true,true,true,true,true,true,true,true,true,true,true,true] (any_of HT_.out (by kernel_rfl)) ?_
                                     refine done_ (done_of HT_.out (by kernel_rfl)) ?_
                                     try go_wp2
                                     have n0_:=aMk (Kd.R_drew HO_5.out)
                                     have n1_:=aMk (Kd.R_drew HO_6.out)
                                     have n2_:=aMk (Kd.R_drew HO_8.out)
                                     have n3_:=aMk (bw1 HB.out)
                                     clear HO_5
                                     clear HO_6
                                     clear HO_8
                                     clear HB
                                     have HO_5:=n0_
                                     have HO_6:=n1_
                                     have HO_8:=n2_
                                     have HB:=n3_
                                     clear n0_ n1_ n2_ n3_
                                     have p565 : 0 ≤ (x10_3 : Int):=of_decide_eq_true (by first|(with_reducible assumption) | assumption)
                                     have q565 : x10_3 < (t539.length : Int):=of_decide_eq_true (by first|(with_reducible assumption) | assumption)
                                     obtain ⟨ad565,e565,hx565_0,hx565_1⟩:=at_T31 (Kd.R_reads' HO_6.out).2.2 x10_3 p565 q565
                                     obtain rfl : ad561 = ad565:=(by injection e565)
                                     replace p565:=eq_true p565
                                     replace q565:=eq_true q565
                                     have p566 : 0 ≤ ((ji57) : Int):=of_decide_eq_true (by first|(with_reducible assumption) | assumption)
                                     have q566 : (ji57) < (t539.length : Int):=of_decide_eq_true (by first|(with_reducible assumption) | assumption)
                                     obtain ⟨ad566,e566,hx566_0,hx566_1⟩:=at_T31 (Kd.R_reads' HO_6.out).2.2 (ji57) p566 q566
                                     obtain rfl : ad561 = ad566:=(by injection e566)
                                     replace p566:=eq_true p566
                                     replace q566:=eq_true q566
                                     refine start_ (n:=15) (S:=fun w' => w'.cell? (ad561.add ((x10_3).toNat * 2)) = some (.int .i64 ((rd_T31 t539 x10_3).f0)) ∧ w'.cell? ⟨(ad561.add ((x10_3).toNat * 2)).block,(ad561.add ((x10_3).toNat * 2)).off + 1,none⟩ = some (.int .i64 ((rd_T31 t539 x10_3).f1)) ∧ w'.cell? (ad561.add (((ji57)).toNat * 2)) = some (.int .i64 ((rd_T31 t539 (ji57)).f0)) ∧ w'.cell? ⟨(ad561.add (((ji57)).toNat * 2)).block,(ad561.add (((ji57)).toNat * 2)).off + 1,none⟩ = some (.int .i64 ((rd_T31 t539 (ji57)).f1))) (ds:=[]) #[false,false,false,false,false,false,false,false,false,false,false,false,false,false,false] (by kernel_rfl) rfl rfl ⟨hx565_0,hx565_1,hx566_0,hx566_1⟩ (fun hHeld => ?_);refine with_tabW laws_FnOrder.tab17 laws_FnOrder.bits17 (fun HT_ HW_ => ?_)
                                     generalize w107.drew = w108 at HO_5 HO_6 HO_8 HB hx565_0 hx565_1 hx566_0 hx566_1 hHeld ⊢
                                     refine pU (i:=0) (N:=some 139) #[true,false,false,false,false,false,false,false,false,false,false,false,false,false,false] (any_of HT_.out (by kernel_rfl)) ?_
                                     refine pU (i:=1) (N:=some 140) #[true,true,false,false,false,false,false,false,false,false,false,false,false,false,false] (any_of HT_.out (by kernel_rfl)) ?_
                                     refine pU (i:=2) (N:=some 141) #[true,true,true,false,false,false,false,false,false,false,false,false,false,false,false] (any_of HT_.out (by kernel_rfl)) ?_
                                     refine pU (i:=4) (N:=some 143) #[true,true,true,false,true,false,false,false,false,false,false,false,false,false,false] (any_of HT_.out (by kernel_rfl)) ?_
                                     refine pU (i:=5) (N:=some 144) #[true,true,true,false,true,true,false,false,false,false,false,false,false,false,false] (any_of HT_.out (by kernel_rfl)) ?_
                                     refine pU (i:=6) (N:=some 145) #[true,true,true,false,true,true,true,false,false,false,false,false,false,false,false] (any_of HT_.out (by kernel_rfl)) ?_
                                     refine pU (i:=7) (N:=some 146) #[true,true,true,false,true,true,true,true,false,false,false,false,false,false,false] (any_of HT_.out (by kernel_rfl)) ?_
                                     refine tU4 (i:=3) (N:=some 142) #[true,true,true,true,true,true,true,true,false,false,false,false,false,false,false] (take_ofW HT_.out HW_.out (by kernel_rfl)) hHeld ?_
                                     refine tU4 (i:=8) (N:=some 147) #[true,true,true,true,true,true,true,true,true,false,false,false,false,false,false] (take_ofW HT_.out HW_.out (by kernel_rfl)) hHeld ?_
                                     refine one_ (i:=9) (N:=some 148) #[true,true,true,true,true,true,true,true,true,true,false,false,false,false,false] rfl rfl (one_of HT_.out (by kernel_rfl)) (by decide) (fun K hK => ?_)
                                     refine goes_ Try.func15 (by kernel_rfl) rfl #[.agg #[.int .i64 ((rd_T31 t539 x10_3).f0),.int .i64 ((rd_T31 t539 x10_3).f1)],.agg #[.int .i64 ((rd_T31 t539 (ji57)).f0),.int .i64 ((rd_T31 t539 (ji57)).f1)]] (by rfl) rfl rfl (by (try simp only [List.map_toArray,List.map_cons,List.map_nil]);first | done|(simp only [hji57];rfl) | rfl|(simp only [List.length_drop,List.length_take];rfl)) ?_
                                     with_reducible refine (impl_OrderOf.calls kj34 ((rd_T31 t539 x10_3).f0) ((rd_T31 t539 x10_3).f1) ((rd_T31 t539 (ji57)).f0) ((rd_T31 t539 (ji57)).f1) t567 t568 _ A63.out).mono ?_
                                     rintro e w109 ⟨rfl,hb⟩
                                     have HS0_:=(hb.cell (wLt _ _ (hHeld.1))).trans (hHeld.1)
                                     have HS1_:=(hb.cell (wLt _ _ (hHeld.2.1))).trans (hHeld.2.1)
                                     have HS2_:=(hb.cell (wLt _ _ (hHeld.2.2.1))).trans (hHeld.2.2.1)
                                     have HS3_:=(hb.cell (wLt _ _ (hHeld.2.2.2))).trans (hHeld.2.2.2)
                                     refine ⟨_,rfl,?_⟩
                                     have n0_:=aMk (Kd.R_below (by (with_reducible repeat (first|apply Kd.R_alloc|apply Kd.R_drewN|apply Kd.R_drew));exact HO_5.out) hb)
                                     have n1_:=aMk (Kd.R_below (by (with_reducible repeat (first|apply Kd.R_alloc|apply Kd.R_drewN|apply Kd.R_drew));exact HO_6.out) hb)
                                     have n2_:=aMk (Kd.R_below (by (with_reducible repeat (first|apply Kd.R_alloc|apply Kd.R_drewN|apply Kd.R_drew));exact HO_8.out) hb)
                                     have n3_:=aMk (bSt hb)
                                     clear HO_5
                                     clear HO_6
                                     clear HO_8
                                     clear HB
                                     have HO_5:=n0_
                                     have HO_6:=n1_
                                     have HO_8:=n2_
                                     have HB:=n3_
                                     clear n0_ n1_ n2_ n3_
                                     (try clear hb)
                                     (try clear hb2)
                                     (try clear hk)
                                     (try clear hi)
                                     refine hK.out _ _ ⟨HS0_,HS1_,HS2_,HS3_⟩ (fun hHeld => ?_)
                                     clear hK K
                                     refine norm_ (a':=?_) ?_ ?_
                                     rotate_left
                                     ·show Act.put _ (some 148) _ = _
                                      simp only [Act.put,List.setIfInBounds_toArray,List.set_cons_zero,List.set_cons_succ,i64_w,i32_w]
                                      rfl
                                     refine pU (i:=10) (N:=some 138) #[true,true,true,true,true,true,true,true,true,true,true,false,false,false,false] (any_of HT_.out (by kernel_rfl)) ?_
                                     refine pU (i:=11) (N:=some 149) #[true,true,true,true,true,true,true,true,true,true,true,true,false,false,false] (any_of HT_.out (by kernel_rfl)) ?_
                                     refine pU (i:=12) (N:=some 150) #[true,true,true,true,true,true,true,true,true,true,true,true,true,false,false] (any_of HT_.out (by kernel_rfl)) ?_
                                     refine pU (i:=13) (N:=some 17) #[true,true,true,true,true,true,true,true,true,true,true,true,true,true,false] (any_of HT_.out (by kernel_rfl)) ?_
                                     refine pU (i:=14) (N:=some 18) #[true,true,true,true,true,true,true,true,true,true,true,true,true,true,true] (any_of HT_.out (by kernel_rfl)) ?_
                                     refine done_ (done_of HT_.out (by kernel_rfl)) ?_
                                     have p569 : 0 ≤ ((ji57) : Int):=of_decide_eq_true (by first|(with_reducible assumption) | assumption)
                                     have q569 : (ji57) < (t539.length : Int):=of_decide_eq_true (by first|(with_reducible assumption) | assumption)
                                     obtain ⟨ad569,e569,hx569_0,hx569_1⟩:=at_T31 (Kd.R_reads' HO_6.out).2.2 (ji57) p569 q569
                                     obtain rfl : ad561 = ad569:=(by injection e569)
                                     replace p569:=eq_true p569
                                     replace q569:=eq_true q569
                                     try go_wp2_with (first|((with_reducible refine gate_callee (f:=34) rfl ?_);refine goesL_ (some 157) rfl rfl Try.func34 (by kernel_rfl) rfl #[.agg #[.int .i64 ((rd_T31 t539 (ji57)).f0),.int .i64 ((rd_T31 t539 (ji57)).f1)]] rfl (by (try simp only [List.map_toArray,List.map_cons,List.map_nil]);first | done|(simp only [hji57];rfl) | rfl|(simp only [List.length_drop,List.length_take];rfl)) ?_;(with_reducible refine (impl_NegOf.calls ((rd_T31 t539 (ji57)).f0) ((rd_T31 t539 (ji57)).f1) t570 t571 t572 _ A64.out).mono ?_);rintro e w110 ⟨rfl,hb⟩;refine ⟨_,rfl,?_⟩;have n0_:=aMk (Kd.R_below (by (with_reducible repeat (first|apply Kd.R_alloc|apply Kd.R_drewN|apply Kd.R_drew));exact HO_5.out) hb);have n1_:=aMk (Kd.R_below (by (with_reducible repeat (first|apply Kd.R_alloc|apply Kd.R_drewN|apply Kd.R_drew));exact HO_6.out) hb);have n2_:=aMk (Kd.R_below (by (with_reducible repeat (first|apply Kd.R_alloc|apply Kd.R_drewN|apply Kd.R_drew));exact HO_8.out) hb);have n3_:=aMk (bSt hb);clear HO_5;clear HO_6;clear HO_8;clear HB;have HO_5:=n0_;have HO_6:=n1_;have HO_8:=n2_;have HB:=n3_;clear n0_ n1_ n2_ n3_;(try clear hb);(try clear hb2);(try clear hk);(try clear hi))|((with_reducible refine gate_dst (N:=19) rfl ?_);(try (refine gate_guard (by rfl) ?_;dsimp only));refine bxE (N:=19) (cs:=#[.int .i64 0,.int .i64 0]) (t:=31) ?_;intro gb573 hg w111 hbox hb;have n0_:=aMk (Kd.R_below (Kd.R_elderB (by (with_reducible repeat (first|apply Kd.R_alloc|apply Kd.R_drewN|apply Kd.R_drew));exact HO_5.out) gb573 (Nat.le_of_eq hg.symm)) hb);have n1_:=aMk (Kd.R_below (Kd.R_elderB (by (with_reducible repeat (first|apply Kd.R_alloc|apply Kd.R_drewN|apply Kd.R_drew));exact HO_6.out) gb573 (Nat.le_of_eq hg.symm)) hb);have n2_:=aMk (Kd.R_below (Kd.R_elderB (by (with_reducible repeat (first|apply Kd.R_alloc|apply Kd.R_drewN|apply Kd.R_drew));exact HO_8.out) gb573 (Nat.le_of_eq hg.symm)) hb);have n3_:=aMk (bSt hb);have n4_:=aMk (hbox);have n5_:=aMk ((by rw [hg];exact bSz : w.heap.size ≤ gb573));have n6_:=aMk ((by rw [hg];exact bSz : w.heap.size ≤ gb573));clear HO_5;clear HO_6;clear HO_8;clear HB;have HO_5:=n0_;have HO_6:=n1_;have HO_8:=n2_;have HB:=n3_;have BK573:=n4_;have GW573:=n5_;have GE573:=n6_;clear n0_ n1_ n2_ n3_ n4_ n5_ n6_;clear hb hbox hg;obtain ⟨hcz112_0,hcz112_1,hfz112_0,hfz112_1⟩:=bC2 BK573.out;have p574 : 0 ≤ (x10_3 : Int):=of_decide_eq_true (by first|(with_reducible assumption) | assumption);have q574 : x10_3 < (t539.length : Int):=of_decide_eq_true (by first|(with_reducible assumption) | assumption);obtain ⟨ad574,e574,hx574_0,hx574_1⟩:=at_T31 (Kd.R_reads' HO_6.out).2.2 x10_3 p574 q574;obtain rfl : ad561 = ad574:=(by injection e574);have hn574_0 : ad561.block ≠ gb573:=(by first|exact Kd.own_blk (Kd.R_ne HO_6.out BK573.out (by decide))|exact (HO_6.out.1 _ rfl).2|exact (HO_6.out.1 _ rfl).1.2|exact (HO_6.out.1 _ rfl).1.1.2);have hn574_1 : ad561.block ≠ gb573:=(by first|exact Kd.own_blk (Kd.R_ne HO_6.out BK573.out (by decide))|exact (HO_6.out.1 _ rfl).2|exact (HO_6.out.1 _ rfl).1.2|exact (HO_6.out.1 _ rfl).1.1.2);replace hx574_0:=(cell_far (p:=⟨gb573,0,none⟩) (by first|(rw [add_block];exact hn574_0)|(show (Addr.add _ _).block ≠ _;rw [add_block];exact hn574_0)|exact hn574_0) (.int .i64 t570)).trans hx574_0;replace hx574_1:=(cell_far (p:=⟨gb573,0,none⟩) (by first|(rw [add_block];exact hn574_0)|(show (Addr.add _ _).block ≠ _;rw [add_block];exact hn574_0)|exact hn574_0) (.int .i64 t570)).trans hx574_1;replace hx574_0:=(cell_far (p:=⟨gb573,1,none⟩) (by first|(rw [add_block];exact hn574_1)|(show (Addr.add _ _).block ≠ _;rw [add_block];exact hn574_1)|exact hn574_1) (.int .i64 t571)).trans hx574_0;replace hx574_1:=(cell_far (p:=⟨gb573,1,none⟩) (by first|(rw [add_block];exact hn574_1)|(show (Addr.add _ _).block ≠ _;rw [add_block];exact hn574_1)|exact hn574_1) (.int .i64 t571)).trans hx574_1;clear hn574_0;clear hn574_1;replace p574:=eq_true p574;replace q574:=eq_true q574)|((with_reducible refine gate_callee (f:=34) rfl ?_);refine gLs 165 Try.func34 #[.agg #[.int .i64 ((rd_T31 t539 x10_3).f0),.int .i64 ((rd_T31 t539 x10_3).f1)]] ?_;(with_reducible refine (impl_NegOf.calls ((rd_T31 t539 x10_3).f0) ((rd_T31 t539 x10_3).f1) t575 t576 t577 _ A65.out).mono ?_);rintro e w113 ⟨rfl,hb⟩;refine ⟨_,rfl,?_⟩;have n0_:=aMk (Kd.R_below (by (with_reducible repeat (first|apply Kd.R_alloc|apply Kd.R_drewN|apply Kd.R_drew));exact (Kd.R_mono (Kd.R_far (p:=⟨gb573,1,none⟩) (Kd.R_far (p:=⟨gb573,0,none⟩) (Kd.R_mono HO_5.out (fun k_ hk => (⟨hk,hk.2⟩ : _ ∧ k_ ≠ gb573))) (fun _ hk => hk.2) (.int .i64 t570)) (fun _ hk => hk.2) (.int .i64 t571)) (fun _ h_ => h_.1))) hb);have n1_:=aMk (Kd.R_below (by (with_reducible repeat (first|apply Kd.R_alloc|apply Kd.R_drewN|apply Kd.R_drew));exact (Kd.R_mono (Kd.R_far (p:=⟨gb573,1,none⟩) (Kd.R_far (p:=⟨gb573,0,none⟩) (Kd.R_mono HO_6.out (fun k_ hk => (⟨hk,hk.2⟩ : _ ∧ k_ ≠ gb573))) (fun _ hk => hk.2) (.int .i64 t570)) (fun _ hk => hk.2) (.int .i64 t571)) (fun _ h_ => h_.1))) hb);have n2_:=aMk (Kd.R_below (by (with_reducible repeat (first|apply Kd.R_alloc|apply Kd.R_drewN|apply Kd.R_drew));exact (Kd.R_mono (Kd.R_far (p:=⟨gb573,1,none⟩) (Kd.R_far (p:=⟨gb573,0,none⟩) (Kd.R_mono HO_8.out (fun k_ hk => (⟨hk,hk.2⟩ : _ ∧ k_ ≠ gb573))) (fun _ hk => hk.2) (.int .i64 t570)) (fun _ hk => hk.2) (.int .i64 t571)) (fun _ h_ => h_.1))) hb);have n3_:=aMk (blk_below (g:=gb573) (o:=.cells #[.int .i64 t570,.int .i64 t571] 31 (0,0)) (by refine pB ?_;refine blk_put (cs:=#[.int .i64 t570,.int .i64 0]) ?_ 1 _ rfl;refine pB ?_;refine blk_put (cs:=#[.int .i64 0,.int .i64 0]) ?_ 0 _ rfl;refine pB ?_;exact BK573.out) hb);have n4_:=aMk (below_step (by repeat (first|(with_reducible first|exact HB.out|apply bwA|apply bwN|apply bw1|refine below_set ?_ GE573.out)|exact HB.out)) hb);clear HO_5;clear HO_6;clear HO_8;clear BK573;clear HB;have HO_5:=n0_;have HO_6:=n1_;have HO_8:=n2_;have BK573:=n3_;have HB:=n4_;clear n0_ n1_ n2_ n3_ n4_;(try clear hb);(try clear hb2);(try clear hk);(try clear hi))|((with_reducible refine gate_dst (N:=21) rfl ?_);(try (refine gate_guard (by rfl) ?_;dsimp only));refine bxE (N:=21) (cs:=#[.int .i64 0,.int .i64 0]) (t:=31) ?_;intro gb578 hg w114 hbox hb;have n0_:=aMk (Kd.R_below (Kd.R_elderB (by (with_reducible repeat (first|apply Kd.R_alloc|apply Kd.R_drewN|apply Kd.R_drew));exact HO_5.out) gb578 (Nat.le_of_eq hg.symm)) hb);have n1_:=aMk (Kd.R_below (Kd.R_elderB (by (with_reducible repeat (first|apply Kd.R_alloc|apply Kd.R_drewN|apply Kd.R_drew));exact HO_6.out) gb578 (Nat.le_of_eq hg.symm)) hb);have n2_:=aMk (Kd.R_below (Kd.R_elderB (by (with_reducible repeat (first|apply Kd.R_alloc|apply Kd.R_drewN|apply Kd.R_drew));exact HO_8.out) gb578 (Nat.le_of_eq hg.symm)) hb);have n3_:=aMk (bkB BK573.out hb);have n4_:=aMk (below_step (by repeat (first|(with_reducible first|exact HB.out|apply bwA|apply bwN|apply bw1|refine below_set ?_ GE573.out)|exact HB.out)) hb);have n5_:=aMk (hbox);have n6_:=aMk ((by rw [hg];exact (below_size (by repeat (first|(with_reducible first|exact HB.out|apply bwA|apply bwN|apply bw1|refine below_set ?_ GE573.out)|exact HB.out))) : w.heap.size ≤ gb578));have n7_:=aMk ((by rw [hg];exact (below_size (by repeat (first|(with_reducible first|exact HB.out|apply bwA|apply bwN|apply bw1|refine below_set ?_ GE573.out)|exact HB.out))) : w.heap.size ≤ gb578));have n8_:=aMk ((bkL BK573.out hg : gb573 ≠ gb578));have n9_:=aMk ((bkG BK573.out hg : gb578 ≠ gb573));clear HO_5;clear HO_6;clear HO_8;clear BK573;clear HB;have HO_5:=n0_;have HO_6:=n1_;have HO_8:=n2_;have BK573:=n3_;have HB:=n4_;have BK578:=n5_;have GW578:=n6_;have GE578:=n7_;have NB573_578:=n8_;have NB578_573:=n9_;clear n0_ n1_ n2_ n3_ n4_ n5_ n6_ n7_ n8_ n9_;clear hb hbox hg;have hnb115:=NB578_573.out;have hnc115:=NB573_578.out;obtain ⟨hcz116_0,hcz116_1,hfz116_0,hfz116_1⟩:=bC2 BK578.out;obtain ⟨hcz117_0,hcz117_1,hfz117_0,hfz117_1⟩:=bC2 BK573.out)|((with_reducible refine gate_callee (f:=15) rfl ?_);refine gLs 171 Try.func15 #[.agg #[.int .i64 t570,.int .i64 t571],.agg #[.int .i64 t575,.int .i64 t576]] ?_;(with_reducible refine (impl_OrderOf.calls kj34 t570 t571 t575 t576 t579 t580 _ A66.out).mono ?_);rintro e w118 ⟨rfl,hb⟩;refine ⟨_,rfl,?_⟩;have n0_:=aMk (Kd.R_below (by (with_reducible repeat (first|apply Kd.R_alloc|apply Kd.R_drewN|apply Kd.R_drew));exact (Kd.R_mono (Kd.R_far (p:=⟨gb578,1,none⟩) (Kd.R_far (p:=⟨gb578,0,none⟩) (Kd.R_mono HO_5.out (fun k_ hk => (⟨hk,hk.2⟩ : _ ∧ k_ ≠ gb578))) (fun _ hk => hk.2) (.int .i64 t575)) (fun _ hk => hk.2) (.int .i64 t576)) (fun _ h_ => h_.1))) hb);have n1_:=aMk (Kd.R_below (by (with_reducible repeat (first|apply Kd.R_alloc|apply Kd.R_drewN|apply Kd.R_drew));exact (Kd.R_mono (Kd.R_far (p:=⟨gb578,1,none⟩) (Kd.R_far (p:=⟨gb578,0,none⟩) (Kd.R_mono HO_6.out (fun k_ hk => (⟨hk,hk.2⟩ : _ ∧ k_ ≠ gb578))) (fun _ hk => hk.2) (.int .i64 t575)) (fun _ hk => hk.2) (.int .i64 t576)) (fun _ h_ => h_.1))) hb);have n2_:=aMk (Kd.R_below (by (with_reducible repeat (first|apply Kd.R_alloc|apply Kd.R_drewN|apply Kd.R_drew));exact (Kd.R_mono (Kd.R_far (p:=⟨gb578,1,none⟩) (Kd.R_far (p:=⟨gb578,0,none⟩) (Kd.R_mono HO_8.out (fun k_ hk => (⟨hk,hk.2⟩ : _ ∧ k_ ≠ gb578))) (fun _ hk => hk.2) (.int .i64 t575)) (fun _ hk => hk.2) (.int .i64 t576)) (fun _ h_ => h_.1))) hb);have n3_:=aMk (blk_below (g:=gb573) (o:=.cells #[.int .i64 t570,.int .i64 t571] 31 (0,0)) (by refine pB ?_;refine blk_far ?_ NB573_578.out _;refine pB ?_;refine blk_far ?_ NB573_578.out _;refine pB ?_;exact BK573.out) hb);have n4_:=aMk (blk_below (g:=gb578) (o:=.cells #[.int .i64 t575,.int .i64 t576] 31 (0,0)) (by refine pB ?_;refine blk_put (cs:=#[.int .i64 t575,.int .i64 0]) ?_ 1 _ rfl;refine pB ?_;refine blk_put (cs:=#[.int .i64 0,.int .i64 0]) ?_ 0 _ rfl;refine pB ?_;exact BK578.out) hb);have n5_:=aMk (below_step (by repeat (first|(with_reducible first|exact HB.out|apply bwA|apply bwN|apply bw1|refine below_set ?_ GE573.out|refine below_set ?_ GE578.out)|exact HB.out)) hb);clear HO_5;clear HO_6;clear HO_8;clear BK573;clear BK578;clear HB;have HO_5:=n0_;have HO_6:=n1_;have HO_8:=n2_;have BK573:=n3_;have BK578:=n4_;have HB:=n5_;clear n0_ n1_ n2_ n3_ n4_ n5_;(try clear hb);(try clear hb2);(try clear hk);(try clear hi);have p581 : 0 ≤ ((ji57) : Int):=of_decide_eq_true (by first|(with_reducible assumption) | assumption);have q581 : (ji57) < (t539.length : Int):=of_decide_eq_true (by first|(with_reducible assumption) | assumption);obtain ⟨ad581,e581,hx581_0,hx581_1⟩:=at_T31 (Kd.R_reads' HO_6.out).2.2 (ji57) p581 q581;obtain rfl : ad561 = ad581:=(by injection e581);replace p581:=eq_true p581;replace q581:=eq_true q581)|((with_reducible refine gate_callee (f:=32) rfl ?_);refine goesL_ (some 180) rfl rfl Try.func32 (by kernel_rfl) rfl #[.agg #[.int .i64 ((rd_T31 t539 (ji57)).f0),.int .i64 ((rd_T31 t539 (ji57)).f1)]] rfl (by (try simp only [List.map_toArray,List.map_cons,List.map_nil]);first | done|(simp only [hji57];rfl) | rfl|(simp only [List.length_drop,List.length_take];rfl)) ?_;(with_reducible refine (impl_ClassOf.calls ((rd_T31 t539 (ji57)).f0) ((rd_T31 t539 (ji57)).f1) t582 t583 _ A67.out).mono ?_);rintro e w119 ⟨rfl,hb⟩;refine ⟨_,rfl,?_⟩;have n0_:=aMk (Kd.R_below (by (with_reducible repeat (first|apply Kd.R_alloc|apply Kd.R_drewN|apply Kd.R_drew));exact HO_5.out) hb);have n1_:=aMk (Kd.R_below (by (with_reducible repeat (first|apply Kd.R_alloc|apply Kd.R_drewN|apply Kd.R_drew));exact HO_6.out) hb);have n2_:=aMk (Kd.R_below (by (with_reducible repeat (first|apply Kd.R_alloc|apply Kd.R_drewN|apply Kd.R_drew));exact HO_8.out) hb);have n3_:=aMk (bkB BK573.out hb);have n4_:=aMk (bkB BK578.out hb);have n5_:=aMk (below_step (by repeat (first|(with_reducible first|exact HB.out|apply bwA|apply bwN|apply bw1|refine below_set ?_ GE573.out|refine below_set ?_ GE578.out)|exact HB.out)) hb);clear HO_5;clear HO_6;clear HO_8;clear BK573;clear BK578;clear HB;have HO_5:=n0_;have HO_6:=n1_;have HO_8:=n2_;have BK573:=n3_;have BK578:=n4_;have HB:=n5_;clear n0_ n1_ n2_ n3_ n4_ n5_;(try clear hb);(try clear hb2);(try clear hk);(try clear hi)))
                                     go_roundg kj34
                                     case measure => have:=HJ2.out;have:=HJ11.out;have:=HK3.out;have:=HJ34.out;omega
                                     case rel => exact ⟨(wrap64 (x10_3 + 1)),(by first | rfl|(simp;done)|(simp [*];done)|(simp [ne_nil_b];done)|(simp [ne_nil_b, *];done)),H',⟨by have:=HJ2.out;have:=HJ11.out;have:=HK3.out;have:=HJ34.out;omega⟩,⟨by (with_reducible repeat (first|apply Kd.R_alloc|apply Kd.R_drewN|apply Kd.R_drew));exact Kd.R_mono HO_5.out (fun _ hk => ⟨hk.1.1.1,hk.1.1.2⟩)⟩,⟨by (with_reducible repeat (first|apply Kd.R_alloc|apply Kd.R_drewN|apply Kd.R_drew));exact Kd.R_mono HO_6.out (fun _ hk => ⟨hk.1.1.1,hk.1.1.2⟩)⟩,⟨by (with_reducible repeat (first|apply Kd.R_alloc|apply Kd.R_drewN|apply Kd.R_drew));exact Kd.R_mono HO_8.out (fun _ hk => ⟨hk.1.1.1,hk.1.1.2⟩)⟩,⟨by repeat (first|(with_reducible first|exact HB.out|apply bwA|apply bwN|apply bw1|refine below_set ?_ GE573.out|refine below_set ?_ GE578.out)|exact HB.out)⟩⟩
                                    ·rw [if_neg c105] at H
                                     have c105b0 : (t579 == t567) = false:=beq_eq_false_iff_ne.mpr c105
                                     have c105b1 : (t579 != t567) = true:=bne_iff_ne.mpr c105
                                     exact absurd ((Option.some.inj H).trans HRT_.out) (by decide)
                                 ·rw [if_neg c89] at H
                                  have c89b0 : (t563 == (wrap64 (-t567))) = false:=beq_eq_false_iff_ne.mpr c89
                                  have c89b1 : (t563 != (wrap64 (-t567))) = true:=bne_iff_ne.mpr c89
                                  exact absurd ((Option.some.inj H).trans HRT_.out) (by decide)
                               ·rw [if_neg c73] at H
                                have c73b0 : (t583 == 0) = false:=beq_eq_false_iff_ne.mpr c73
                                have c73b1 : (t583 != 0) = true:=bne_iff_ne.mpr c73
                                exact absurd ((Option.some.inj H).trans HRT_.out) (by decide)
                              ·rw [if_neg c72] at H
                               have c72b0 : (t580 == 0) = false:=beq_eq_false_iff_ne.mpr c72
                               have c72b1 : (t580 != 0) = true:=bne_iff_ne.mpr c72
                               exact absurd ((Option.some.inj H).trans HRT_.out) (by decide)
                             ·rw [if_neg c71] at H
                              have c71b0 : (t577 == 0) = false:=beq_eq_false_iff_ne.mpr c71
                              have c71b1 : (t577 != 0) = true:=bne_iff_ne.mpr c71
                              exact absurd ((Option.some.inj H).trans HRT_.out) (by decide)
                            ·rw [if_neg c70] at H
                             have c70b0 : (t572 == 0) = false:=beq_eq_false_iff_ne.mpr c70
                             have c70b1 : (t572 != 0) = true:=bne_iff_ne.mpr c70
                             exact absurd ((Option.some.inj H).trans HRT_.out) (by decide)
                           ·rw [if_neg c69] at H
                            have c69b0 : (t568 == 0) = false:=beq_eq_false_iff_ne.mpr c69
                            have c69b1 : (t568 != 0) = true:=bne_iff_ne.mpr c69
                            exact absurd ((Option.some.inj H).trans HRT_.out) (by decide)
                          ·rw [if_neg c68] at H
                           have c68b0 : (t564 == 0) = false:=beq_eq_false_iff_ne.mpr c68
                           have c68b1 : (t564 != 0) = true:=bne_iff_ne.mpr c68
                           exact absurd ((Option.some.inj H).trans HRT_.out) (by decide)
                         ·rw [if_neg c61] at H
                          exact absurd H (by simp)
                        ·rw [if_neg c60] at H
                         exact absurd H (by simp)
                       ·rw [if_neg c59] at H
                        exact absurd H (by simp)
                      ·rw [if_neg c58] at H
                       exact absurd H (by simp)
                ·rw [if_neg c32] at H
                 exact absurd H (by simp)
               ·rw [if_neg c31] at H
                exact absurd H (by simp)
              ·rw [if_neg c30] at H
               have c30b0 : decide (x10_3 < (t539.length : Int)) = false:=decide_eq_false c30
               clear c30
               replace H:=Option.bind_eq_some_iff.mp H
               obtain ⟨⟨t547,t548⟩,A2320,H⟩:=H
               replace H : (if t548 = 0 then (some (t547 == (-1))) else (some false)) = some r:=H
               have A232:=aMk A2320
               clear A2320
               by_cases c233 : t548 = 0
               ·rw [if_pos c233] at H
                have c233b0 : (t548 == 0) = true:=beq_iff_eq.mpr c233
                have c233b1 : (t548 != 0) = false:=bne_eq_false_iff_eq.mpr c233
                clear c233
                obtain rfl:=Option.some.inj H
                obtain ⟨Ao234,co234,eo234⟩:=Kd.R_slice HO_6.out
                subst eo234
                go_wp2_with (first|((with_reducible refine gate_callee (f:=15) rfl ?_);refine gLs 227 Try.func15 #[.agg #[.int .i64 2147483648,.int .i64 0],.agg #[.int .i64 0,.int .i64 0]] ?_;(with_reducible refine (impl_OrderOf.calls k3 2147483648 0 0 0 t547 t548 _ A232.out).mono ?_);rintro e w235 ⟨rfl,hb⟩;refine ⟨_,rfl,?_⟩;have n0_:=aMk (Kd.R_below (by (with_reducible repeat (first|apply Kd.R_alloc|apply Kd.R_drewN|apply Kd.R_drew));exact HO_5.out) hb);have n1_:=aMk (Kd.R_below (by (with_reducible repeat (first|apply Kd.R_alloc|apply Kd.R_drewN|apply Kd.R_drew));exact HO_6.out) hb);have n2_:=aMk (Kd.R_below (by (with_reducible repeat (first|apply Kd.R_alloc|apply Kd.R_drewN|apply Kd.R_drew));exact HO_8.out) hb);have n3_:=aMk (bSt hb);clear HO_5;clear HO_6;clear HO_8;clear HB;have HO_5:=n0_;have HO_6:=n1_;have HO_8:=n2_;have HB:=n3_;clear n0_ n1_ n2_ n3_;(try clear hb);(try clear hb2);(try clear hk);(try clear hi)))
                go_ret
                exact ⟨eRf,by repeat (first|(with_reducible first|exact HB.out|apply bwA|apply bwN|apply bw1)|exact HB.out)⟩
               ·rw [if_neg c233] at H
                have c233b0 : (t548 == 0) = false:=beq_eq_false_iff_ne.mpr c233
                have c233b1 : (t548 != 0) = true:=bne_iff_ne.mpr c233
                exact absurd ((Option.some.inj H).trans HRT_.out) (by decide)
      ·rw [if_neg c9] at H
       exact absurd H (by simp)
     ·rw [if_neg c7] at H
      exact absurd H (by simp)

/-- THE ONE PURE STATEMENT of laws_FnOrder: yours. -/
def laws_FnOrder.Pure : Prop:=∀ (l0 : List Int) (l1 : List Int),l0.length ≤ maxLen → l0.length * 1 ≤ 140737488351232 → (∀ x ∈ l0,(Lit.int .u8 x).wf = true) → l1.length ≤ maxLen → l1.length * 1 ≤ 140737488351232 → (∀ x ∈ l1,(Lit.int .u8 x).wf = true) → ∃ k,laws_FnOrder.f k l0 l1 = some true
theorem laws_FnOrder.walk (P : laws_FnOrder.Pure) (a0 : Option Addr) (len0 cap0 : Nat) (z0 : List Int) (a1 : Option Addr) (len1 cap1 : Nat) (z1 : List Int) (w : World) (w0 : (a0 = none ∧ len0 = 0 ∧ cap0 = 0 ∧ z0 = []) ∨ ∃ x,a0 = some x ∧ len0 ≤ cap0 ∧ cap0 ≤ maxLen ∧ z0.length = cap0 ∧ (∀ i,i < z0.length → w.cell? (x.add i) = some (.int .u8 (z0.getD i 0))) ∧ ∀ n ∈ z0,(Lit.int .u8 n).wf = true) (y0 : len0 * 1 ≤ 140737488351232) (w1 : (a1 = none ∧ len1 = 0 ∧ cap1 = 0 ∧ z1 = []) ∨ ∃ x,a1 = some x ∧ len1 ≤ cap1 ∧ cap1 ≤ maxLen ∧ z1.length = cap1 ∧ (∀ i,i < z1.length → w.cell? (x.add i) = some (.int .u8 (z1.getD i 0))) ∧ ∀ n ∈ z1,(Lit.int .u8 n).wf = true) (y1 : len1 * 1 ≤ 140737488351232) :
  Calls Try.prog 8 #[.slice a0 len0 cap0,.slice a1 len1 cap1] w fun e w' => e = .returned (.bool true) ∧ Below w.heap.size w w':=by
 obtain ⟨l0,rfl,hr0,hm0,hw0,hc0⟩:=ReadsInt.ofRowC w0
 obtain ⟨l1,rfl,hr1,hm1,hw1,hc1⟩:=ReadsInt.ofRowC w1
 obtain ⟨k,h⟩:=P l0 l1 hm0 y0 hw0 hm1 y1 hw1
 refine (laws_FnOrder.calls k _ _ l0 _ _ l1 true w (Kd.C_of_reads (d:=(0 : Int)) (h1:=fun _ => rfl) hr0) hc0 (Kd.C_of_reads (d:=(0 : Int)) (h1:=fun _ => rfl) hr1) hc1 h rfl).mono ?_
 rintro e w' ⟨rfl,hd⟩
 exact ⟨rfl,hd⟩
end
section
-- IMPORT Derived.SizedLaws
-- IMPORT Derived.ProofKit
-- IMPORT Derived.WalkKit
-- IMPORT Derived.OpenShut
-- IMPORT Derived.ShutString
-- IMPORT Derived.ChangeOld
-- IMPORT Derived.Below
-- IMPORT Derived.Deep.Slices
open Go.ChangeShapes Go.WideShapes Go.ChangeAt Go.Deep
/-- What reads as data of type t is a value of the kind d,and meets wf. -/
structure Opens (P : Program) (t : TypeId) {α : Type} (d : Kd α) (wf : α → Prop) : Prop where
 sz : P.cellsOf t = d.sz
 op : ∀ {H : Type} {enc : TypeId × Value → H} {w : World} {fuel : Nat} {cs : List Value} {y : DataW H × List MemPlace},DataW.trod enc P w 0 (fun _ => true) true fuel t cs = some y → (∀ n ∈ y.1.weights P t,n ≤ reachBytes) → ∃ x,d.K w x cs ∧ wf x
theorem Opens.int {P : Program} {t : TypeId} {k : IntKind} (hu : P.underlying t = some (.int k)) (hc : P.cellsOf t = 1) : Opens P t (Kd.int k) (fun n => (Lit.int k n).wf = true) :=
 ⟨hc,fun h _ => by obtain ⟨n,rfl,rfl,wf⟩:=DataW.trod_int hu h;exact ⟨n,rfl,wf⟩⟩
theorem Opens.bool {P : Program} {t : TypeId} (hu : P.underlying t = some .bool) (hc : P.cellsOf t = 1) : Opens P t Kd.bool (fun _ => True) :=
 ⟨hc,fun h _ => by obtain ⟨n,rfl,rfl⟩:=DataW.trod_bool hu h;exact ⟨n,rfl,trivial⟩⟩
theorem Opens.string {P : Program} {t : TypeId} (hu : P.underlying t = some .string) (hc : P.cellsOf t = 1) : Opens P t Kd.string (fun s => s.size ≤ 140737488351232) :=
 ⟨hc,fun h hw => by
  obtain ⟨s,rfl,rfl,_⟩:=DataW.trod_string hu h
  refine ⟨s,rfl,?_⟩
  have:=hw s.data.toList.length (by simp [DataW.weights])
  simpa [reachBytes] using this⟩
theorem weights_mem_all {H : Type} {P : Program} {e : TypeId} {n : Nat} : ∀ {l : List (DataW H)} {d : DataW H},d ∈ l → n ∈ d.weights P e → n ∈ DataW.weightsAll P e l
 | d0 :: l,d,hd,hn => by
  simp only [DataW.weightsAll,List.mem_append]
  rcases List.mem_cons.1 hd with rfl | hd
  ·exact .inl hn
  ·exact .inr (weights_mem_all hd hn)
 | [],_,hd,_ => by cases hd
theorem list_of_all {α : Type} {Q : Nat → α → Prop} (n : Nat) (h : ∀ i,i < n → ∃ x,Q i x) : ∃ xs : List α,xs.length = n ∧ ∀ j x,xs[j]? = some x → Q j x:=by
 induction n with
 | zero => exact ⟨[],rfl,fun j x h => by simp at h⟩
 | succ n ih =>
  obtain ⟨xs,hl,hx⟩:=ih (fun i hi => h i (by omega))
  obtain ⟨x,hq⟩:=h n (by omega)
  refine ⟨xs ++ [x],by simp [hl],fun j y hj => ?_⟩
  rcases Nat.lt_or_ge j xs.length with hlt | hge
  ·rw [List.getElem?_append_left hlt] at hj
   exact hx j y hj
  ·rw [List.getElem?_append_right hge] at hj
   have : j - xs.length = 0:=by
    rcases Nat.lt_or_ge (j - xs.length) 1 with h1 | h1
    ·omega
    ·rw [List.getElem?_eq_none (by simpa using h1)] at hj;cases hj
   rw [this] at hj
   simp at hj
   subst hj
   have : j = n:=by omega
   subst this
   exact hq
theorem Opens.slice {α : Type} {P : Program} {t e : TypeId} {d : Kd α} {wf : α → Prop} (hu : P.underlying t = some (.slice e)) (hc : P.cellsOf t = 1) (B : Nat) (hB : P.bytesOf e = B) (he : Opens P e d wf) :
  Opens P t (Kd.slice e d) (fun xs => xs.length * B ≤ 140737488351232 ∧ xs.length ≤ maxLen ∧ ∀ x ∈ xs,wf x) :=
 ⟨hc,fun {H enc w fuel cs y} h hw => by
  rcases open_slice hu h with ⟨rfl,rfl⟩ | ⟨a,len,cap,m,n,D,Pl,rfl,_,hl,hm,hmm,rfl,hel⟩
  ·exact ⟨[],⟨none,0,rfl,Nat.le_refl _,Kd.C_nil d w⟩,by simp,by simp,fun x hx => by cases hx⟩
  have hmc : m = cap:=by rw [hmm];rfl
  subst hmc
  have hwt : ∀ i,i < len → ∀ z ∈ (D i).weights P e,z ≤ reachBytes:=fun i hi z hz => hw z (by
   simp only [DataW.weights,hu]
   exact List.mem_cons_of_mem _ (List.mem_append_left _ (weights_mem_all (List.mem_map.2 ⟨i,List.mem_range.2 hi,rfl⟩) hz)))
  have hall : ∀ i,i < len → ∃ x : α,(∃ c,c.length = d.sz ∧ d.K w x c ∧ ∀ j u,c[j]? = some u → w.cell? (a.add (i * d.sz + j)) = some u) ∧ wf x:=by
   intro i hi
   obtain ⟨cs',hcs,htr⟩:=hel i (by omega)
   obtain ⟨x,hk,hx⟩:=he.op htr (hwt i hi)
   obtain ⟨_,hlen,hcell⟩:=World.cells?_some hcs
   refine ⟨x,⟨cs',by rw [hlen,he.sz],hk,fun j u hu' => ?_⟩,hx⟩
   have hj : j < cs'.length:=by
    rcases Nat.lt_or_ge j cs'.length with h1 | h1
    ·exact h1
    ·rw [List.getElem?_eq_none h1] at hu';cases hu'
   rw [hlen] at hj
   have hcj:=hcell j hj
   rw [hu',he.sz,Addr.add_add] at hcj
   exact hcj
  obtain ⟨xs,hxl,hxs⟩:=list_of_all (Q:=fun i x => (∃ c,c.length = d.sz ∧ d.K w x c ∧ ∀ j u,c[j]? = some u → w.cell? (a.add (i * d.sz + j)) = some u) ∧ wf x) len hall
  subst hxl
  refine ⟨xs,⟨some a,m,rfl,hl,rfl,?_,fun _ => ⟨a,rfl,fun j p hp => (hxs j p hp).1⟩⟩,?_,?_,?_⟩
  ·unfold maxLen at hm;omega
  ·have:=hw ((List.map D (List.range xs.length)).length + (List.map (fun j => D (xs.length + j)) (List.range (m - xs.length))).length) |> fun h => h
   have h1:=hw (((List.map D (List.range xs.length)).length + (List.map (fun j => D (xs.length + j)) (List.range (m - xs.length))).length) * P.bytesOf e) (by simp only [DataW.weights,hu];exact List.mem_cons_self)
   rw [hB] at h1
   simp only [List.length_map,List.length_range] at h1
   have h2 : xs.length * B ≤ (xs.length + (m - xs.length)) * B:=Nat.mul_le_mul_right _ (by omega)
   exact Nat.le_trans h2 h1
  ·omega
  ·intro x hx
   obtain ⟨j,hj,rfl⟩:=List.getElem_of_mem hx
   exact (hxs j _ (List.getElem?_eq_getElem hj)).2⟩
/-- Fields in line from cell o on. -/
structure OpensF (P : Program) (fs : List Field) (o : Nat) {α : Type} (d : Kd α) (wf : α → Prop) : Prop where
 op : ∀ {H : Type} {enc : TypeId × Value → H} {w : World} {n : Nat} {cs : List Value} {xs : List (DataW H × List MemPlace)},o + d.sz ≤ cs.length → xs.length = fs.length →
  (∀ (i : Nat) (f : Field),fs[i]? = some f → DataW.trod enc P w 0 (fun _ => true) true n f.type ((cs.drop f.offset).take (P.cellsOf f.type)) = xs[i]?) →
  (∀ z ∈ DataW.weightsEach P (fs.map (·.type)) (xs.map (·.1)),z ≤ reachBytes) → ∃ x,d.K w x ((cs.drop o).take d.sz) ∧ wf x
theorem OpensF.one {α : Type} {P : Program} {f : Field} {o : Nat} {d : Kd α} {wf : α → Prop} (ho : f.offset = o) (h : Opens P f.type d wf) : OpensF P [f] o d wf:=by
 refine ⟨fun {H enc w n cs xs} hlen hxl htr hw => ?_⟩
 match xs,hxl with
 | [y],_ =>
  have h1:=htr 0 f rfl
  rw [ho,h.sz] at h1
  exact h.op (y:=y) h1 (fun z hz => hw z (by simpa [DataW.weightsEach] using hz))
theorem OpensF.cons {α β : Type} {P : Program} {f : Field} {fs : List Field} {o : Nat} {a : Kd α} {b : Kd β} {wa : α → Prop} {wb : β → Prop} (ho : f.offset = o) (h : Opens P f.type a wa) (o' : Nat) (ho' : o + a.sz = o') (hr : OpensF P fs o' b wb) :
  OpensF P (f :: fs) o (Kd.pair a b) (fun x => wa x.1 ∧ wb x.2):=by
 refine ⟨fun {H enc w n cs xs} hlen hxl htr hw => ?_⟩
 match xs,hxl with
 | y :: ys,hxl =>
  have h1:=htr 0 f rfl
  rw [ho,h.sz] at h1
  have hsz : (Kd.pair a b).sz = a.sz + b.sz:=rfl
  rw [hsz] at hlen
  obtain ⟨x0,k0,w0⟩:=h.op (y:=y) h1 (fun z hz => hw z (by simp only [List.map_cons,DataW.weightsEach,List.mem_append];exact .inl hz))
  obtain ⟨x1,k1,w1⟩:=hr.op (n:=n) (cs:=cs) (xs:=ys) (enc:=enc) (w:=w) (by omega) (by simpa using hxl) (fun i g hg => by have:=htr (i + 1) g (by simpa using hg);simpa using this) (fun z hz => hw z (by simp only [List.map_cons,DataW.weightsEach,List.mem_append];exact .inr hz))
  refine ⟨(x0,x1),⟨(cs.drop o).take a.sz,(cs.drop o').take b.sz,?_,k0,k1⟩,w0,w1⟩
  rw [hsz,← ho',List.take_add,List.drop_drop]
theorem Opens.struct {α : Type} {P : Program} {t : TypeId} {fs : Array Field} {d : Kd α} {wf : α → Prop} (hu : P.underlying t = some (.struct fs)) (hc : P.cellsOf t = d.sz) (h : OpensF P fs.toList 0 d wf) : Opens P t d wf :=
 ⟨hc,fun {H enc w fuel cs y} ht hw => by
  obtain ⟨xs,n,rfl,rfl,hlen,hxl,htr⟩:=DataW.trod_struct hu ht
  obtain ⟨x,hk,hx⟩:=h.op (enc:=enc) (w:=w) (n:=n) (cs:=cs) (xs:=xs) (by omega) (by simpa using hxl) (fun i f hf => htr i f (by simpa using hf)) (fun z hz => hw z (by simp only [DataW.weights,hu];exact hz))
  refine ⟨x,?_,hx⟩
  rw [List.drop_zero,List.take_of_length_le (by omega)] at hk
  exact hk⟩
theorem Opens.iso {α β : Type} {P : Program} {t : TypeId} {d : Kd α} {wf : α → Prop} (f : β → α) (g : α → β) (hfg : ∀ x,f (g x) = x) (h : Opens P t d wf) : Opens P t (Kd.iso d f) (fun x => wf (f x)) :=
 ⟨h.sz,fun ht hw => by
  obtain ⟨x,hk,hx⟩:=h.op ht hw
  exact ⟨g x,by show d.K _ (f (g x)) _;rw [hfg];exact hk,by rw [hfg];exact hx⟩⟩
end
section
def fst_T31 (q : S31 → Bool) (l : List S31) : Nat → Int → Int
 | 0,_ => -1
 | d + 1,i => if q (rd_T31 l i) = true then i else fst_T31 q l d (i + 1)
def any_T31 (q : S31 → Bool) (l : List S31) : Nat → Int → Bool
 | 0,_ => false
 | d + 1,i => q (rd_T31 l i) || any_T31 q l d (i + 1)
theorem fst_any_T31 (q : S31 → Bool) (l : List S31) : ∀ (d : Nat) (i : Int),0 ≤ i → decide (0 ≤ fst_T31 q l d i) = any_T31 q l d i
 | 0,i,_ => by simp [fst_T31,any_T31]
 | d + 1,i,h => by
  rw [fst_T31,any_T31]
  cases e : q (rd_T31 l i)
  ·rw [if_neg (by simp),fst_any_T31 q l d (i + 1) (by omega),Bool.false_or]
  ·rw [if_pos rfl,decide_eq_true h,Bool.true_or]
theorem idxP31_ev (q : S31 → Bool) (l : List S31) (hx : (l.length : Int) ≤ 1152921504606846976) (p : S31 → Option Bool) (hp : ∀ x,p x = some (q x)) : ∀ (d : Nat) (i : Int),0 ≤ i → (l.length : Int) - i = d → ∀ k,d + 1 ≤ k → idxP31 p l k i = some (fst_T31 q l d i)
 | 0,i,h0,hd,k,hk => by
  obtain ⟨k,rfl⟩ : ∃ z,k = z + 1:=⟨k - 1,by omega⟩
  rw [idxP31,if_neg (by omega)];rfl
 | d + 1,i,h0,hd,k,hk => by
  obtain ⟨k,rfl⟩ : ∃ z,k = z + 1:=⟨k - 1,by omega⟩
  rw [idxP31,if_pos (by omega),if_pos h0,hp,Option.bind_some,fst_T31,wrap_id (by omega) (by omega),idxP31_ev q l hx p hp d (i + 1) (by omega) (by omega) k (by omega)]
  cases q (rd_T31 l i) <;> simp
theorem containsP31_ev (q : S31 → Bool) (l : List S31) (hx : (l.length : Int) ≤ 1152921504606846976) (p : S31 → Option Bool) (hp : ∀ x,p x = some (q x)) (k : Nat) (hk : l.length + 1 ≤ k) :
  ((idxP31 p l k 0).bind fun t => some (decide (0 ≤ t))) = some (any_T31 q l l.length 0):=by
 rw [idxP31_ev q l hx p hp l.length 0 (by omega) (by omega) k hk,Option.bind_some,fst_any_T31 q l _ 0 (by omega)]
end
section
/-! ### spec_OrderOf: function 13 -/
def spec_OrderOf.f (k : Nat) (a0_0 : Int) (a0_1 : Int) (a1_0 : Int) (a1_1 : Int) : Option (Int × Int):=(spec_l06Word.f a0_0 a0_1).bind fun t163 => (if t163 = true then ((spec_l06Word.f a1_0 a1_1).bind fun t164 => (if t164 = true then ((spec_l06Order.f k a0_0 a0_1 a1_0 a1_1).bind fun t165 => (some (t165,0))) else (some (0,1)))) else (some (0,1)))
theorem spec_OrderOf.mono : ∀ a0 a1 a2 a3 k,LeO (spec_OrderOf.f k a0 a1 a2 a3) (spec_OrderOf.f (k + 1) a0 a1 a2 a3):=by
 intro a0 a1 a2 a3 k
 unfold spec_OrderOf.f
 repeat' first
   | (with_reducible exact spec_l06Order.mono ..)
   | (with_reducible exact LeO.refl _)
   | (with_reducible exact LeO.none _)
   | (with_reducible refine LeO.ite ?_ ?_)
   | (with_reducible refine LeO.bind ?_ (fun _ => ?_))
   | exact spec_l06Order.mono ..
   | exact LeO.none _
   | refine LeO.ite ?_ ?_
   | refine LeO.bind ?_ (fun _ => ?_)
set_option maxHeartbeats 8000000 in
set_option maxRecDepth 100000 in
theorem spec_OrderOf.calls (k : Nat) (a0_0 : Int) (a0_1 : Int) (a1_0 : Int) (a1_1 : Int) (r1 : Int) (r2 : Int) (w : World) (h : spec_OrderOf.f k a0_0 a0_1 a1_0 a1_1 = some (r1,r2)) :
  Calls Try.prog 13 #[.agg #[.int .i64 a0_0,.int .i64 a0_1],.agg #[.int .i64 a1_0,.int .i64 a1_1]] w fun e w' => e = .returned (.tuple #[.int .i64 r1,.int .i64 r2]) ∧ Below w.heap.size w w':=by
 have hu31:=Try.underlying31
 have HB:=aMk (Below.refl w.heap.size w)
 have H : ((spec_l06Word.f a0_0 a0_1).bind fun t163 => (if t163 = true then ((spec_l06Word.f a1_0 a1_1).bind fun t164 => (if t164 = true then ((spec_l06Order.f k a0_0 a0_1 a1_0 a1_1).bind fun t165 => (some (t165,0))) else (some (0,1)))) else (some (0,1)))) = some (r1,r2):=h
 clear h
 replace H:=Option.bind_eq_some_iff.mp H
 obtain ⟨t163,A30,H⟩:=H
 replace H : (if t163 = true then ((spec_l06Word.f a1_0 a1_1).bind fun t164 => (if t164 = true then ((spec_l06Order.f k a0_0 a0_1 a1_0 a1_1).bind fun t165 => (some (t165,0))) else (some (0,1)))) else (some (0,1))) = some (r1,r2):=H
 have A3:=aMk A30
 clear A30
 by_cases c4 : t163 = true
 ·subst c4
  have H1 : ((spec_l06Word.f a1_0 a1_1).bind fun t164 => (if t164 = true then ((spec_l06Order.f k a0_0 a0_1 a1_0 a1_1).bind fun t165 => (some (t165,0))) else (some (0,1)))) = some (r1,r2):=by rw [if_pos rfl] at H;exact H
  clear H
  have H:=H1
  clear H1
  replace H:=Option.bind_eq_some_iff.mp H
  obtain ⟨t164,A50,H⟩:=H
  replace H : (if t164 = true then ((spec_l06Order.f k a0_0 a0_1 a1_0 a1_1).bind fun t165 => (some (t165,0))) else (some (0,1))) = some (r1,r2):=H
  have A5:=aMk A50
  clear A50
  by_cases c6 : t164 = true
  ·subst c6
   have H1 : ((spec_l06Order.f k a0_0 a0_1 a1_0 a1_1).bind fun t165 => (some (t165,0))) = some (r1,r2):=by rw [if_pos rfl] at H;exact H
   clear H
   have H:=H1
   clear H1
   replace H:=Option.bind_eq_some_iff.mp H
   obtain ⟨t165,A70,H⟩:=H
   replace H : (some (t165,0)) = some (r1,r2):=H
   have A7:=aMk A70
   clear A70
   simp only [Option.some.injEq,Prod.mk.injEq] at H
   obtain ⟨rfl,rfl⟩:=H
   go_enter Try.func13,Try.ntmps13
   go_wp2_with (first|((with_reducible refine gate_dst (N:=2) rfl ?_);refine bxE (N:=2) (cs:=#[.int .i64 a0_0,.int .i64 a0_1]) (t:=31) ?_;intro gb161 hg w8 hbox hb;have n0_:=aMk (bSt hb);have n1_:=aMk (hbox);have n2_:=aMk ((by rw [hg];exact bSz : w.heap.size ≤ gb161));have n3_:=aMk ((by rw [hg];exact bSz : w.heap.size ≤ gb161));clear HB;have HB:=n0_;have BK161:=n1_;have GW161:=n2_;have GE161:=n3_;clear n0_ n1_ n2_ n3_;clear hb hbox hg)|((with_reducible refine gate_dst (N:=3) rfl ?_);refine bxE (N:=3) (cs:=#[.int .i64 a1_0,.int .i64 a1_1]) (t:=31) ?_;intro gb162 hg w9 hbox hb;have n0_:=aMk (bkB BK161.out hb);have n1_:=aMk (below_step (by repeat (first|(with_reducible first|exact HB.out|apply bwA|apply bwN|apply bw1|refine below_set ?_ GE161.out)|exact HB.out)) hb);have n2_:=aMk (hbox);have n3_:=aMk ((by rw [hg];exact (below_size (by repeat (first|(with_reducible first|exact HB.out|apply bwA|apply bwN|apply bw1|refine below_set ?_ GE161.out)|exact HB.out))) : w.heap.size ≤ gb162));have n4_:=aMk ((by rw [hg];exact (below_size (by repeat (first|(with_reducible first|exact HB.out|apply bwA|apply bwN|apply bw1|refine below_set ?_ GE161.out)|exact HB.out))) : w.heap.size ≤ gb162));have n5_:=aMk ((bkL BK161.out hg : gb161 ≠ gb162));have n6_:=aMk ((bkG BK161.out hg : gb162 ≠ gb161));clear BK161;clear HB;have BK161:=n0_;have HB:=n1_;have BK162:=n2_;have GW162:=n3_;have GE162:=n4_;have NB161_162:=n5_;have NB162_161:=n6_;clear n0_ n1_ n2_ n3_ n4_ n5_ n6_;clear hb hbox hg;have hnb10:=NB161_162.out;have hnc10:=NB162_161.out;obtain ⟨hcz11_0,hcz11_1,hfz11_0,hfz11_1⟩:=bC2 BK161.out)|((with_reducible refine gate_callee (f:=41) rfl ?_);refine gLs 7 Try.func41 #[.agg #[.int .i64 a0_0,.int .i64 a0_1]] ?_;(with_reducible refine (spec_l06Word.calls a0_0 a0_1 true _ A3.out).mono ?_);rintro e w12 ⟨rfl,hb⟩;refine ⟨_,rfl,?_⟩;have n0_:=aMk (bkB BK161.out hb);have n1_:=aMk (bkB BK162.out hb);have n2_:=aMk (below_step (by repeat (first|(with_reducible first|exact HB.out|apply bwA|apply bwN|apply bw1|refine below_set ?_ GE161.out|refine below_set ?_ GE162.out)|exact HB.out)) hb);clear BK161;clear BK162;clear HB;have BK161:=n0_;have BK162:=n1_;have HB:=n2_;clear n0_ n1_ n2_;(try clear hb);(try clear hb2);(try clear hk);(try clear hi);obtain ⟨hcz13_0,hcz13_1,hfz13_0,hfz13_1⟩:=bC2 BK162.out)|(go_at_call 41;(with_reducible refine (spec_l06Word.calls a1_0 a1_1 true _ A5.out).mono ?_);rintro e w14 ⟨rfl,hb⟩;have n0_:=aMk (bkB BK161.out hb);have n1_:=aMk (bkB BK162.out hb);have n2_:=aMk (below_step (by repeat (first|(with_reducible first|exact HB.out|apply bwA|apply bwN|apply bw1|refine below_set ?_ GE161.out|refine below_set ?_ GE162.out)|exact HB.out)) hb);clear BK161;clear BK162;clear HB;have BK161:=n0_;have BK162:=n1_;have HB:=n2_;clear n0_ n1_ n2_;(try clear hb);(try clear hb2);(try clear hk);(try clear hi);obtain ⟨hcz15_0,hcz15_1,hfz15_0,hfz15_1⟩:=bC2 BK161.out;obtain ⟨hcz16_0,hcz16_1,hfz16_0,hfz16_1⟩:=bC2 BK162.out)|((with_reducible refine gate_callee (f:=42) rfl ?_);refine gLs 16 Try.func42 #[.agg #[.int .i64 a0_0,.int .i64 a0_1],.agg #[.int .i64 a1_0,.int .i64 a1_1]] ?_;(with_reducible refine (spec_l06Order.calls k a0_0 a0_1 a1_0 a1_1 t165 _ A7.out).mono ?_);rintro e w17 ⟨rfl,hb⟩;refine ⟨_,rfl,?_⟩;have n0_:=aMk (bkB BK161.out hb);have n1_:=aMk (bkB BK162.out hb);have n2_:=aMk (below_step (by repeat (first|(with_reducible first|exact HB.out|apply bwA|apply bwN|apply bw1|refine below_set ?_ GE161.out|refine below_set ?_ GE162.out)|exact HB.out)) hb);clear BK161;clear BK162;clear HB;have BK161:=n0_;have BK162:=n1_;have HB:=n2_;clear n0_ n1_ n2_;(try clear hb);(try clear hb2);(try clear hk);(try clear hi)))
   go_ret2
   exact ⟨eRf,by repeat (first|(with_reducible first|exact HB.out|apply bwA|apply bwN|apply bw1|refine below_set ?_ GE161.out|refine below_set ?_ GE162.out)|exact HB.out)⟩
  ·replace c6:=Bool.eq_false_iff.mpr c6
   subst c6
   have H1 : (some (0,1)) = some (r1,r2):=by rw [if_neg (show ¬ (false = true) by decide)] at H;exact H
   clear H
   have H:=H1
   clear H1
   simp only [Option.some.injEq,Prod.mk.injEq] at H
   obtain ⟨rfl,rfl⟩:=H
   go_enter Try.func13,Try.ntmps13
   go_wp2_with (first|((with_reducible refine gate_dst (N:=2) rfl ?_);refine bxE (N:=2) (cs:=#[.int .i64 a0_0,.int .i64 a0_1]) (t:=31) ?_;intro gb161 hg w18 hbox hb;have n0_:=aMk (bSt hb);have n1_:=aMk (hbox);have n2_:=aMk ((by rw [hg];exact bSz : w.heap.size ≤ gb161));have n3_:=aMk ((by rw [hg];exact bSz : w.heap.size ≤ gb161));clear HB;have HB:=n0_;have BK161:=n1_;have GW161:=n2_;have GE161:=n3_;clear n0_ n1_ n2_ n3_;clear hb hbox hg)|((with_reducible refine gate_dst (N:=3) rfl ?_);refine bxE (N:=3) (cs:=#[.int .i64 a1_0,.int .i64 a1_1]) (t:=31) ?_;intro gb162 hg w19 hbox hb;have n0_:=aMk (bkB BK161.out hb);have n1_:=aMk (below_step (by repeat (first|(with_reducible first|exact HB.out|apply bwA|apply bwN|apply bw1|refine below_set ?_ GE161.out)|exact HB.out)) hb);have n2_:=aMk (hbox);have n3_:=aMk ((by rw [hg];exact (below_size (by repeat (first|(with_reducible first|exact HB.out|apply bwA|apply bwN|apply bw1|refine below_set ?_ GE161.out)|exact HB.out))) : w.heap.size ≤ gb162));have n4_:=aMk ((by rw [hg];exact (below_size (by repeat (first|(with_reducible first|exact HB.out|apply bwA|apply bwN|apply bw1|refine below_set ?_ GE161.out)|exact HB.out))) : w.heap.size ≤ gb162));have n5_:=aMk ((bkL BK161.out hg : gb161 ≠ gb162));have n6_:=aMk ((bkG BK161.out hg : gb162 ≠ gb161));clear BK161;clear HB;have BK161:=n0_;have HB:=n1_;have BK162:=n2_;have GW162:=n3_;have GE162:=n4_;have NB161_162:=n5_;have NB162_161:=n6_;clear n0_ n1_ n2_ n3_ n4_ n5_ n6_;clear hb hbox hg;have hnb20:=NB161_162.out;have hnc20:=NB162_161.out;obtain ⟨hcz21_0,hcz21_1,hfz21_0,hfz21_1⟩:=bC2 BK161.out)|((with_reducible refine gate_callee (f:=41) rfl ?_);refine gLs 7 Try.func41 #[.agg #[.int .i64 a0_0,.int .i64 a0_1]] ?_;(with_reducible refine (spec_l06Word.calls a0_0 a0_1 true _ A3.out).mono ?_);rintro e w22 ⟨rfl,hb⟩;refine ⟨_,rfl,?_⟩;have n0_:=aMk (bkB BK161.out hb);have n1_:=aMk (bkB BK162.out hb);have n2_:=aMk (below_step (by repeat (first|(with_reducible first|exact HB.out|apply bwA|apply bwN|apply bw1|refine below_set ?_ GE161.out|refine below_set ?_ GE162.out)|exact HB.out)) hb);clear BK161;clear BK162;clear HB;have BK161:=n0_;have BK162:=n1_;have HB:=n2_;clear n0_ n1_ n2_;(try clear hb);(try clear hb2);(try clear hk);(try clear hi);obtain ⟨hcz23_0,hcz23_1,hfz23_0,hfz23_1⟩:=bC2 BK162.out)|(go_at_call 41;(with_reducible refine (spec_l06Word.calls a1_0 a1_1 false _ A5.out).mono ?_);rintro e w24 ⟨rfl,hb⟩;have n0_:=aMk (bkB BK161.out hb);have n1_:=aMk (bkB BK162.out hb);have n2_:=aMk (below_step (by repeat (first|(with_reducible first|exact HB.out|apply bwA|apply bwN|apply bw1|refine below_set ?_ GE161.out|refine below_set ?_ GE162.out)|exact HB.out)) hb);clear BK161;clear BK162;clear HB;have BK161:=n0_;have BK162:=n1_;have HB:=n2_;clear n0_ n1_ n2_;(try clear hb);(try clear hb2);(try clear hk);(try clear hi)))
   go_ret2
   exact ⟨eRf,by repeat (first|(with_reducible first|exact HB.out|apply bwA|apply bwN|apply bw1|refine below_set ?_ GE161.out|refine below_set ?_ GE162.out)|exact HB.out)⟩
 ·replace c4:=Bool.eq_false_iff.mpr c4
  subst c4
  have H1 : (some (0,1)) = some (r1,r2):=by rw [if_neg (show ¬ (false = true) by decide)] at H;exact H
  clear H
  have H:=H1
  clear H1
  simp only [Option.some.injEq,Prod.mk.injEq] at H
  obtain ⟨rfl,rfl⟩:=H
  go_enter Try.func13,Try.ntmps13
  go_wp2_with (first|((with_reducible refine gate_dst (N:=2) rfl ?_);refine bxE (N:=2) (cs:=#[.int .i64 a0_0,.int .i64 a0_1]) (t:=31) ?_;intro gb161 hg w25 hbox hb;have n0_:=aMk (bSt hb);have n1_:=aMk (hbox);have n2_:=aMk ((by rw [hg];exact bSz : w.heap.size ≤ gb161));have n3_:=aMk ((by rw [hg];exact bSz : w.heap.size ≤ gb161));clear HB;have HB:=n0_;have BK161:=n1_;have GW161:=n2_;have GE161:=n3_;clear n0_ n1_ n2_ n3_;clear hb hbox hg)|((with_reducible refine gate_dst (N:=3) rfl ?_);refine bxE (N:=3) (cs:=#[.int .i64 a1_0,.int .i64 a1_1]) (t:=31) ?_;intro gb162 hg w26 hbox hb;have n0_:=aMk (bkB BK161.out hb);have n1_:=aMk (below_step (by repeat (first|(with_reducible first|exact HB.out|apply bwA|apply bwN|apply bw1|refine below_set ?_ GE161.out)|exact HB.out)) hb);have n2_:=aMk (hbox);have n3_:=aMk ((by rw [hg];exact (below_size (by repeat (first|(with_reducible first|exact HB.out|apply bwA|apply bwN|apply bw1|refine below_set ?_ GE161.out)|exact HB.out))) : w.heap.size ≤ gb162));have n4_:=aMk ((by rw [hg];exact (below_size (by repeat (first|(with_reducible first|exact HB.out|apply bwA|apply bwN|apply bw1|refine below_set ?_ GE161.out)|exact HB.out))) : w.heap.size ≤ gb162));have n5_:=aMk ((bkL BK161.out hg : gb161 ≠ gb162));have n6_:=aMk ((bkG BK161.out hg : gb162 ≠ gb161));clear BK161;clear HB;have BK161:=n0_;have HB:=n1_;have BK162:=n2_;have GW162:=n3_;have GE162:=n4_;have NB161_162:=n5_;have NB162_161:=n6_;clear n0_ n1_ n2_ n3_ n4_ n5_ n6_;clear hb hbox hg;have hnb27:=NB161_162.out;have hnc27:=NB162_161.out;obtain ⟨hcz28_0,hcz28_1,hfz28_0,hfz28_1⟩:=bC2 BK161.out)|((with_reducible refine gate_callee (f:=41) rfl ?_);refine gLs 7 Try.func41 #[.agg #[.int .i64 a0_0,.int .i64 a0_1]] ?_;(with_reducible refine (spec_l06Word.calls a0_0 a0_1 false _ A3.out).mono ?_);rintro e w29 ⟨rfl,hb⟩;refine ⟨_,rfl,?_⟩;have n0_:=aMk (bkB BK161.out hb);have n1_:=aMk (bkB BK162.out hb);have n2_:=aMk (below_step (by repeat (first|(with_reducible first|exact HB.out|apply bwA|apply bwN|apply bw1|refine below_set ?_ GE161.out|refine below_set ?_ GE162.out)|exact HB.out)) hb);clear BK161;clear BK162;clear HB;have BK161:=n0_;have BK162:=n1_;have HB:=n2_;clear n0_ n1_ n2_;(try clear hb);(try clear hb2);(try clear hk);(try clear hi)))
  go_ret2
  exact ⟨eRf,by repeat (first|(with_reducible first|exact HB.out|apply bwA|apply bwN|apply bw1|refine below_set ?_ GE161.out|refine below_set ?_ GE162.out)|exact HB.out)⟩
end
section
/-! ### laws_toWord: function 14 -/
def laws_toWord.f (a0_0 : Int) (a0_1 : Int) : Option (Int × Int):=some (a0_0,a0_1)
set_option maxHeartbeats 8000000 in
set_option maxRecDepth 100000 in
theorem laws_toWord.calls (a0_0 : Int) (a0_1 : Int) (r1 : Int) (r2 : Int) (w : World) (h : laws_toWord.f a0_0 a0_1 = some (r1,r2)) :
  Calls Try.prog 14 #[.agg #[.int .i64 a0_0,.int .i64 a0_1]] w fun e w' => e = .returned (.agg #[.int .i64 r1,.int .i64 r2]) ∧ Below w.heap.size w w':=by
 have hu29:=Try.underlying29
 have hu31:=Try.underlying31
 have HB:=aMk (Below.refl w.heap.size w)
 have H : (some (a0_0,a0_1)) = some (r1,r2):=h
 clear h
 simp only [Option.some.injEq,Prod.mk.injEq] at H
 obtain ⟨rfl,rfl⟩:=H
 go_enter Try.func14,Try.ntmps14
 go_wp2_with (first|((with_reducible refine gate_dst (N:=1) rfl ?_);refine bxE (N:=1) (cs:=#[.int .i64 a0_0,.int .i64 a0_1]) (t:=29) ?_;intro gb166 hg w2 hbox hb;have n0_:=aMk (bSt hb);have n1_:=aMk (hbox);have n2_:=aMk ((by rw [hg];exact bSz : w.heap.size ≤ gb166));have n3_:=aMk ((by rw [hg];exact bSz : w.heap.size ≤ gb166));clear HB;have HB:=n0_;have BK166:=n1_;have GW166:=n2_;have GE166:=n3_;clear n0_ n1_ n2_ n3_;clear hb hbox hg)|((with_reducible refine gate_dst (N:=2) rfl ?_);refine bxE (N:=2) (cs:=#[.int .i64 0,.int .i64 0]) (t:=31) ?_;intro gb167 hg w3 hbox hb;have n0_:=aMk (bkB BK166.out hb);have n1_:=aMk (below_step (by repeat (first|(with_reducible first|exact HB.out|apply bwA|apply bwN|apply bw1|refine below_set ?_ GE166.out)|exact HB.out)) hb);have n2_:=aMk (hbox);have n3_:=aMk ((by rw [hg];exact (below_size (by repeat (first|(with_reducible first|exact HB.out|apply bwA|apply bwN|apply bw1|refine below_set ?_ GE166.out)|exact HB.out))) : w.heap.size ≤ gb167));have n4_:=aMk ((by rw [hg];exact (below_size (by repeat (first|(with_reducible first|exact HB.out|apply bwA|apply bwN|apply bw1|refine below_set ?_ GE166.out)|exact HB.out))) : w.heap.size ≤ gb167));have n5_:=aMk ((bkL BK166.out hg : gb166 ≠ gb167));have n6_:=aMk ((bkG BK166.out hg : gb167 ≠ gb166));clear BK166;clear HB;have BK166:=n0_;have HB:=n1_;have BK167:=n2_;have GW167:=n3_;have GE167:=n4_;have NB166_167:=n5_;have NB167_166:=n6_;clear n0_ n1_ n2_ n3_ n4_ n5_ n6_;clear hb hbox hg)|((with_reducible refine gate_dst (N:=3) rfl ?_);refine bxE (N:=3) (cs:=#[.int .i64 0,.int .i64 0]) (t:=31) ?_;intro gb168 hg w4 hbox hb;have n0_:=aMk (bkB BK166.out hb);have n1_:=aMk (bkB BK167.out hb);have n2_:=aMk (below_step (by repeat (first|(with_reducible first|exact HB.out|apply bwA|apply bwN|apply bw1|refine below_set ?_ GE166.out|refine below_set ?_ GE167.out)|exact HB.out)) hb);have n3_:=aMk (hbox);have n4_:=aMk ((by rw [hg];exact (below_size (by repeat (first|(with_reducible first|exact HB.out|apply bwA|apply bwN|apply bw1|refine below_set ?_ GE166.out|refine below_set ?_ GE167.out)|exact HB.out))) : w.heap.size ≤ gb168));have n5_:=aMk ((by rw [hg];exact (below_size (by repeat (first|(with_reducible first|exact HB.out|apply bwA|apply bwN|apply bw1|refine below_set ?_ GE166.out|refine below_set ?_ GE167.out)|exact HB.out))) : w.heap.size ≤ gb168));have n6_:=aMk ((bkL BK166.out hg : gb166 ≠ gb168));have n7_:=aMk ((bkG BK166.out hg : gb168 ≠ gb166));have n8_:=aMk ((bkL BK167.out hg : gb167 ≠ gb168));have n9_:=aMk ((bkG BK167.out hg : gb168 ≠ gb167));clear BK166;clear BK167;clear HB;have BK166:=n0_;have BK167:=n1_;have HB:=n2_;have BK168:=n3_;have GW168:=n4_;have GE168:=n5_;have NB166_168:=n6_;have NB168_166:=n7_;have NB167_168:=n8_;have NB168_167:=n9_;clear n0_ n1_ n2_ n3_ n4_ n5_ n6_ n7_ n8_ n9_;clear hb hbox hg;have hnb5:=NB166_167.out;have hnc5:=NB167_166.out;have hnb6:=NB166_168.out;have hnc6:=NB168_166.out;obtain ⟨hcz7_0,hcz7_1,hfz7_0,hfz7_1⟩:=bC2 BK166.out;have hnb8:=NB168_167.out;have hnc8:=NB167_168.out;obtain ⟨hcz9_0,hcz9_1,hfz9_0,hfz9_1⟩:=bC2 BK168.out;obtain ⟨hcz10_0,hcz10_1,hfz10_0,hfz10_1⟩:=bC2 BK167.out))
 refine bodyPost_ret (results_cell_row rfl _ _ gb167 31 #[.int .i64 a0_0,.int .i64 a0_1] (0,0) _ rfl (by refine pB ?_;refine blk_put (cs:=#[.int .i64 a0_0,.int .i64 0]) ?_ 1 _ rfl;refine pB ?_;refine blk_put (cs:=#[.int .i64 0,.int .i64 0]) ?_ 0 _ rfl;refine pB ?_;refine blk_far ?_ NB167_168.out _;refine pB ?_;refine blk_far ?_ NB167_168.out _;refine pB ?_;exact BK167.out) Try.underlying31 rfl (by kernel_rfl)) rfl ?_
 exact ⟨eRf,by repeat (first|(with_reducible first|exact HB.out|apply bwA|apply bwN|apply bw1|refine below_set ?_ GE166.out|refine below_set ?_ GE167.out|refine below_set ?_ GE168.out)|exact HB.out)⟩
end
end Go.Proofs.Ytcakbenoaclbkaa.X
