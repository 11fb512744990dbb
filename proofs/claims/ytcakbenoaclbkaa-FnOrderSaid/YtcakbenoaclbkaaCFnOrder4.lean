/- Texts that the row of FnOrder stands on: functions of the program and of the reference, each as a Lean function with the same answers, and the plain lemmas. Conditions: none beside those that each theorem names. -/
import Derived.Test.YtcakbenoaclbkaaCFnOrder3
namespace Go.Proofs.Ytcakbenoaclbkaa.X
open Go.RowKit Go.Proofs.YtcakbenoaclbkaaW.PrintWords Go.Proofs.YtcakbenoaclbkaaW.PrintLast Go.Proofs.YtcakbenoaclbkaaW.PrintMore
attribute [local go_sem] max2_int min2_int max_two min_two max_three min_three max_four min_four   -- for this text's walks alone
set_option linter.unusedVariables false
set_option linter.unusedSimpArgs false
open Go.Proofs.YtcakbenoaclbkaaW.PrintWords renaming blk_drewN -> bDn
open Go.Proofs.YtcakbenoaclbkaaW.PrintWords renaming blk_drew -> bDr
open Go.Proofs.YtcakbenoaclbkaaW.PrintWords renaming blk_alloc -> bAl
open Go.Proofs.YtcakbenoaclbkaaW.PrintWords renaming blk_frozen -> bFr
open Go.Proofs.YtcakbenoaclbkaaW.PrintWords renaming blk_cell -> bCe
open Go.Proofs.YtcakbenoaclbkaaW.PrintWords.Aside0 renaming mk -> aMk
open Go.World renaming block_lt_of_cell? -> wLt
open Go.Proofs.YtcakbenoaclbkaaW.PrintWords renaming pw_below_drewN -> bwN
open Go.Proofs.YtcakbenoaclbkaaW.PrintWords renaming below_drew1 -> bw1
open Go.Proofs.YtcakbenoaclbkaaW.PrintWords renaming below_alloc -> bwA
section
/-! ### laws_FnExactOrderOf: function 4 -/
def laws_FnExactOrderOf.f (k : Nat) (a0_0 : Int) (a0_1 : Int) (a1_0 : Int) (a1_1 : Int) : Option (Bool):=(laws_toWord.f a0_0 a0_1).bind fun bt195 => ((laws_toWord.f a1_0 a1_1).bind fun bt197 => ((spec_OrderOf.f k bt195.1 bt195.2 bt197.1 bt197.2).bind fun bt199 => ((laws_toWord.f a0_0 a0_1).bind fun bt201 => ((laws_toWord.f a1_0 a1_1).bind fun bt203 => ((impl_OrderOf.f k bt201.1 bt201.2 bt203.1 bt203.2).bind fun bt205 => (if bt205.1 = bt199.1 then (if bt205.2 = bt199.2 then (some true) else (some false)) else (some false)))))))
theorem laws_FnExactOrderOf.mono : ∀ a0 a1 a2 a3 k,LeO (laws_FnExactOrderOf.f k a0 a1 a2 a3) (laws_FnExactOrderOf.f (k + 1) a0 a1 a2 a3):=by
 intro a0 a1 a2 a3 k
 unfold laws_FnExactOrderOf.f
 repeat' first
   | (with_reducible exact impl_OrderOf.mono ..)
   | (with_reducible exact spec_OrderOf.mono ..)
   | (with_reducible exact LeO.refl _)
   | (with_reducible exact LeO.none _)
   | (with_reducible refine LeO.ite ?_ ?_)
   | (with_reducible refine LeO.bind ?_ (fun _ => ?_))
   | exact impl_OrderOf.mono ..
   | exact spec_OrderOf.mono ..
   | exact LeO.none _
   | refine LeO.ite ?_ ?_
   | refine LeO.bind ?_ (fun _ => ?_)
def laws_FnExactOrderOf.T1 : Bool × List (List Nat × List Nat):=(true,[([],[]),([0],[0]),([],[]),([2,1],[2]),([1,3,3],[1,3]),([4],[4]),([5],[5]),([5],[5]),([6,4,0,1,2,3,4,5,6],[6]),([7,8,0,1,2,3,4,5,6,7,8],[7])])
def laws_FnExactOrderOf.B1 : List Nat:=[0,1,0,7,15,31,63,63,127,511]
theorem laws_FnExactOrderOf.tab1 : rtab .any (opsOf Try.f4 1) = laws_FnExactOrderOf.T1:=by kernel_rfl
theorem laws_FnExactOrderOf.bits1 : waitsOk laws_FnExactOrderOf.T1.2 laws_FnExactOrderOf.B1 = true:=by kernel_rfl
def laws_FnExactOrderOf.T2 : Bool × List (List Nat × List Nat):=(true,[([],[]),([0],[0]),([],[]),([2,1],[2]),([1,3,3],[1,3]),([4],[4]),([5],[5]),([5],[5]),([6,4,0,1,2,3,4,5,6],[6]),([7,8,0,1,2,3,4,5,6,7,8],[7])])
def laws_FnExactOrderOf.B2 : List Nat:=[0,1,0,7,15,31,63,63,127,511]
theorem laws_FnExactOrderOf.tab2 : rtab .any (opsOf Try.f4 2) = laws_FnExactOrderOf.T2:=by kernel_rfl
theorem laws_FnExactOrderOf.bits2 : waitsOk laws_FnExactOrderOf.T2.2 laws_FnExactOrderOf.B2 = true:=by kernel_rfl
set_option maxHeartbeats 8000000 in
set_option maxRecDepth 100000 in
theorem laws_FnExactOrderOf.calls (k : Nat) (a0_0 : Int) (a0_1 : Int) (a1_0 : Int) (a1_1 : Int) (r : Bool) (w : World) (h : laws_FnExactOrderOf.f k a0_0 a0_1 a1_0 a1_1 = some r) :
  Calls Try.prog 4 #[.agg #[.int .i64 a0_0,.int .i64 a0_1],.agg #[.int .i64 a1_0,.int .i64 a1_1]] w fun e w' => e = .returned (.bool r) ∧ Below w.heap.size w w':=by
 have hu29:=Try.underlying29
 have HB:=aMk (Below.refl w.heap.size w)
 have H : ((laws_toWord.f a0_0 a0_1).bind fun bt195 => ((laws_toWord.f a1_0 a1_1).bind fun bt197 => ((spec_OrderOf.f k bt195.1 bt195.2 bt197.1 bt197.2).bind fun bt199 => ((laws_toWord.f a0_0 a0_1).bind fun bt201 => ((laws_toWord.f a1_0 a1_1).bind fun bt203 => ((impl_OrderOf.f k bt201.1 bt201.2 bt203.1 bt203.2).bind fun bt205 => (if bt205.1 = bt199.1 then (if bt205.2 = bt199.2 then (some true) else (some false)) else (some false)))))))) = some r:=h
 clear h
 replace H:=Option.bind_eq_some_iff.mp H
 obtain ⟨⟨t195,t196⟩,A30,H⟩:=H
 replace H : ((laws_toWord.f a1_0 a1_1).bind fun bt197 => ((spec_OrderOf.f k t195 t196 bt197.1 bt197.2).bind fun bt199 => ((laws_toWord.f a0_0 a0_1).bind fun bt201 => ((laws_toWord.f a1_0 a1_1).bind fun bt203 => ((impl_OrderOf.f k bt201.1 bt201.2 bt203.1 bt203.2).bind fun bt205 => (if bt205.1 = bt199.1 then (if bt205.2 = bt199.2 then (some true) else (some false)) else (some false))))))) = some r:=H
 have A3:=aMk A30
 clear A30
 replace H:=Option.bind_eq_some_iff.mp H
 obtain ⟨⟨t197,t198⟩,A40,H⟩:=H
 replace H : ((spec_OrderOf.f k t195 t196 t197 t198).bind fun bt199 => ((laws_toWord.f a0_0 a0_1).bind fun bt201 => ((laws_toWord.f a1_0 a1_1).bind fun bt203 => ((impl_OrderOf.f k bt201.1 bt201.2 bt203.1 bt203.2).bind fun bt205 => (if bt205.1 = bt199.1 then (if bt205.2 = bt199.2 then (some true) else (some false)) else (some false)))))) = some r:=H
 have A4:=aMk A40
 clear A40
 replace H:=Option.bind_eq_some_iff.mp H
 obtain ⟨⟨t199,t200⟩,A50,H⟩:=H
 replace H : ((laws_toWord.f a0_0 a0_1).bind fun bt201 => ((laws_toWord.f a1_0 a1_1).bind fun bt203 => ((impl_OrderOf.f k bt201.1 bt201.2 bt203.1 bt203.2).bind fun bt205 => (if bt205.1 = t199 then (if bt205.2 = t200 then (some true) else (some false)) else (some false))))) = some r:=H
 have A5:=aMk A50
 clear A50
 replace H:=Option.bind_eq_some_iff.mp H
 obtain ⟨⟨t201,t202⟩,A60,H⟩:=H
 replace H : ((laws_toWord.f a1_0 a1_1).bind fun bt203 => ((impl_OrderOf.f k t201 t202 bt203.1 bt203.2).bind fun bt205 => (if bt205.1 = t199 then (if bt205.2 = t200 then (some true) else (some false)) else (some false)))) = some r:=H
 have A6:=aMk A60
 clear A60
 replace H:=Option.bind_eq_some_iff.mp H
 obtain ⟨⟨t203,t204⟩,A70,H⟩:=H
 replace H : ((impl_OrderOf.f k t201 t202 t203 t204).bind fun bt205 => (if bt205.1 = t199 then (if bt205.2 = t200 then (some true) else (some false)) else (some false))) = some r:=H
 have A7:=aMk A70
 clear A70
 replace H:=Option.bind_eq_some_iff.mp H
 obtain ⟨⟨t205,t206⟩,A80,H⟩:=H
 replace H : (if t205 = t199 then (if t206 = t200 then (some true) else (some false)) else (some false)) = some r:=H
 have A8:=aMk A80
 clear A80
 by_cases c9 : t205 = t199
 ·rw [if_pos c9] at H
  have c9b0 : (t205 == t199) = true:=beq_iff_eq.mpr c9
  have c9b1 : (t205 != t199) = false:=bne_eq_false_iff_eq.mpr c9
  clear c9
  by_cases c10 : t206 = t200
  ·rw [if_pos c10] at H
   have c10b0 : (t206 == t200) = true:=beq_iff_eq.mpr c10
   have c10b1 : (t206 != t200) = false:=bne_eq_false_iff_eq.mpr c10
   clear c10
   obtain rfl:=Option.some.inj H
   go_enter Try.func4,Try.ntmps4
   try go_wp2_with (first|((with_reducible refine gate_dst (N:=2) rfl ?_);refine bxE (N:=2) (cs:=#[.int .i64 a0_0,.int .i64 a0_1]) (t:=29) ?_;intro gb193 hg w11 hbox hb;have n0_:=aMk (bSt hb);have n1_:=aMk (hbox);have n2_:=aMk ((by rw [hg];exact bSz : w.heap.size ≤ gb193));have n3_:=aMk ((by rw [hg];exact bSz : w.heap.size ≤ gb193));clear HB;have HB:=n0_;have BK193:=n1_;have GW193:=n2_;have GE193:=n3_;clear n0_ n1_ n2_ n3_;clear hb hbox hg)|((with_reducible refine gate_dst (N:=3) rfl ?_);refine bxE (N:=3) (cs:=#[.int .i64 a1_0,.int .i64 a1_1]) (t:=29) ?_;intro gb194 hg w12 hbox hb;have n0_:=aMk (bkB BK193.out hb);have n1_:=aMk (below_step (by repeat (first|(with_reducible first|exact HB.out|apply bwA|apply bwN|apply bw1|refine below_set ?_ GE193.out)|exact HB.out)) hb);have n2_:=aMk (hbox);have n3_:=aMk ((by rw [hg];exact (below_size (by repeat (first|(with_reducible first|exact HB.out|apply bwA|apply bwN|apply bw1|refine below_set ?_ GE193.out)|exact HB.out))) : w.heap.size ≤ gb194));have n4_:=aMk ((by rw [hg];exact (below_size (by repeat (first|(with_reducible first|exact HB.out|apply bwA|apply bwN|apply bw1|refine below_set ?_ GE193.out)|exact HB.out))) : w.heap.size ≤ gb194));have n5_:=aMk ((bkL BK193.out hg : gb193 ≠ gb194));have n6_:=aMk ((bkG BK193.out hg : gb194 ≠ gb193));clear BK193;clear HB;have BK193:=n0_;have HB:=n1_;have BK194:=n2_;have GW194:=n3_;have GE194:=n4_;have NB193_194:=n5_;have NB194_193:=n6_;clear n0_ n1_ n2_ n3_ n4_ n5_ n6_;clear hb hbox hg))
   have n0_:=aMk (bDr BK193.out)
   have n1_:=aMk (bDr BK194.out)
   have n2_:=aMk (bw1 HB.out)
   clear BK193
   clear BK194
   clear HB
   have BK193:=n0_
   have BK194:=n1_
   have HB:=n2_
   clear n0_ n1_ n2_
   refine start_ (n:=10) (S:=fun w' => w'.cell? ⟨gb193,0,none⟩ = some (.int .i64 a0_0) ∧ w'.cell? ⟨gb193,1,none⟩ = some (.int .i64 a0_1) ∧ w'.cell? ⟨gb194,0,none⟩ = some (.int .i64 a1_0) ∧ w'.cell? ⟨gb194,1,none⟩ = some (.int .i64 a1_1)) (ds:=[]) #[false,false,false,false,false,false,false,false,false,false] (by kernel_rfl) rfl rfl ⟨(bCe BK193.out 0).trans rfl,(bCe BK193.out 1).trans rfl,(bCe BK194.out 0).trans rfl,(bCe BK194.out 1).trans rfl⟩ (fun hHeld => ?_);refine with_tabW laws_FnExactOrderOf.tab1 laws_FnExactOrderOf.bits1 (fun HT_ HW_ => ?_)
   generalize w12.drew = w13 at BK193 BK194 HB hHeld ⊢
   refine tU4 (i:=0) (N:=some 10) #[true,false,false,false,false,false,false,false,false,false] (take_ofW HT_.out HW_.out (by kernel_rfl)) hHeld ?_
   refine tU4 (i:=2) (N:=some 12) #[true,false,true,false,false,false,false,false,false,false] (take_ofW HT_.out HW_.out (by kernel_rfl)) hHeld ?_
   refine one_ (i:=1) (N:=some 11) #[true,true,true,false,false,false,false,false,false,false] rfl rfl (one_of HT_.out (by kernel_rfl)) (by decide) (fun K hK => ?_)
   refine goes_ Try.func14 (by kernel_rfl) rfl #[.agg #[.int .i64 a0_0,.int .i64 a0_1]] (by rfl) rfl rfl (by (try simp only [List.map_toArray,List.map_cons,List.map_nil]);first | done | rfl|(simp only [List.length_drop,List.length_take];rfl)) ?_
   with_reducible refine (laws_toWord.calls a0_0 a0_1 t195 t196 _ A3.out).mono ?_
   rintro e w14 ⟨rfl,hb⟩
   refine ⟨_,rfl,?_⟩
   have n0_:=aMk (bkB BK193.out hb)
   have n1_:=aMk (bkB BK194.out hb)
   have n2_:=aMk (below_step (by repeat (first|(with_reducible first|exact HB.out|apply bwA|apply bwN|apply bw1|refine below_set ?_ GE193.out|refine below_set ?_ GE194.out)|exact HB.out)) hb)
   clear BK193
   clear BK194
   clear HB
   have BK193:=n0_
   have BK194:=n1_
   have HB:=n2_
   clear n0_ n1_ n2_
   (try clear hb)
   (try clear hb2)
   (try clear hk)
   (try clear hi)
   refine hK.out _ _ ⟨(bCe BK193.out 0).trans rfl,(bCe BK193.out 1).trans rfl,(bCe BK194.out 0).trans rfl,(bCe BK194.out 1).trans rfl⟩ (fun hHeld => ?_)
   clear hK K
   refine norm_ (a':=?_) ?_ ?_
   rotate_left
   ·show Act.put _ (some 11) _ = _
    simp only [Act.put,List.setIfInBounds_toArray,List.set_cons_zero,List.set_cons_succ,i64_w,i32_w]
    rfl
   refine one_ (i:=3) (N:=some 13) #[true,true,true,true,false,false,false,false,false,false] rfl rfl (one_of HT_.out (by kernel_rfl)) (by decide) (fun K hK => ?_)
   refine goes_ Try.func14 (by kernel_rfl) rfl #[.agg #[.int .i64 a1_0,.int .i64 a1_1]] (by rfl) rfl rfl (by (try simp only [List.map_toArray,List.map_cons,List.map_nil]);first | done | rfl|(simp only [List.length_drop,List.length_take];rfl)) ?_
   with_reducible refine (laws_toWord.calls a1_0 a1_1 t197 t198 _ A4.out).mono ?_
   rintro e w15 ⟨rfl,hb⟩
   refine ⟨_,rfl,?_⟩
   have n0_:=aMk (bkB BK193.out hb)
   have n1_:=aMk (bkB BK194.out hb)
   have n2_:=aMk (below_step (by repeat (first|(with_reducible first|exact HB.out|apply bwA|apply bwN|apply bw1|refine below_set ?_ GE193.out|refine below_set ?_ GE194.out)|exact HB.out)) hb)
   clear BK193
   clear BK194
   clear HB
   have BK193:=n0_
   have BK194:=n1_
   have HB:=n2_
   clear n0_ n1_ n2_
   (try clear hb)
   (try clear hb2)
   (try clear hk)
   (try clear hi)
   refine hK.out _ _ ⟨(bCe BK193.out 0).trans rfl,(bCe BK193.out 1).trans rfl,(bCe BK194.out 0).trans rfl,(bCe BK194.out 1).trans rfl⟩ (fun hHeld => ?_)
   clear hK K
   refine norm_ (a':=?_) ?_ ?_
   rotate_left
   ·show Act.put _ (some 13) _ = _
    simp only [Act.put,List.setIfInBounds_toArray,List.set_cons_zero,List.set_cons_succ,i64_w,i32_w]
    rfl
   refine one_ (i:=4) (N:=some 14) #[true,true,true,true,true,false,false,false,false,false] rfl rfl (one_of HT_.out (by kernel_rfl)) (by decide) (fun K hK => ?_)
   refine goes_ Try.func13 (by kernel_rfl) rfl #[.agg #[.int .i64 t195,.int .i64 t196],.agg #[.int .i64 t197,.int .i64 t198]] (by rfl) rfl rfl (by (try simp only [List.map_toArray,List.map_cons,List.map_nil]);first | done | rfl|(simp only [List.length_drop,List.length_take];rfl)) ?_
   with_reducible refine (spec_OrderOf.calls k t195 t196 t197 t198 t199 t200 _ A5.out).mono ?_
   rintro e w16 ⟨rfl,hb⟩
   refine ⟨_,rfl,?_⟩
   have n0_:=aMk (bkB BK193.out hb)
   have n1_:=aMk (bkB BK194.out hb)
   have n2_:=aMk (below_step (by repeat (first|(with_reducible first|exact HB.out|apply bwA|apply bwN|apply bw1|refine below_set ?_ GE193.out|refine below_set ?_ GE194.out)|exact HB.out)) hb)
   clear BK193
   clear BK194
   clear HB
   have BK193:=n0_
   have BK194:=n1_
   have HB:=n2_
   clear n0_ n1_ n2_
   (try clear hb)
   (try clear hb2)
   (try clear hk)
   (try clear hi)
   refine hK.out _ _ ⟨(bCe BK193.out 0).trans rfl,(bCe BK193.out 1).trans rfl,(bCe BK194.out 0).trans rfl,(bCe BK194.out 1).trans rfl⟩ (fun hHeld => ?_)
   clear hK K
   refine norm_ (a':=?_) ?_ ?_
   rotate_left
   ·show Act.put _ (some 14) _ = _
    simp only [Act.put,List.setIfInBounds_toArray,List.set_cons_zero,List.set_cons_succ,i64_w,i32_w]
    rfl
   refine pU (i:=5) (N:=some 9) #[true,true,true,true,true,true,false,false,false,false] (any_of HT_.out (by kernel_rfl)) ?_
   refine pU (i:=6) (N:=some 15) #[true,true,true,true,true,true,true,false,false,false] (any_of HT_.out (by kernel_rfl)) ?_
   refine pU (i:=7) (N:=some 16) #[true,true,true,true,true,true,true,true,false,false] (any_of HT_.out (by kernel_rfl)) ?_
   refine pU (i:=8) (N:=some 5) #[true,true,true,true,true,true,true,true,true,false] (any_of HT_.out (by kernel_rfl)) ?_
   refine pU (i:=9) (N:=some 6) #[true,true,true,true,true,true,true,true,true,true] (any_of HT_.out (by kernel_rfl)) ?_
   refine done_ (done_of HT_.out (by kernel_rfl)) ?_
   try go_wp2
   have n0_:=aMk (bDr BK193.out)
   have n1_:=aMk (bDr BK194.out)
   have n2_:=aMk (bw1 HB.out)
   clear BK193
   clear BK194
   clear HB
   have BK193:=n0_
   have BK194:=n1_
   have HB:=n2_
   clear n0_ n1_ n2_
   refine start_ (n:=10) (S:=fun w' => w'.cell? ⟨gb193,0,none⟩ = some (.int .i64 a0_0) ∧ w'.cell? ⟨gb193,1,none⟩ = some (.int .i64 a0_1) ∧ w'.cell? ⟨gb194,0,none⟩ = some (.int .i64 a1_0) ∧ w'.cell? ⟨gb194,1,none⟩ = some (.int .i64 a1_1)) (ds:=[]) #[false,false,false,false,false,false,false,false,false,false] (by kernel_rfl) rfl rfl ⟨(bCe BK193.out 0).trans rfl,(bCe BK193.out 1).trans rfl,(bCe BK194.out 0).trans rfl,(bCe BK194.out 1).trans rfl⟩ (fun hHeld => ?_);refine with_tabW laws_FnExactOrderOf.tab2 laws_FnExactOrderOf.bits2 (fun HT_ HW_ => ?_)
   generalize w16.drew = w17 at BK193 BK194 HB hHeld ⊢
   refine tU4 (i:=0) (N:=some 18) #[true,false,false,false,false,false,false,false,false,false] (take_ofW HT_.out HW_.out (by kernel_rfl)) hHeld ?_
   refine tU4 (i:=2) (N:=some 20) #[true,false,true,false,false,false,false,false,false,false] (take_ofW HT_.out HW_.out (by kernel_rfl)) hHeld ?_
   refine one_ (i:=1) (N:=some 19) #[true,true,true,false,false,false,false,false,false,false] rfl rfl (one_of HT_.out (by kernel_rfl)) (by decide) (fun K hK => ?_)
   refine goes_ Try.func14 (by kernel_rfl) rfl #[.agg #[.int .i64 a0_0,.int .i64 a0_1]] (by rfl) rfl rfl (by (try simp only [List.map_toArray,List.map_cons,List.map_nil]);first | done | rfl|(simp only [List.length_drop,List.length_take];rfl)) ?_
   with_reducible refine (laws_toWord.calls a0_0 a0_1 t201 t202 _ A6.out).mono ?_
   rintro e w18 ⟨rfl,hb⟩
   refine ⟨_,rfl,?_⟩
   have n0_:=aMk (bkB BK193.out hb)
   have n1_:=aMk (bkB BK194.out hb)
   have n2_:=aMk (below_step (by repeat (first|(with_reducible first|exact HB.out|apply bwA|apply bwN|apply bw1|refine below_set ?_ GE193.out|refine below_set ?_ GE194.out)|exact HB.out)) hb)
   clear BK193
   clear BK194
   clear HB
   have BK193:=n0_
   have BK194:=n1_
   have HB:=n2_
   clear n0_ n1_ n2_
   (try clear hb)
   (try clear hb2)
   (try clear hk)
   (try clear hi)
   refine hK.out _ _ ⟨(bCe BK193.out 0).trans rfl,(bCe BK193.out 1).trans rfl,(bCe BK194.out 0).trans rfl,(bCe BK194.out 1).trans rfl⟩ (fun hHeld => ?_)
   clear hK K
   refine norm_ (a':=?_) ?_ ?_
   rotate_left
   ·show Act.put _ (some 19) _ = _
    simp only [Act.put,List.setIfInBounds_toArray,List.set_cons_zero,List.set_cons_succ,i64_w,i32_w]
    rfl
   refine one_ (i:=3) (N:=some 21) #[true,true,true,true,false,false,false,false,false,false] rfl rfl (one_of HT_.out (by kernel_rfl)) (by decide) (fun K hK => ?_)
   refine goes_ Try.func14 (by kernel_rfl) rfl #[.agg #[.int .i64 a1_0,.int .i64 a1_1]] (by rfl) rfl rfl (by (try simp only [List.map_toArray,List.map_cons,List.map_nil]);first | done | rfl|(simp only [List.length_drop,List.length_take];rfl)) ?_
   with_reducible refine (laws_toWord.calls a1_0 a1_1 t203 t204 _ A7.out).mono ?_
   rintro e w19 ⟨rfl,hb⟩
   refine ⟨_,rfl,?_⟩
   have n0_:=aMk (bkB BK193.out hb)
   have n1_:=aMk (bkB BK194.out hb)
   have n2_:=aMk (below_step (by repeat (first|(with_reducible first|exact HB.out|apply bwA|apply bwN|apply bw1|refine below_set ?_ GE193.out|refine below_set ?_ GE194.out)|exact HB.out)) hb)
   clear BK193
   clear BK194
   clear HB
   have BK193:=n0_
   have BK194:=n1_
   have HB:=n2_
   clear n0_ n1_ n2_
   (try clear hb)
   (try clear hb2)
   (try clear hk)
   (try clear hi)
   refine hK.out _ _ ⟨(bCe BK193.out 0).trans rfl,(bCe BK193.out 1).trans rfl,(bCe BK194.out 0).trans rfl,(bCe BK194.out 1).trans rfl⟩ (fun hHeld => ?_)
   clear hK K
   refine norm_ (a':=?_) ?_ ?_
   rotate_left
   ·show Act.put _ (some 21) _ = _
    simp only [Act.put,List.setIfInBounds_toArray,List.set_cons_zero,List.set_cons_succ,i64_w,i32_w]
    rfl
   refine one_ (i:=4) (N:=some 22) #[true,true,true,true,true,false,false,false,false,false] rfl rfl (one_of HT_.out (by kernel_rfl)) (by decide) (fun K hK => ?_)
   refine goes_ Try.func15 (by kernel_rfl) rfl #[.agg #[.int .i64 t201,.int .i64 t202],.agg #[.int .i64 t203,.int .i64 t204]] (by rfl) rfl rfl (by (try simp only [List.map_toArray,List.map_cons,List.map_nil]);first | done | rfl|(simp only [List.length_drop,List.length_take];rfl)) ?_
   with_reducible refine (impl_OrderOf.calls k t201 t202 t203 t204 t205 t206 _ A8.out).mono ?_
   rintro e w20 ⟨rfl,hb⟩
   refine ⟨_,rfl,?_⟩
   have n0_:=aMk (bkB BK193.out hb)
   have n1_:=aMk (bkB BK194.out hb)
   have n2_:=aMk (below_step (by repeat (first|(with_reducible first|exact HB.out|apply bwA|apply bwN|apply bw1|refine below_set ?_ GE193.out|refine below_set ?_ GE194.out)|exact HB.out)) hb)
   clear BK193
   clear BK194
   clear HB
   have BK193:=n0_
   have BK194:=n1_
   have HB:=n2_
   clear n0_ n1_ n2_
   (try clear hb)
   (try clear hb2)
   (try clear hk)
   (try clear hi)
   refine hK.out _ _ ⟨(bCe BK193.out 0).trans rfl,(bCe BK193.out 1).trans rfl,(bCe BK194.out 0).trans rfl,(bCe BK194.out 1).trans rfl⟩ (fun hHeld => ?_)
   clear hK K
   refine norm_ (a':=?_) ?_ ?_
   rotate_left
   ·show Act.put _ (some 22) _ = _
    simp only [Act.put,List.setIfInBounds_toArray,List.set_cons_zero,List.set_cons_succ,i64_w,i32_w]
    rfl
   refine pU (i:=5) (N:=some 17) #[true,true,true,true,true,true,false,false,false,false] (any_of HT_.out (by kernel_rfl)) ?_
   refine pU (i:=6) (N:=some 23) #[true,true,true,true,true,true,true,false,false,false] (any_of HT_.out (by kernel_rfl)) ?_
   refine pU (i:=7) (N:=some 24) #[true,true,true,true,true,true,true,true,false,false] (any_of HT_.out (by kernel_rfl)) ?_
   refine pU (i:=8) (N:=some 7) #[true,true,true,true,true,true,true,true,true,false] (any_of HT_.out (by kernel_rfl)) ?_
   refine pU (i:=9) (N:=some 8) #[true,true,true,true,true,true,true,true,true,true] (any_of HT_.out (by kernel_rfl)) ?_
   refine done_ (done_of HT_.out (by kernel_rfl)) ?_
   try go_wp2
   go_ret
   exact ⟨eRf,by repeat (first|(with_reducible first|exact HB.out|apply bwA|apply bwN|apply bw1|refine below_set ?_ GE193.out|refine below_set ?_ GE194.out)|exact HB.out)⟩
  ·rw [if_neg c10] at H
   have c10b0 : (t206 == t200) = false:=beq_eq_false_iff_ne.mpr c10
   have c10b1 : (t206 != t200) = true:=bne_iff_ne.mpr c10
   obtain rfl:=Option.some.inj H
   go_enter Try.func4,Try.ntmps4
   try go_wp2_with (first|((with_reducible refine gate_dst (N:=2) rfl ?_);refine bxE (N:=2) (cs:=#[.int .i64 a0_0,.int .i64 a0_1]) (t:=29) ?_;intro gb193 hg w21 hbox hb;have n0_:=aMk (bSt hb);have n1_:=aMk (hbox);have n2_:=aMk ((by rw [hg];exact bSz : w.heap.size ≤ gb193));have n3_:=aMk ((by rw [hg];exact bSz : w.heap.size ≤ gb193));clear HB;have HB:=n0_;have BK193:=n1_;have GW193:=n2_;have GE193:=n3_;clear n0_ n1_ n2_ n3_;clear hb hbox hg)|((with_reducible refine gate_dst (N:=3) rfl ?_);refine bxE (N:=3) (cs:=#[.int .i64 a1_0,.int .i64 a1_1]) (t:=29) ?_;intro gb194 hg w22 hbox hb;have n0_:=aMk (bkB BK193.out hb);have n1_:=aMk (below_step (by repeat (first|(with_reducible first|exact HB.out|apply bwA|apply bwN|apply bw1|refine below_set ?_ GE193.out)|exact HB.out)) hb);have n2_:=aMk (hbox);have n3_:=aMk ((by rw [hg];exact (below_size (by repeat (first|(with_reducible first|exact HB.out|apply bwA|apply bwN|apply bw1|refine below_set ?_ GE193.out)|exact HB.out))) : w.heap.size ≤ gb194));have n4_:=aMk ((by rw [hg];exact (below_size (by repeat (first|(with_reducible first|exact HB.out|apply bwA|apply bwN|apply bw1|refine below_set ?_ GE193.out)|exact HB.out))) : w.heap.size ≤ gb194));have n5_:=aMk ((bkL BK193.out hg : gb193 ≠ gb194));have n6_:=aMk ((bkG BK193.out hg : gb194 ≠ gb193));clear BK193;clear HB;have BK193:=n0_;have HB:=n1_;have BK194:=n2_;have GW194:=n3_;have GE194:=n4_;have NB193_194:=n5_;have NB194_193:=n6_;clear n0_ n1_ n2_ n3_ n4_ n5_ n6_;clear hb hbox hg))
   have n0_:=aMk (bDr BK193.out)
   have n1_:=aMk (bDr BK194.out)
   have n2_:=aMk (bw1 HB.out)
   clear BK193
   clear BK194
   clear HB
   have BK193:=n0_
   have BK194:=n1_
   have HB:=n2_
   clear n0_ n1_ n2_
   refine start_ (n:=10) (S:=fun w' => w'.cell? ⟨gb193,0,none⟩ = some (.int .i64 a0_0) ∧ w'.cell? ⟨gb193,1,none⟩ = some (.int .i64 a0_1) ∧ w'.cell? ⟨gb194,0,none⟩ = some (.int .i64 a1_0) ∧ w'.cell? ⟨gb194,1,none⟩ = some (.int .i64 a1_1)) (ds:=[]) #[false,false,false,false,false,false,false,false,false,false] (by kernel_rfl) rfl rfl ⟨(bCe BK193.out 0).trans rfl,(bCe BK193.out 1).trans rfl,(bCe BK194.out 0).trans rfl,(bCe BK194.out 1).trans rfl⟩ (fun hHeld => ?_);refine with_tabW laws_FnExactOrderOf.tab1 laws_FnExactOrderOf.bits1 (fun HT_ HW_ => ?_)
   generalize w22.drew = w23 at BK193 BK194 HB hHeld ⊢
   refine tU4 (i:=0) (N:=some 10) #[true,false,false,false,false,false,false,false,false,false] (take_ofW HT_.out HW_.out (by kernel_rfl)) hHeld ?_
   refine tU4 (i:=2) (N:=some 12) #[true,false,true,false,false,false,false,false,false,false] (take_ofW HT_.out HW_.out (by kernel_rfl)) hHeld ?_
   refine one_ (i:=1) (N:=some 11) #[true,true,true,false,false,false,false,false,false,false] rfl rfl (one_of HT_.out (by kernel_rfl)) (by decide) (fun K hK => ?_)
   refine goes_ Try.func14 (by kernel_rfl) rfl #[.agg #[.int .i64 a0_0,.int .i64 a0_1]] (by rfl) rfl rfl (by (try simp only [List.map_toArray,List.map_cons,List.map_nil]);first | done | rfl|(simp only [List.length_drop,List.length_take];rfl)) ?_
   with_reducible refine (laws_toWord.calls a0_0 a0_1 t195 t196 _ A3.out).mono ?_
   rintro e w24 ⟨rfl,hb⟩
   refine ⟨_,rfl,?_⟩
   have n0_:=aMk (bkB BK193.out hb)
   have n1_:=aMk (bkB BK194.out hb)
   have n2_:=aMk (below_step (by repeat (first|(with_reducible first|exact HB.out|apply bwA|apply bwN|apply bw1|refine below_set ?_ GE193.out|refine below_set ?_ GE194.out)|exact HB.out)) hb)
   clear BK193
   clear BK194
   clear HB
   have BK193:=n0_
   have BK194:=n1_
   have HB:=n2_
   clear n0_ n1_ n2_
   (try clear hb)
   (try clear hb2)
   (try clear hk)
   (try clear hi)
   refine hK.out _ _ ⟨(bCe BK193.out 0).trans rfl,(bCe BK193.out 1).trans rfl,(bCe BK194.out 0).trans rfl,(bCe BK194.out 1).trans rfl⟩ (fun hHeld => ?_)
   clear hK K
   refine norm_ (a':=?_) ?_ ?_
   rotate_left
   ·show Act.put _ (some 11) _ = _
    simp only [Act.put,List.setIfInBounds_toArray,List.set_cons_zero,List.set_cons_succ,i64_w,i32_w]
    rfl
   refine one_ (i:=3) (N:=some 13) #[true,true,true,true,false,false,false,false,false,false] rfl rfl (one_of HT_.out (by kernel_rfl)) (by decide) (fun K hK => ?_)
   refine goes_ Try.func14 (by kernel_rfl) rfl #[.agg #[.int .i64 a1_0,.int .i64 a1_1]] (by rfl) rfl rfl (by (try simp only [List.map_toArray,List.map_cons,List.map_nil]);first | done | rfl|(simp only [List.length_drop,List.length_take];rfl)) ?_
   with_reducible refine (laws_toWord.calls a1_0 a1_1 t197 t198 _ A4.out).mono ?_
   rintro e w25 ⟨rfl,hb⟩
   refine ⟨_,rfl,?_⟩
   have n0_:=aMk (bkB BK193.out hb)
   have n1_:=aMk (bkB BK194.out hb)
   have n2_:=aMk (below_step (by repeat (first|(with_reducible first|exact HB.out|apply bwA|apply bwN|apply bw1|refine below_set ?_ GE193.out|refine below_set ?_ GE194.out)|exact HB.out)) hb)
   clear BK193
   clear BK194
   clear HB
   have BK193:=n0_
   have BK194:=n1_
   have HB:=n2_
   clear n0_ n1_ n2_
   (try clear hb)
   (try clear hb2)
   (try clear hk)
   (try clear hi)
   refine hK.out _ _ ⟨(bCe BK193.out 0).trans rfl,(bCe BK193.out 1).trans rfl,(bCe BK194.out 0).trans rfl,(bCe BK194.out 1).trans rfl⟩ (fun hHeld => ?_)
   clear hK K
   refine norm_ (a':=?_) ?_ ?_
   rotate_left
   ·show Act.put _ (some 13) _ = _
    simp only [Act.put,List.setIfInBounds_toArray,List.set_cons_zero,List.set_cons_succ,i64_w,i32_w]
    rfl
   refine one_ (i:=4) (N:=some 14) #[true,true,true,true,true,false,false,false,false,false] rfl rfl (one_of HT_.out (by kernel_rfl)) (by decide) (fun K hK => ?_)
   refine goes_ Try.func13 (by kernel_rfl) rfl #[.agg #[.int .i64 t195,.int .i64 t196],.agg #[.int .i64 t197,.int .i64 t198]] (by rfl) rfl rfl (by (try simp only [List.map_toArray,List.map_cons,List.map_nil]);first | done | rfl|(simp only [List.length_drop,List.length_take];rfl)) ?_
   with_reducible refine (spec_OrderOf.calls k t195 t196 t197 t198 t199 t200 _ A5.out).mono ?_
   rintro e w26 ⟨rfl,hb⟩
   refine ⟨_,rfl,?_⟩
   have n0_:=aMk (bkB BK193.out hb)
   have n1_:=aMk (bkB BK194.out hb)
   have n2_:=aMk (below_step (by repeat (first|(with_reducible first|exact HB.out|apply bwA|apply bwN|apply bw1|refine below_set ?_ GE193.out|refine below_set ?_ GE194.out)|exact HB.out)) hb)
   clear BK193
   clear BK194
   clear HB
   have BK193:=n0_
   have BK194:=n1_
   have HB:=n2_
   clear n0_ n1_ n2_
   (try clear hb)
   (try clear hb2)
   (try clear hk)
   (try clear hi)
   refine hK.out _ _ ⟨(bCe BK193.out 0).trans rfl,(bCe BK193.out 1).trans rfl,(bCe BK194.out 0).trans rfl,(bCe BK194.out 1).trans rfl⟩ (fun hHeld => ?_)
   clear hK K
   refine norm_ (a':=?_) ?_ ?_
   rotate_left
   ·show Act.put _ (some 14) _ = _
    simp only [Act.put,List.setIfInBounds_toArray,List.set_cons_zero,List.set_cons_succ,i64_w,i32_w]
    rfl
   refine pU (i:=5) (N:=some 9) #[true,true,true,true,true,true,false,false,false,false] (any_of HT_.out (by kernel_rfl)) ?_
   refine pU (i:=6) (N:=some 15) #[true,true,true,true,true,true,true,false,false,false] (any_of HT_.out (by kernel_rfl)) ?_
   refine pU (i:=7) (N:=some 16) #[true,true,true,true,true,true,true,true,false,false] (any_of HT_.out (by kernel_rfl)) ?_
   refine pU (i:=8) (N:=some 5) #[true,true,true,true,true,true,true,true,true,false] (any_of HT_.out (by kernel_rfl)) ?_
   refine pU (i:=9) (N:=some 6) #[true,true,true,true,true,true,true,true,true,true] (any_of HT_.out (by kernel_rfl)) ?_
   refine done_ (done_of HT_.out (by kernel_rfl)) ?_
   try go_wp2
   have n0_:=aMk (bDr BK193.out)
   have n1_:=aMk (bDr BK194.out)
   have n2_:=aMk (bw1 HB.out)
   clear BK193
   clear BK194
   clear HB
   have BK193:=n0_
   have BK194:=n1_
   have HB:=n2_
   clear n0_ n1_ n2_
   refine start_ (n:=10) (S:=fun w' => w'.cell? ⟨gb193,0,none⟩ = some (.int .i64 a0_0) ∧ w'.cell? ⟨gb193,1,none⟩ = some (.int .i64 a0_1) ∧ w'.cell? ⟨gb194,0,none⟩ = some (.int .i64 a1_0) ∧ w'.cell? ⟨gb194,1,none⟩ = some (.int .i64 a1_1)) (ds:=[]) #[false,false,false,false,false,false,false,false,false,false] (by kernel_rfl) rfl rfl ⟨(bCe BK193.out 0).trans rfl,(bCe BK193.out 1).trans rfl,(bCe BK194.out 0).trans rfl,(bCe BK194.out 1).trans rfl⟩ (fun hHeld => ?_);refine with_tabW laws_FnExactOrderOf.tab2 laws_FnExactOrderOf.bits2 (fun HT_ HW_ => ?_)
   generalize w26.drew = w27 at BK193 BK194 HB hHeld ⊢
   refine tU4 (i:=0) (N:=some 18) #[true,false,false,false,false,false,false,false,false,false] (take_ofW HT_.out HW_.out (by kernel_rfl)) hHeld ?_
   refine tU4 (i:=2) (N:=some 20) #[true,false,true,false,false,false,false,false,false,false] (take_ofW HT_.out HW_.out (by kernel_rfl)) hHeld ?_
   refine one_ (i:=1) (N:=some 19) #[true,true,true,false,false,false,false,false,false,false] rfl rfl (one_of HT_.out (by kernel_rfl)) (by decide) (fun K hK => ?_)
   refine goes_ Try.func14 (by kernel_rfl) rfl #[.agg #[.int .i64 a0_0,.int .i64 a0_1]] (by rfl) rfl rfl (by (try simp only [List.map_toArray,List.map_cons,List.map_nil]);first | done | rfl|(simp only [List.length_drop,List.length_take];rfl)) ?_
   with_reducible refine (laws_toWord.calls a0_0 a0_1 t201 t202 _ A6.out).mono ?_
   rintro e w28 ⟨rfl,hb⟩
   refine ⟨_,rfl,?_⟩
   have n0_:=aMk (bkB BK193.out hb)
   have n1_:=aMk (bkB BK194.out hb)
   have n2_:=aMk (below_step (by repeat (first|(with_reducible first|exact HB.out|apply bwA|apply bwN|apply bw1|refine below_set ?_ GE193.out|refine below_set ?_ GE194.out)|exact HB.out)) hb)
   clear BK193
   clear BK194
   clear HB
   have BK193:=n0_
   have BK194:=n1_
   have HB:=n2_
   clear n0_ n1_ n2_
   (try clear hb)
   (try clear hb2)
   (try clear hk)
   (try clear hi)
   refine hK.out _ _ ⟨(bCe BK193.out 0).trans rfl,(bCe BK193.out 1).trans rfl,(bCe BK194.out 0).trans rfl,(bCe BK194.out 1).trans rfl⟩ (fun hHeld => ?_)
   clear hK K
   refine norm_ (a':=?_) ?_ ?_
   rotate_left
   ·show Act.put _ (some 19) _ = _
    simp only [Act.put,List.setIfInBounds_toArray,List.set_cons_zero,List.set_cons_succ,i64_w,i32_w]
    rfl
   refine one_ (i:=3) (N:=some 21) #[true,true,true,true,false,false,false,false,false,false] rfl rfl (one_of HT_.out (by kernel_rfl)) (by decide) (fun K hK => ?_)
   refine goes_ Try.func14 (by kernel_rfl) rfl #[.agg #[.int .i64 a1_0,.int .i64 a1_1]] (by rfl) rfl rfl (by (try simp only [List.map_toArray,List.map_cons,List.map_nil]);first | done | rfl|(simp only [List.length_drop,List.length_take];rfl)) ?_
   with_reducible refine (laws_toWord.calls a1_0 a1_1 t203 t204 _ A7.out).mono ?_
   rintro e w29 ⟨rfl,hb⟩
   refine ⟨_,rfl,?_⟩
   have n0_:=aMk (bkB BK193.out hb)
   have n1_:=aMk (bkB BK194.out hb)
   have n2_:=aMk (below_step (by repeat (first|(with_reducible first|exact HB.out|apply bwA|apply bwN|apply bw1|refine below_set ?_ GE193.out|refine below_set ?_ GE194.out)|exact HB.out)) hb)
   clear BK193
   clear BK194
   clear HB
   have BK193:=n0_
   have BK194:=n1_
   have HB:=n2_
   clear n0_ n1_ n2_
   (try clear hb)
   (try clear hb2)
   (try clear hk)
   (try clear hi)
   refine hK.out _ _ ⟨(bCe BK193.out 0).trans rfl,(bCe BK193.out 1).trans rfl,(bCe BK194.out 0).trans rfl,(bCe BK194.out 1).trans rfl⟩ (fun hHeld => ?_)
   clear hK K
   refine norm_ (a':=?_) ?_ ?_
   rotate_left
   ·show Act.put _ (some 21) _ = _
    simp only [Act.put,List.setIfInBounds_toArray,List.set_cons_zero,List.set_cons_succ,i64_w,i32_w]
    rfl
   refine one_ (i:=4) (N:=some 22) #[true,true,true,true,true,false,false,false,false,false] rfl rfl (one_of HT_.out (by kernel_rfl)) (by decide) (fun K hK => ?_)
   refine goes_ Try.func15 (by kernel_rfl) rfl #[.agg #[.int .i64 t201,.int .i64 t202],.agg #[.int .i64 t203,.int .i64 t204]] (by rfl) rfl rfl (by (try simp only [List.map_toArray,List.map_cons,List.map_nil]);first | done | rfl|(simp only [List.length_drop,List.length_take];rfl)) ?_
   with_reducible refine (impl_OrderOf.calls k t201 t202 t203 t204 t205 t206 _ A8.out).mono ?_
   rintro e w30 ⟨rfl,hb⟩
   refine ⟨_,rfl,?_⟩
   have n0_:=aMk (bkB BK193.out hb)
   have n1_:=aMk (bkB BK194.out hb)
   have n2_:=aMk (below_step (by repeat (first|(with_reducible first|exact HB.out|apply bwA|apply bwN|apply bw1|refine below_set ?_ GE193.out|refine below_set ?_ GE194.out)|exact HB.out)) hb)
   clear BK193
   clear BK194
   clear HB
   have BK193:=n0_
   have BK194:=n1_
   have HB:=n2_
   clear n0_ n1_ n2_
   (try clear hb)
   (try clear hb2)
   (try clear hk)
   (try clear hi)
   refine hK.out _ _ ⟨(bCe BK193.out 0).trans rfl,(bCe BK193.out 1).trans rfl,(bCe BK194.out 0).trans rfl,(bCe BK194.out 1).trans rfl⟩ (fun hHeld => ?_)
   clear hK K
   refine norm_ (a':=?_) ?_ ?_
   rotate_left
   ·show Act.put _ (some 22) _ = _
    simp only [Act.put,List.setIfInBounds_toArray,List.set_cons_zero,List.set_cons_succ,i64_w,i32_w]
    rfl
   refine pU (i:=5) (N:=some 17) #[true,true,true,true,true,true,false,false,false,false] (any_of HT_.out (by kernel_rfl)) ?_
   refine pU (i:=6) (N:=some 23) #[true,true,true,true,true,true,true,false,false,false] (any_of HT_.out (by kernel_rfl)) ?_
   refine pU (i:=7) (N:=some 24) #[true,true,true,true,true,true,true,true,false,false] (any_of HT_.out (by kernel_rfl)) ?_
   refine pU (i:=8) (N:=some 7) #[true,true,true,true,true,true,true,true,true,false] (any_of HT_.out (by kernel_rfl)) ?_
   refine pU (i:=9) (N:=some 8) #[true,true,true,true,true,true,true,true,true,true] (any_of HT_.out (by kernel_rfl)) ?_
   refine done_ (done_of HT_.out (by kernel_rfl)) ?_
   try go_wp2
   go_ret
   exact ⟨eRf,by repeat (first|(with_reducible first|exact HB.out|apply bwA|apply bwN|apply bw1|refine below_set ?_ GE193.out|refine below_set ?_ GE194.out)|exact HB.out)⟩
 ·rw [if_neg c9] at H
  have c9b0 : (t205 == t199) = false:=beq_eq_false_iff_ne.mpr c9
  have c9b1 : (t205 != t199) = true:=bne_iff_ne.mpr c9
  obtain rfl:=Option.some.inj H
  go_enter Try.func4,Try.ntmps4
  try go_wp2_with (first|((with_reducible refine gate_dst (N:=2) rfl ?_);refine bxE (N:=2) (cs:=#[.int .i64 a0_0,.int .i64 a0_1]) (t:=29) ?_;intro gb193 hg w31 hbox hb;have n0_:=aMk (bSt hb);have n1_:=aMk (hbox);have n2_:=aMk ((by rw [hg];exact bSz : w.heap.size ≤ gb193));have n3_:=aMk ((by rw [hg];exact bSz : w.heap.size ≤ gb193));clear HB;have HB:=n0_;have BK193:=n1_;have GW193:=n2_;have GE193:=n3_;clear n0_ n1_ n2_ n3_;clear hb hbox hg)|((with_reducible refine gate_dst (N:=3) rfl ?_);refine bxE (N:=3) (cs:=#[.int .i64 a1_0,.int .i64 a1_1]) (t:=29) ?_;intro gb194 hg w32 hbox hb;have n0_:=aMk (bkB BK193.out hb);have n1_:=aMk (below_step (by repeat (first|(with_reducible first|exact HB.out|apply bwA|apply bwN|apply bw1|refine below_set ?_ GE193.out)|exact HB.out)) hb);have n2_:=aMk (hbox);have n3_:=aMk ((by rw [hg];exact (below_size (by repeat (first|(with_reducible first|exact HB.out|apply bwA|apply bwN|apply bw1|refine below_set ?_ GE193.out)|exact HB.out))) : w.heap.size ≤ gb194));have n4_:=aMk ((by rw [hg];exact (below_size (by repeat (first|(with_reducible first|exact HB.out|apply bwA|apply bwN|apply bw1|refine below_set ?_ GE193.out)|exact HB.out))) : w.heap.size ≤ gb194));have n5_:=aMk ((bkL BK193.out hg : gb193 ≠ gb194));have n6_:=aMk ((bkG BK193.out hg : gb194 ≠ gb193));clear BK193;clear HB;have BK193:=n0_;have HB:=n1_;have BK194:=n2_;have GW194:=n3_;have GE194:=n4_;have NB193_194:=n5_;have NB194_193:=n6_;clear n0_ n1_ n2_ n3_ n4_ n5_ n6_;clear hb hbox hg))
  have n0_:=aMk (bDr BK193.out)
  have n1_:=aMk (bDr BK194.out)
  have n2_:=aMk (bw1 HB.out)
  clear BK193
  clear BK194
  clear HB
  have BK193:=n0_
  have BK194:=n1_
  have HB:=n2_
  clear n0_ n1_ n2_
  refine start_ (n:=10) (S:=fun w' => w'.cell? ⟨gb193,0,none⟩ = some (.int .i64 a0_0) ∧ w'.cell? ⟨gb193,1,none⟩ = some (.int .i64 a0_1) ∧ w'.cell? ⟨gb194,0,none⟩ = some (.int .i64 a1_0) ∧ w'.cell? ⟨gb194,1,none⟩ = some (.int .i64 a1_1)) (ds:=[]) #[false,false,false,false,false,false,false,false,false,false] (by kernel_rfl) rfl rfl ⟨(bCe BK193.out 0).trans rfl,(bCe BK193.out 1).trans rfl,(bCe BK194.out 0).trans rfl,(bCe BK194.out 1).trans rfl⟩ (fun hHeld => ?_);refine with_tabW laws_FnExactOrderOf.tab1 laws_FnExactOrderOf.bits1 (fun HT_ HW_ => ?_)
  generalize w32.drew = w33 at BK193 BK194 HB hHeld ⊢
  refine tU4 (i:=0) (N:=some 10) #[true,false,false,false,false,false,false,false,false,false] (take_ofW HT_.out HW_.out (by kernel_rfl)) hHeld ?_
  refine tU4 (i:=2) (N:=some 12) #[true,false,true,false,false,false,false,false,false,false] (take_ofW HT_.out HW_.out (by kernel_rfl)) hHeld ?_
  refine one_ (i:=1) (N:=some 11) #[true,true,true,false,false,false,false,false,false,false] rfl rfl (one_of HT_.out (by kernel_rfl)) (by decide) (fun K hK => ?_)
  refine goes_ Try.func14 (by kernel_rfl) rfl #[.agg #[.int .i64 a0_0,.int .i64 a0_1]] (by rfl) rfl rfl (by (try simp only [List.map_toArray,List.map_cons,List.map_nil]);first | done | rfl|(simp only [List.length_drop,List.length_take];rfl)) ?_
  with_reducible refine (laws_toWord.calls a0_0 a0_1 t195 t196 _ A3.out).mono ?_
  rintro e w34 ⟨rfl,hb⟩
  refine ⟨_,rfl,?_⟩
  have n0_:=aMk (bkB BK193.out hb)
  have n1_:=aMk (bkB BK194.out hb)
  have n2_:=aMk (below_step (by repeat (first|(with_reducible first|exact HB.out|apply bwA|apply bwN|apply bw1|refine below_set ?_ GE193.out|refine below_set ?_ GE194.out)|exact HB.out)) hb)
  clear BK193
  clear BK194
  clear HB
  have BK193:=n0_
  have BK194:=n1_
  have HB:=n2_
  clear n0_ n1_ n2_
  (try clear hb)
  (try clear hb2)
  (try clear hk)
  (try clear hi)
  refine hK.out _ _ ⟨(bCe BK193.out 0).trans rfl,(bCe BK193.out 1).trans rfl,(bCe BK194.out 0).trans rfl,(bCe BK194.out 1).trans rfl⟩ (fun hHeld => ?_)
  clear hK K
  refine norm_ (a':=?_) ?_ ?_
  rotate_left
  ·show Act.put _ (some 11) _ = _
   simp only [Act.put,List.setIfInBounds_toArray,List.set_cons_zero,List.set_cons_succ,i64_w,i32_w]
   rfl
  refine one_ (i:=3) (N:=some 13) #[true,true,true,true,false,false,false,false,false,false] rfl rfl (one_of HT_.out (by kernel_rfl)) (by decide) (fun K hK => ?_)
  refine goes_ Try.func14 (by kernel_rfl) rfl #[.agg #[.int .i64 a1_0,.int .i64 a1_1]] (by rfl) rfl rfl (by (try simp only [List.map_toArray,List.map_cons,List.map_nil]);first | done | rfl|(simp only [List.length_drop,List.length_take];rfl)) ?_
  with_reducible refine (laws_toWord.calls a1_0 a1_1 t197 t198 _ A4.out).mono ?_
  rintro e w35 ⟨rfl,hb⟩
  refine ⟨_,rfl,?_⟩
  have n0_:=aMk (bkB BK193.out hb)
  have n1_:=aMk (bkB BK194.out hb)
  have n2_:=aMk (below_step (by repeat (first|(with_reducible first|exact HB.out|apply bwA|apply bwN|apply bw1|refine below_set ?_ GE193.out|refine below_set ?_ GE194.out)|exact HB.out)) hb)
  clear BK193
  clear BK194
  clear HB
  have BK193:=n0_
  have BK194:=n1_
  have HB:=n2_
  clear n0_ n1_ n2_
  (try clear hb)
  (try clear hb2)
  (try clear hk)
  (try clear hi)
  refine hK.out _ _ ⟨(bCe BK193.out 0).trans rfl,(bCe BK193.out 1).trans rfl,(bCe BK194.out 0).trans rfl,(bCe BK194.out 1).trans rfl⟩ (fun hHeld => ?_)
  clear hK K
  refine norm_ (a':=?_) ?_ ?_
  rotate_left
  ·show Act.put _ (some 13) _ = _
   simp only [Act.put,List.setIfInBounds_toArray,List.set_cons_zero,List.set_cons_succ,i64_w,i32_w]
   rfl
  refine one_ (i:=4) (N:=some 14) #[true,true,true,true,true,false,false,false,false,false] rfl rfl (one_of HT_.out (by kernel_rfl)) (by decide) (fun K hK => ?_)
  refine goes_ Try.func13 (by kernel_rfl) rfl #[.agg #[.int .i64 t195,.int .i64 t196],.agg #[.int .i64 t197,.int .i64 t198]] (by rfl) rfl rfl (by (try simp only [List.map_toArray,List.map_cons,List.map_nil]);first | done | rfl|(simp only [List.length_drop,List.length_take];rfl)) ?_
  with_reducible refine (spec_OrderOf.calls k t195 t196 t197 t198 t199 t200 _ A5.out).mono ?_
  rintro e w36 ⟨rfl,hb⟩
  refine ⟨_,rfl,?_⟩
  have n0_:=aMk (bkB BK193.out hb)
  have n1_:=aMk (bkB BK194.out hb)
  have n2_:=aMk (below_step (by repeat (first|(with_reducible first|exact HB.out|apply bwA|apply bwN|apply bw1|refine below_set ?_ GE193.out|refine below_set ?_ GE194.out)|exact HB.out)) hb)
  clear BK193
  clear BK194
  clear HB
  have BK193:=n0_
  have BK194:=n1_
  have HB:=n2_
  clear n0_ n1_ n2_
  (try clear hb)
  (try clear hb2)
  (try clear hk)
  (try clear hi)
  refine hK.out _ _ ⟨(bCe BK193.out 0).trans rfl,(bCe BK193.out 1).trans rfl,(bCe BK194.out 0).trans rfl,(bCe BK194.out 1).trans rfl⟩ (fun hHeld => ?_)
  clear hK K
  refine norm_ (a':=?_) ?_ ?_
  rotate_left
  ·show Act.put _ (some 14) _ = _
   simp only [Act.put,List.setIfInBounds_toArray,List.set_cons_zero,List.set_cons_succ,i64_w,i32_w]
   rfl
  refine pU (i:=5) (N:=some 9) #[true,true,true,true,true,true,false,false,false,false] (any_of HT_.out (by kernel_rfl)) ?_
  refine pU (i:=6) (N:=some 15) #[true,true,true,true,true,true,true,false,false,false] (any_of HT_.out (by kernel_rfl)) ?_
  refine pU (i:=7) (N:=some 16) #[true,true,true,true,true,true,true,true,false,false] (any_of HT_.out (by kernel_rfl)) ?_
  refine pU (i:=8) (N:=some 5) #[true,true,true,true,true,true,true,true,true,false] (any_of HT_.out (by kernel_rfl)) ?_
  refine pU (i:=9) (N:=some 6) #[true,true,true,true,true,true,true,true,true,true] (any_of HT_.out (by kernel_rfl)) ?_
  refine done_ (done_of HT_.out (by kernel_rfl)) ?_
  try go_wp2
  have n0_:=aMk (bDr BK193.out)
  have n1_:=aMk (bDr BK194.out)
  have n2_:=aMk (bw1 HB.out)
  clear BK193
  clear BK194
  clear HB
  have BK193:=n0_
  have BK194:=n1_
  have HB:=n2_
  clear n0_ n1_ n2_
  refine start_ (n:=10) (S:=fun w' => w'.cell? ⟨gb193,0,none⟩ = some (.int .i64 a0_0) ∧ w'.cell? ⟨gb193,1,none⟩ = some (.int .i64 a0_1) ∧ w'.cell? ⟨gb194,0,none⟩ = some (.int .i64 a1_0) ∧ w'.cell? ⟨gb194,1,none⟩ = some (.int .i64 a1_1)) (ds:=[]) #[false,false,false,false,false,false,false,false,false,false] (by kernel_rfl) rfl rfl ⟨(bCe BK193.out 0).trans rfl,(bCe BK193.out 1).trans rfl,(bCe BK194.out 0).trans rfl,(bCe BK194.out 1).trans rfl⟩ (fun hHeld => ?_);refine with_tabW laws_FnExactOrderOf.tab2 laws_FnExactOrderOf.bits2 (fun HT_ HW_ => ?_)
  generalize w36.drew = w37 at BK193 BK194 HB hHeld ⊢
  refine tU4 (i:=0) (N:=some 18) #[true,false,false,false,false,false,false,false,false,false] (take_ofW HT_.out HW_.out (by kernel_rfl)) hHeld ?_
  refine tU4 (i:=2) (N:=some 20) #[true,false,true,false,false,false,false,false,false,false] (take_ofW HT_.out HW_.out (by kernel_rfl)) hHeld ?_
  refine one_ (i:=1) (N:=some 19) #[true,true,true,false,false,false,false,false,false,false] rfl rfl (one_of HT_.out (by kernel_rfl)) (by decide) (fun K hK => ?_)
  refine goes_ Try.func14 (by kernel_rfl) rfl #[.agg #[.int .i64 a0_0,.int .i64 a0_1]] (by rfl) rfl rfl (by (try simp only [List.map_toArray,List.map_cons,List.map_nil]);first | done | rfl|(simp only [List.length_drop,List.length_take];rfl)) ?_
  with_reducible refine (laws_toWord.calls a0_0 a0_1 t201 t202 _ A6.out).mono ?_
  rintro e w38 ⟨rfl,hb⟩
  refine ⟨_,rfl,?_⟩
  have n0_:=aMk (bkB BK193.out hb)
  have n1_:=aMk (bkB BK194.out hb)
  have n2_:=aMk (below_step (by repeat (first|(with_reducible first|exact HB.out|apply bwA|apply bwN|apply bw1|refine below_set ?_ GE193.out|refine below_set ?_ GE194.out)|exact HB.out)) hb)
  clear BK193
  clear BK194
  clear HB
  have BK193:=n0_
  have BK194:=n1_
  have HB:=n2_
  clear n0_ n1_ n2_
  (try clear hb)
  (try clear hb2)
  (try clear hk)
  (try clear hi)
  refine hK.out _ _ ⟨(bCe BK193.out 0).trans rfl,(bCe BK193.out 1).trans rfl,(bCe BK194.out 0).trans rfl,(bCe BK194.out 1).trans rfl⟩ (fun hHeld => ?_)
  clear hK K
  refine norm_ (a':=?_) ?_ ?_
  rotate_left
  ·show Act.put _ (some 19) _ = _
   simp only [Act.put,List.setIfInBounds_toArray,List.set_cons_zero,List.set_cons_succ,i64_w,i32_w]
   rfl
  refine one_ (i:=3) (N:=some 21) #[true,true,true,true,false,false,false,false,false,false] rfl rfl (one_of HT_.out (by kernel_rfl)) (by decide) (fun K hK => ?_)
  refine goes_ Try.func14 (by kernel_rfl) rfl #[.agg #[.int .i64 a1_0,.int .i64 a1_1]] (by rfl) rfl rfl (by (try simp only [List.map_toArray,List.map_cons,List.map_nil]);first | done | rfl|(simp only [List.length_drop,List.length_take];rfl)) ?_
  with_reducible refine (laws_toWord.calls a1_0 a1_1 t203 t204 _ A7.out).mono ?_
  rintro e w39 ⟨rfl,hb⟩
  refine ⟨_,rfl,?_⟩
  have n0_:=aMk (bkB BK193.out hb)
  have n1_:=aMk (bkB BK194.out hb)
  have n2_:=aMk (below_step (by repeat (first|(with_reducible first|exact HB.out|apply bwA|apply bwN|apply bw1|refine below_set ?_ GE193.out|refine below_set ?_ GE194.out)|exact HB.out)) hb)
  clear BK193
  clear BK194
  clear HB
  have BK193:=n0_
  have BK194:=n1_
  have HB:=n2_
  clear n0_ n1_ n2_
  (try clear hb)
  (try clear hb2)
  (try clear hk)
  (try clear hi)
  refine hK.out _ _ ⟨(bCe BK193.out 0).trans rfl,(bCe BK193.out 1).trans rfl,(bCe BK194.out 0).trans rfl,(bCe BK194.out 1).trans rfl⟩ (fun hHeld => ?_)
  clear hK K
  refine norm_ (a':=?_) ?_ ?_
  rotate_left
  ·show Act.put _ (some 21) _ = _
   simp only [Act.put,List.setIfInBounds_toArray,List.set_cons_zero,List.set_cons_succ,i64_w,i32_w]
   rfl
  refine one_ (i:=4) (N:=some 22) #[true,true,true,true,true,false,false,false,false,false] rfl rfl (one_of HT_.out (by kernel_rfl)) (by decide) (fun K hK => ?_)
  refine goes_ Try.func15 (by kernel_rfl) rfl #[.agg #[.int .i64 t201,.int .i64 t202],.agg #[.int .i64 t203,.int .i64 t204]] (by rfl) rfl rfl (by (try simp only [List.map_toArray,List.map_cons,List.map_nil]);first | done | rfl|(simp only [List.length_drop,List.length_take];rfl)) ?_
  with_reducible refine (impl_OrderOf.calls k t201 t202 t203 t204 t205 t206 _ A8.out).mono ?_
  rintro e w40 ⟨rfl,hb⟩
  refine ⟨_,rfl,?_⟩
  have n0_:=aMk (bkB BK193.out hb)
  have n1_:=aMk (bkB BK194.out hb)
  have n2_:=aMk (below_step (by repeat (first|(with_reducible first|exact HB.out|apply bwA|apply bwN|apply bw1|refine below_set ?_ GE193.out|refine below_set ?_ GE194.out)|exact HB.out)) hb)
  clear BK193
  clear BK194
  clear HB
  have BK193:=n0_
  have BK194:=n1_
  have HB:=n2_
  clear n0_ n1_ n2_
  (try clear hb)
  (try clear hb2)
  (try clear hk)
  (try clear hi)
  refine hK.out _ _ ⟨(bCe BK193.out 0).trans rfl,(bCe BK193.out 1).trans rfl,(bCe BK194.out 0).trans rfl,(bCe BK194.out 1).trans rfl⟩ (fun hHeld => ?_)
  clear hK K
  refine norm_ (a':=?_) ?_ ?_
  rotate_left
  ·show Act.put _ (some 22) _ = _
   simp only [Act.put,List.setIfInBounds_toArray,List.set_cons_zero,List.set_cons_succ,i64_w,i32_w]
   rfl
  refine pU (i:=5) (N:=some 17) #[true,true,true,true,true,true,false,false,false,false] (any_of HT_.out (by kernel_rfl)) ?_
  refine pU (i:=6) (N:=some 23) #[true,true,true,true,true,true,true,false,false,false] (any_of HT_.out (by kernel_rfl)) ?_
  refine pU (i:=7) (N:=some 24) #[true,true,true,true,true,true,true,true,false,false] (any_of HT_.out (by kernel_rfl)) ?_
  refine pU (i:=8) (N:=some 7) #[true,true,true,true,true,true,true,true,true,false] (any_of HT_.out (by kernel_rfl)) ?_
  refine pU (i:=9) (N:=some 8) #[true,true,true,true,true,true,true,true,true,true] (any_of HT_.out (by kernel_rfl)) ?_
  refine done_ (done_of HT_.out (by kernel_rfl)) ?_
  try go_wp2
  go_ret
  exact ⟨eRf,by repeat (first|(with_reducible first|exact HB.out|apply bwA|apply bwN|apply bw1|refine below_set ?_ GE193.out|refine below_set ?_ GE194.out)|exact HB.out)⟩
end
section
-- NEEDS spec.l01In impl.within
theorem l01In_eq (a b c : Int) : spec_l01In.f a b c = some (decide (b ≤ a ∧ a ≤ c)):=by unfold spec_l01In.f;grind
theorem within_eq (a b c : Int) : impl_within.f a b c = some (decide (b ≤ a ∧ a ≤ c)):=by unfold impl_within.f;grind
end
section
def wf29 (x : S29) : Prop:=(Lit.int .i64 x.f0).wf = true ∧ ((Lit.int .i64 x.f1).wf = true)
end
section
def P_FnExactOrderOf : Prop:=∀ (a0 : S29) (a1 : S29),wf29 a0 → wf29 a1 → ∃ k,laws_FnExactOrderOf.f k a0.f0 a0.f1 a1.f0 a1.f1 = some true
end
section
-- NEEDS laws.FnExactOrderOf
theorem wordb_spec (a b : Int) : spec_l06Word.f a b = some (decide (0 ≤ a ∧ a ≤ 4294967295) && decide (0 ≤ b ∧ b ≤ 4294967295)):=by
 simp only [spec_l06Word.f,spec_l01Ip.f,l01In_eq,Option.bind_some]
 cases decide (0 ≤ a ∧ a ≤ 4294967295) <;> simp
theorem wordb_impl (a b : Int) : impl_wordOK.f a b = some (decide (0 ≤ a ∧ a ≤ 4294967295) && decide (0 ≤ b ∧ b ≤ 4294967295)):=by
 simp only [impl_wordOK.f,within_eq,Option.bind_some]
 cases decide (0 ≤ a ∧ a ≤ 4294967295) <;> simp
end
section
-- NEEDS impl.SortWords spec.SortWords laws.FnExactOrderOf
theorem ord_anti (a b c d : Int) : ordI a b c d = -(ordI c d a b):=by
 unfold ordI
 generalize cls a b = x
 generalize cls c d = y
 repeat' split
 all_goals omega
def insRev (x : S31) : List S31 → List S31
 | [] => [x]
 | y :: r => if ordW x y < 0 then y :: insRev x r else x :: y :: r
def sortR : List S31 → List S31 → List S31
 | acc,[] => acc.reverse
 | acc,x :: r => sortR (insRev x acc) r
theorem insRev_len (x : S31) : ∀ r,(insRev x r).length = r.length + 1
 | [] => rfl
 | y :: r => by
  rw [insRev]
  split
  ·rw [List.length_cons,insRev_len x r,List.length_cons]
  ·rfl
theorem insRev_mem {x z : S31} : ∀ {r : List S31},z ∈ insRev x r → z = x ∨ z ∈ r
 | [],h => .inl (List.mem_singleton.1 h)
 | y :: r,h => by
  rw [insRev] at h
  split at h
  ·rcases List.mem_cons.1 h with rfl | h
   ·exact .inr List.mem_cons_self
   ·rcases insRev_mem h with h | h
    ·exact .inl h
    ·exact .inr (List.mem_cons_of_mem _ h)
  ·rcases List.mem_cons.1 h with h | h
   ·exact .inl h
   ·exact .inr h
theorem sortR_len : ∀ (l acc : List S31),(sortR acc l).length = acc.length + l.length
 | [],acc => by rw [sortR,List.length_reverse];rfl
 | x :: r,acc => by rw [sortR,sortR_len r,insRev_len,List.length_cons];omega
theorem sortR_mem {z : S31} : ∀ (l acc : List S31),z ∈ sortR acc l → z ∈ acc ∨ z ∈ l
 | [],acc,h => .inl (List.mem_reverse.1 h)
 | x :: r,acc,h => by
  rw [sortR] at h
  rcases sortR_mem r _ h with h | h
  ·rcases insRev_mem h with rfl | h
   ·exact .inr List.mem_cons_self
   ·exact .inl h
  ·exact .inr (List.mem_cons_of_mem _ h)
def AdjR : List S31 → Prop
 | [] => True
 | [_] => True
 | x :: y :: r => ordW y x ≤ 0 ∧ AdjR (y :: r)
theorem insRev_adj (x : S31) : ∀ r,AdjR r → AdjR (insRev x r)
 | [],_ => trivial
 | [y],_ => by
  rw [insRev]
  split
  ·rename_i h
   exact ⟨by have:=h;omega,trivial⟩
  ·rename_i h
   refine ⟨?_,trivial⟩
   have:=ord_anti y.f0 y.f1 x.f0 x.f1
   unfold ordW at h ⊢
   omega
 | y :: z :: r,h => by
  have ih:=insRev_adj x (z :: r) h.2
  rw [insRev]
  split
  ·rename_i hc
   rw [insRev] at ih ⊢
   split
   ·rename_i hc2
    rw [if_pos hc2] at ih
    exact ⟨h.1,ih⟩
   ·rename_i hc2
    rw [if_neg hc2] at ih
    exact ⟨by omega,ih⟩
  ·rename_i hc
   refine ⟨?_,h⟩
   have:=ord_anti y.f0 y.f1 x.f0 x.f1
   unfold ordW at hc ⊢
   omega
theorem adj_rd : ∀ (r : List S31),AdjR r → ∀ (k : Nat),k + 1 < r.length → ordW (rd_T31 r ((k + 1 : Nat) : Int)) (rd_T31 r (k : Int)) ≤ 0
 | [],_,k,hk => by simp at hk
 | [_],_,k,hk => by simp at hk
 | x :: y :: r,h,0,hk => h.1
 | x :: y :: r,h,k + 1,hk => by
  have:=adj_rd (y :: r) h.2 k (by simpa using hk)
  exact this
theorem sortR_adj : ∀ (l acc : List S31),AdjR acc → ∃ racc,AdjR racc ∧ sortR acc l = racc.reverse
 | [],acc,h => ⟨acc,h,rfl⟩
 | x :: r,acc,h => by
  rw [sortR]
  exact sortR_adj r _ (insRev_adj x acc h)
theorem rd_mid (A B : List S31) (y : S31) (n : Nat) (hn : A.length = n) : rd_T31 (A ++ y :: B) (n : Int) = y:=by
 subst hn
 rw [rd_T31,List.getD_eq_getElem?_getD,Int.toNat_natCast,List.getElem?_append_right (Nat.le_refl _),Nat.sub_self];rfl
theorem swap_mid (x y : S31) (B : List S31) : ∀ A : List S31,((A ++ y :: x :: B).set (A.length + 1) y).set A.length x = A ++ x :: y :: B
 | [] => rfl
 | a :: A => by
  have:=swap_mid x y B A
  simp only [List.cons_append,List.length_cons,List.set_cons_succ,this]
theorem insIn_rev (x : S31) : ∀ (R S : List S31),insIn ordW 0 R.length (R.reverse ++ x :: S) = (insRev x R).reverse ++ S
 | [],S => rfl
 | y :: R,S => by
  have e : (y :: R).reverse ++ x :: S = R.reverse ++ y :: x :: S:=by simp
  have r1 : rd_T31 (R.reverse ++ y :: x :: S) ((R.length + 1 : Nat) : Int) = x:=by
   have:=rd_mid (R.reverse ++ [y]) S x (R.length + 1) (by simp)
   simpa using this
  have r0 : rd_T31 (R.reverse ++ y :: x :: S) (R.length : Int) = y:=rd_mid R.reverse (x :: S) y R.length (by simp)
  rw [e,List.length_cons,insIn,r1,r0,insRev]
  by_cases hc : ordW x y < 0
  ·rw [if_pos ⟨by omega,hc⟩,if_pos hc]
   have hs:=swap_mid x y S R.reverse
   rw [List.length_reverse] at hs
   rw [hs,insIn_rev x R (y :: S)]
   simp
  ·rw [if_neg (fun h => hc h.2),if_neg hc]
   simp
theorem insOut_sort : ∀ (S acc : List S31),insOut ordW 0 S.length acc.length (acc.reverse ++ S) = sortR acc S
 | [],acc => by rw [List.append_nil];rfl
 | x :: S,acc => by
  rw [List.length_cons,insOut,insIn_rev x acc S,sortR,← insRev_len x acc,insOut_sort S (insRev x acc)]
theorem insAll_sort (l : List S31) : insAll ordW l = sortR [] l:=by
 cases l with
 | nil => rfl
 | cons x r =>
  rw [insAll,List.length_cons,Nat.add_sub_cancel]
  exact insOut_sort r [x]
theorem sp_l2 (x0 : List S31) (hx : (x0.length : Int) ≤ 100) (i : Int) (h0 : 0 ≤ i) (hi : i < x0.length) (hok : ∀ z ∈ x0,okW z) (Q : Option ((List S31) × Int)) (K : Nat) (hK : 5 ≤ K) :
  ∀ (R T : List S31),(∀ z ∈ R,okW z) → (R.length : Int) + T.length ≤ 100 → (∀ k,K ≤ k → spec_SortWords.l1 k x0 ((insRev (rd_T31 x0 i) R).reverse ++ T) (i + 1) = Q) → ∀ k,K + R.length + 1 ≤ k → spec_SortWords.l2 k x0 (R.reverse ++ T) i (R.length : Int) = Q
 | [],T,hR,hlen,hQ,k,hk => by
  obtain ⟨k,rfl⟩ : ∃ z,k = z + 1:=⟨k - 1,by omega⟩
  have hq:=hQ k (by simp at hk;omega)
  have hT : (T.length : Int) ≤ 100:=by simp at hlen;omega
  rw [spec_SortWords.l2,if_neg (by simp),Option.bind_some,if_pos (by simp),if_pos (by simp),Option.bind_some,if_pos (by simp),Option.bind_some,if_pos h0,if_pos hi,Option.bind_some,if_pos (by simp),Option.bind_some,Option.bind_some,if_pos (by simp;omega),wrap_id (by omega) (by omega),← hq]
  simp [insRev]
 | y :: R,T,hR,hlen,hQ,k,hk => by
  obtain ⟨k,rfl⟩ : ∃ z,k = z + 1:=⟨k - 1,by omega⟩
  rw [List.length_cons] at hk hlen
  have e : (y :: R).reverse ++ T = R.reverse ++ y :: T:=by simp
  have r0 : rd_T31 (R.reverse ++ y :: T) (R.length : Int) = y:=rd_mid R.reverse T y R.length (by simp)
  have hy:=hR y List.mem_cons_self
  have hxm : rd_T31 x0 i ∈ x0:=by
   rw [rd_T31,List.getD_eq_getElem?_getD,List.getElem?_eq_getElem (by omega)]
   exact List.getElem_mem ..
  have hxo:=hok _ hxm
  obtain ⟨x,hxx⟩ : ∃ x,x = rd_T31 x0 i:=⟨_,rfl⟩
  rw [← hxx] at hQ hxo
  have hle : ((R.reverse ++ y :: T).length : Int) = R.length + (T.length + 1):=by simp
  have ho:=spec_order_eq hy.1.1 hy.1.2 hy.2.1 hxo.1.1 hxo.1.2 hxo.2.1 k (by omega)
  have han:=ord_anti y.f0 y.f1 x.f0 x.f1
  have hw : wrap64 (((R.length + 1 : Nat) : Int) - 1) = (R.length : Int):=by rw [wrap_id (by omega) (by omega)];omega
  rw [e,List.length_cons,spec_SortWords.l2,if_pos (by omega),hw,if_pos (by omega),hle,if_pos (by omega),if_pos h0,if_pos hi,r0,← hxx,ho,Option.bind_some]
  rw [insRev] at hQ
  by_cases hc : ordI y.f0 y.f1 x.f0 x.f1 > 0
  ·have hc2 : ordW x y < 0:=by unfold ordW;omega
   rw [if_pos hc]
   rw [if_pos hc2] at hQ
   exact sp_l2 x0 hx i h0 hi hok Q K hK R (y :: T) (fun z hz => hR z (List.mem_cons_of_mem _ hz)) (by simp;omega) (fun k hk => by rw [← hQ k hk,← hxx];simp) k (by omega)
  ·have hc2 : ¬ ordW x y < 0:=by unfold ordW;omega
   rw [if_neg hc]
   rw [if_neg hc2] at hQ
   have hq:=hQ k (by omega)
   have t1 : ((((R.length + 1 : Nat) : Int)).toNat) = R.length + 1:=by omega
   have tk : (R.reverse ++ y :: T).take (R.length + 1) = R.reverse ++ [y]:=by
    rw [show R.reverse ++ y :: T = (R.reverse ++ [y]) ++ T by simp,List.take_left' (by simp)]
   have td : (R.reverse ++ y :: T).drop (R.length + 1) = T:=by
    rw [show R.reverse ++ y :: T = (R.reverse ++ [y]) ++ T by simp,List.drop_left' (by simp)]
   rw [Option.bind_some,if_pos (by omega),if_pos (by omega),t1,tk,td,Option.bind_some,if_pos (by simp;omega),Option.bind_some,Option.bind_some,if_pos (by simp;omega),Option.bind_some,Option.bind_some,if_pos (by simp;omega),wrap_id (by omega) (by omega),← hq]
   simp
theorem sp_l1 (x0 : List S31) (hx : (x0.length : Int) ≤ 100) (hok : ∀ z ∈ x0,okW z) (M : Nat) (hM : 200 ≤ M) : ∀ (d i : Nat) (acc : List S31),i + d = x0.length → acc.length = i → (∀ z ∈ acc,okW z) → ∀ k,d * M + 6 ≤ k → spec_SortWords.l1 k x0 acc.reverse i = some (sortR acc (x0.drop i),0)
 | 0,i,acc,hd,ha,hao,k,hk => by
  obtain ⟨k,rfl⟩ : ∃ z,k = z + 1:=⟨k - 1,by omega⟩
  rw [spec_SortWords.l1,if_neg (by omega),List.drop_eq_nil_of_le (by omega)];rfl
 | d + 1,i,acc,hd,ha,hao,k,hk => by
  rw [Nat.succ_mul] at hk
  obtain ⟨k,rfl⟩ : ∃ z,k = z + 1:=⟨k - 1,by omega⟩
  have hlt : i < x0.length:=by omega
  have hdr : x0.drop i = rd_T31 x0 (i : Int) :: x0.drop (i + 1):=by
   rw [List.drop_eq_getElem_cons hlt,rd_T31,List.getD_eq_getElem?_getD,Int.toNat_natCast,List.getElem?_eq_getElem hlt];rfl
  have hxm : rd_T31 x0 (i : Int) ∈ x0:=by
   have : rd_T31 x0 (i : Int) ∈ x0.drop i:=by rw [hdr];exact List.mem_cons_self
   exact List.mem_of_mem_drop this
  have ih:=sp_l1 x0 hx hok M hM d (i + 1) (insRev (rd_T31 x0 (i : Int)) acc) (by omega) (by rw [insRev_len];omega) (fun z hz => by
   rcases insRev_mem hz with rfl | hz
   ·exact hok _ hxm
   ·exact hao z hz)
  generalize d * M = q at hk ih
  rw [show ((i + 1 : Nat) : Int) = (i : Int) + 1 by omega] at ih
  rw [hdr,sortR,spec_SortWords.l1,if_pos (by omega),List.length_reverse]
  have h2:=sp_l2 x0 hx (i : Int) (by omega) (by omega) hok _ (q + 6) (by omega) acc [] hao (by simp;omega) (fun k hk => by rw [List.append_nil];exact ih k hk) k (by omega)
  rw [List.append_nil] at h2
  exact h2
theorem sp_l0 (x0 : List S31) (hx : (x0.length : Int) ≤ 100) (hok : ∀ z ∈ x0,okW z) (Q : List S31 × Int) (K : Nat) (hQ : ∀ k,K ≤ k → spec_SortWords.l1 k x0 [] 0 = some Q) : ∀ (d i : Nat),i + d = x0.length → ∀ k,d + 1 + K ≤ k → spec_SortWords.l0 k x0 i = some Q
 | 0,i,hd,k,hk => by
  obtain ⟨k,rfl⟩ : ∃ z,k = z + 1:=⟨k - 1,by omega⟩
  rw [spec_SortWords.l0,if_neg (by omega),if_neg (by omega)]
  exact hQ k (by omega)
 | d + 1,i,hd,k,hk => by
  obtain ⟨k,rfl⟩ : ∃ z,k = z + 1:=⟨k - 1,by omega⟩
  have hxm : rd_T31 x0 (i : Int) ∈ x0:=by
   rw [rd_T31,List.getD_eq_getElem?_getD,Int.toNat_natCast,List.getElem?_eq_getElem (by omega)]
   exact List.getElem_mem ..
  have ho:=hok _ hxm
  rw [spec_SortWords.l0,if_pos (by omega),if_pos (by omega),wordb_spec,Option.bind_some,decide_eq_true ho.1,decide_eq_true ho.2,if_pos (by decide),wrap_id (by omega) (by omega),show (i : Int) + 1 = ((i + 1 : Nat) : Int) by omega]
  exact sp_l0 x0 hx hok Q K hQ d (i + 1) (by omega) k (by omega)
theorem spec_Sort_ev (l : List S31) (hx : (l.length : Int) ≤ 100) (hok : ∀ z ∈ l,okW z) : ∃ K,∀ k,K ≤ k → spec_SortWords.f k l = some (sortR [] l,0):=by
 obtain ⟨M,hM⟩ : ∃ M : Nat,200 ≤ M:=⟨200,Nat.le_refl _⟩
 have h1:=sp_l1 l hx hok M hM l.length 0 [] (by omega) rfl (by simp)
 rw [List.drop_zero] at h1
 refine ⟨l.length + 1 + (l.length * M + 6),fun k hk => ?_⟩
 rw [spec_SortWords.f,if_neg (by omega)]
 exact sp_l0 l hx hok _ (l.length * M + 6) (fun k hk => h1 k hk) l.length 0 (by omega) k (by omega)
def badW (x : S31) : Bool:=!(decide (0 ≤ x.f0 ∧ x.f0 ≤ 4294967295) && decide (0 ≤ x.f1 ∧ x.f1 ≤ 4294967295))
theorem any_none {q : S31 → Bool} {l : List S31} (h : ∀ z ∈ l,q z = false) : ∀ (d i : Nat),i + d = l.length → any_T31 q l d (i : Int) = false
 | 0,i,hd => rfl
 | d + 1,i,hd => by
  have hxm : rd_T31 l (i : Int) ∈ l:=by
   rw [rd_T31,List.getD_eq_getElem?_getD,Int.toNat_natCast,List.getElem?_eq_getElem (by omega)]
   exact List.getElem_mem ..
  have ih:=any_none h d (i + 1) (by omega)
  rw [show ((i + 1 : Nat) : Int) = (i : Int) + 1 by omega] at ih
  rw [any_T31,h _ hxm,ih];rfl
theorem impl_Sort_ev (l : List S31) (hx : l.length < 20) (hok : ∀ z ∈ l,okW z) (k : Nat) (hk : l.length + 1 ≤ k) : impl_SortWords.f k l = some (sortR [] l,0):=by
 have e : impl_Word_51.f k l = some (any_T31 badW l l.length 0):=by
  unfold impl_Word_51.f
  exact containsP31_ev badW l (by omega) _ (fun x => by simp only [impl_SortWords_1.f,wordb_impl,Option.bind_some,badW]) k hk
 have hn:=any_none (q:=badW) (l:=l) (fun z hz => by
  have:=hok z hz
  rw [badW,decide_eq_true this.1,decide_eq_true this.2];rfl) l.length 0 (by omega)
 rw [show ((0 : Nat) : Int) = 0 from rfl] at hn
 have hcl : impl_Word_53.f l = some l:=by
  unfold impl_Word_53.f
  rw [Option.bind_some,if_pos (by simp;omega),List.nil_append]
 rw [impl_SortWords.f,if_neg (by omega),e,hn,Option.bind_some,if_neg (by decide),if_neg (by omega),hcl,Option.bind_some,impl_Word_54.f,if_pos ⟨hok,hx⟩,Option.bind_some,insAll_sort]
end
section
/-! ### spec_l00Src_amount: function 68 -/
def spec_l00Src_amount.f (s0_0 : List Int) (s0_1 : Int) (s0_2 : Int) : Option (Int × Int × Int):=(spec_l00Src_next.f s0_0 s0_1 s0_2 100).bind fun bt235 => ((spec_l00Src_next.f s0_0 bt235.2.1 bt235.2.2 9000).bind fun bt238 => ((some (([wrap64 (bt235.1 - 50),bt238.1,1000000000,(-1000000000),0] : List Int) : List Int)).bind fun y241 => ((spec_l00Src_next.f s0_0 bt238.2.1 bt238.2.2 5).bind fun bt244 => (if 0 ≤ bt244.1 then (if bt244.1 < (y241.length : Int) then (some (rd y241 bt244.1,bt244.2.1,bt244.2.2)) else (none)) else (none)))))
set_option maxHeartbeats 8000000 in
set_option maxRecDepth 100000 in
theorem spec_l00Src_amount.calls (g : Nat) (s0_0 : List Int) (s0_1 : Int) (s0_2 : Int) (r1 : Int) (r2 : Int) (r3 : Int) (w0 w : World) (hI : IsS80 w0 w g s0_0 s0_1 s0_2) (hB : Below w0.heap.size w0 w) (h : spec_l00Src_amount.f s0_0 s0_1 s0_2 = some (r1,r2,r3)) :
  Calls Try.prog 68 #[.pointer (some ⟨g,0,none⟩)] w fun e w' => e = .returned (.int .i64 r1) ∧ IsS80 w0 w' g s0_0 r2 r3 ∧ Below w0.heap.size w0 w' ∧ KeepBut w w' g none:=by
 have HI0:=aMk hI
 have HK:=aMk (KeepBut.refl w g none)
 have HL:=aMk hB.size
 clear hI
 have HW0:=aMk hB.size
 have HB:=aMk hB
 clear hB
 have H : ((spec_l00Src_next.f s0_0 s0_1 s0_2 100).bind fun bt235 => ((spec_l00Src_next.f s0_0 bt235.2.1 bt235.2.2 9000).bind fun bt238 => ((some (([wrap64 (bt235.1 - 50),bt238.1,1000000000,(-1000000000),0] : List Int) : List Int)).bind fun y241 => ((spec_l00Src_next.f s0_0 bt238.2.1 bt238.2.2 5).bind fun bt244 => (if 0 ≤ bt244.1 then (if bt244.1 < (y241.length : Int) then (some (rd y241 bt244.1,bt244.2.1,bt244.2.2)) else (none)) else (none)))))) = some (r1,r2,r3):=h
 clear h
 replace H:=Option.bind_eq_some_iff.mp H
 obtain ⟨⟨t235,t236,t237⟩,A20,H⟩:=H
 replace H : ((spec_l00Src_next.f s0_0 t236 t237 9000).bind fun bt238 => ((some (([wrap64 (t235 - 50),bt238.1,1000000000,(-1000000000),0] : List Int) : List Int)).bind fun y241 => ((spec_l00Src_next.f s0_0 bt238.2.1 bt238.2.2 5).bind fun bt244 => (if 0 ≤ bt244.1 then (if bt244.1 < (y241.length : Int) then (some (rd y241 bt244.1,bt244.2.1,bt244.2.2)) else (none)) else (none))))) = some (r1,r2,r3):=H
 have A2:=aMk A20
 clear A20
 replace H:=Option.bind_eq_some_iff.mp H
 obtain ⟨⟨t238,t239,t240⟩,A30,H⟩:=H
 replace H : ((some (([wrap64 (t235 - 50),t238,1000000000,(-1000000000),0] : List Int) : List Int)).bind fun y241 => ((spec_l00Src_next.f s0_0 t239 t240 5).bind fun bt244 => (if 0 ≤ bt244.1 then (if bt244.1 < (y241.length : Int) then (some (rd y241 bt244.1,bt244.2.1,bt244.2.2)) else (none)) else (none)))) = some (r1,r2,r3):=H
 have A3:=aMk A30
 clear A30
 obtain ⟨y241,hy241⟩ : ∃ y_ : List Int,y_ = (([wrap64 (t235 - 50),t238,1000000000,(-1000000000),0] : List Int)):=⟨_,rfl⟩
 replace H : ((spec_l00Src_next.f s0_0 t239 t240 5).bind fun bt244 => (if 0 ≤ bt244.1 then (if bt244.1 < (y241.length : Int) then (some (rd y241 bt244.1,bt244.2.1,bt244.2.2)) else (none)) else (none))) = some (r1,r2,r3):=by first|(rw [hy241];with_reducible exact H)|(have H2_:=(Option.bind_some _ _).symm.trans H;rw [hy241];with_reducible exact H2_)|(have H2_:=(Option.bind_some _ _).symm.trans H;with_reducible exact H2_) | with_reducible exact H|(rw [hy241];exact H)|exact H
 have Ny241:=aMk hy241
 clear hy241
 replace H:=Option.bind_eq_some_iff.mp H
 obtain ⟨⟨t244,t245,t246⟩,A40,H⟩:=H
 replace H : (if 0 ≤ t244 then (if t244 < (y241.length : Int) then (some (rd y241 t244,t245,t246)) else (none)) else (none)) = some (r1,r2,r3):=H
 have A4:=aMk A40
 clear A40
 by_cases c5 : 0 ≤ t244
 ·rw [if_pos c5] at H
  have c5b0 : decide (0 ≤ t244) = true:=decide_eq_true c5
  clear c5
  by_cases c6 : t244 < (y241.length : Int)
  ·rw [if_pos c6] at H
   have c6b0 : decide (t244 < (y241.length : Int)) = true:=decide_eq_true c6
   clear c6
   simp only [Option.some.injEq,Prod.mk.injEq] at H
   obtain ⟨rfl,rfl,rfl⟩:=H
   go_enter Try.func68,Try.ntmps68
   go_wp2_with (first|((with_reducible refine gate_callee (f:=67) rfl ?_);refine gLs 4 Try.func67 #[.pointer (some ⟨g,0,none⟩),.int .i64 100] ?_;(with_reducible refine (spec_l00Src_next.calls g s0_0 s0_1 s0_2 100 t235 t236 t237 w0 _ ?side1 ?side2 A2.out).mono ?_);(case side1 => repeat (first|(with_reducible first|exact HI0.out|apply IsS80.alloc|apply IsS80.drewN|apply IsS80.drew|apply IsS80.set_1|apply IsS80.set_2)|exact HI0.out));(case side2 => repeat (first|(with_reducible first|exact HB.out|apply bwA|apply bwN|apply bw1|refine below_set ?_ (IsS80.ge HI0.out))|exact HB.out));rintro e w7 ⟨rfl,hi,hb,hk⟩;refine ⟨_,rfl,?_⟩;have n0_:=aMk (KeepBut.trans (by repeat (first|(with_reducible first|exact HK.out|apply KeepBut.set_|apply keep_drewN|apply keep_drew|apply keep_alloc)|exact HK.out)) hk (.inl rfl));have n1_:=aMk (hb);have n2_:=aMk (hi);clear HK;clear HB;clear HI0;have HK:=n0_;have HB:=n1_;have HI0:=n2_;clear n0_ n1_ n2_;(try clear hb);(try clear hb2);(try clear hk);(try clear hi))|((with_reducible refine gate_callee (f:=67) rfl ?_);refine gLs 7 Try.func67 #[.pointer (some ⟨g,0,none⟩),.int .i64 9000] ?_;(with_reducible refine (spec_l00Src_next.calls g s0_0 t236 t237 9000 t238 t239 t240 w0 _ ?side1 ?side2 A3.out).mono ?_);(case side1 => repeat (first|(with_reducible first|exact HI0.out|apply IsS80.alloc|apply IsS80.drewN|apply IsS80.drew|apply IsS80.set_1|apply IsS80.set_2)|exact HI0.out));(case side2 => repeat (first|(with_reducible first|exact HB.out|apply bwA|apply bwN|apply bw1|refine below_set ?_ (IsS80.ge HI0.out))|exact HB.out));rintro e w8 ⟨rfl,hi,hb,hk⟩;refine ⟨_,rfl,?_⟩;have n0_:=aMk (KeepBut.trans (by repeat (first|(with_reducible first|exact HK.out|apply KeepBut.set_|apply keep_drewN|apply keep_drew|apply keep_alloc)|exact HK.out)) hk (.inl rfl));have n1_:=aMk (hb);have n2_:=aMk (hi);clear HK;clear HB;clear HI0;have HK:=n0_;have HB:=n1_;have HI0:=n2_;clear n0_ n1_ n2_;(try clear hb);(try clear hb2);(try clear hk);(try clear hi))|((with_reducible refine gate_dst (N:=8) rfl ?_);refine Kd.R_lit (Kd.int .i64) _ 3 ?hg (N:=8) ?hd (xs:=([wrap64 (t235 - 50),t238,1000000000,(-1000000000),0] : List Int)) (inner:=[.int .i64 (wrap64 (t235 - 50)),.int .i64 t238,.int .i64 1000000000,.int .i64 (-1000000000),.int .i64 0]) (ok:=fun _ => True) (okp:=fun _ => True) ?hr ?hp (fun _ hk => hk) trivial (Below.refl _ _) (Nat.le_refl _) (by simp) ?_;(case hd => rfl);(case hg => rfl);(case hr => first|(go_simp;done)|(go_simp;rfl));(case hp => exact (Reps.one (show Kd.M (Kd.int .i64) _ _ _ (wrap64 (t235 - 50)) [.int .i64 (wrap64 (t235 - 50))] from rfl) (Reps.one (show Kd.M (Kd.int .i64) _ _ _ t238 [.int .i64 t238] from rfl) (Reps.one (show Kd.M (Kd.int .i64) _ _ _ 1000000000 [.int .i64 1000000000] from rfl) (Reps.one (show Kd.M (Kd.int .i64) _ _ _ (-1000000000) [.int .i64 (-1000000000)] from rfl) (Reps.one (show Kd.M (Kd.int .i64) _ _ _ 0 [.int .i64 0] from rfl) (Reps.none _ _)))))));intro v242 w9 ho10 hb hg_ hnew_;clear hg_ hnew_;(first|rw [← Ny241.out] at ho10|(simp only [Int.reduceToNat] at ho10;rw [← Ny241.out] at ho10));have n0_:=aMk (Kd.R_lower ho10 (keep_size (w:=w) (g:=g) (row:=none) (by repeat (first|(with_reducible first|exact HK.out|apply KeepBut.set_|apply keep_drewN|apply keep_drew|apply keep_alloc)|exact HK.out))));have n1_:=aMk (IsS80.below (by repeat (first|(with_reducible first|exact HI0.out|apply IsS80.alloc|apply IsS80.drewN|apply IsS80.drew|apply IsS80.set_1|apply IsS80.set_2)|exact HI0.out)) hb);have n2_:=aMk (KeepBut.trans (by repeat (first|(with_reducible first|exact HK.out|apply KeepBut.set_|apply keep_drewN|apply keep_drew|apply keep_alloc)|exact HK.out)) (KeepBut.of_below hb g none) (.inl rfl));have n3_:=aMk (below_step (by repeat (first|(with_reducible first|exact HB.out|apply bwA|apply bwN|apply bw1|refine below_set ?_ (IsS80.ge HI0.out))|exact HB.out)) hb);clear HI0;clear HK;clear HB;have HO243:=n0_;have HI0:=n1_;have HK:=n2_;have HB:=n3_;clear n0_ n1_ n2_ n3_;clear hb ho10)|((with_reducible refine gate_callee (f:=67) rfl ?_);refine gLs 10 Try.func67 #[.pointer (some ⟨g,0,none⟩),.int .i64 5] ?_;(with_reducible refine (spec_l00Src_next.calls g s0_0 t239 t240 5 t244 t245 t246 w0 _ ?side1 ?side2 A4.out).mono ?_);(case side1 => repeat (first|(with_reducible first|exact HI0.out|apply IsS80.alloc|apply IsS80.drewN|apply IsS80.drew|apply IsS80.set_1|apply IsS80.set_2)|exact HI0.out));(case side2 => repeat (first|(with_reducible first|exact HB.out|apply bwA|apply bwN|apply bw1|refine below_set ?_ (IsS80.ge HI0.out))|exact HB.out));rintro e w11 ⟨rfl,hi,hb,hk⟩;refine ⟨_,rfl,?_⟩;have n0_:=aMk (Kd.R_mono (Kd.R_keep (IsS80.apart (show IsS80 w0 _ g s0_0 t239 t240 from by repeat (first|(with_reducible first|exact HI0.out|apply IsS80.alloc|apply IsS80.drewN|apply IsS80.drew|apply IsS80.set_1|apply IsS80.set_2)|exact HI0.out)) (by (with_reducible repeat (first|apply Kd.R_alloc|apply Kd.R_drewN|apply Kd.R_drew));exact HO243.out) (by decide)) hk (fun _ h => h.2)) (fun _ h => h.1));have n1_:=aMk (KeepBut.trans (by repeat (first|(with_reducible first|exact HK.out|apply KeepBut.set_|apply keep_drewN|apply keep_drew|apply keep_alloc)|exact HK.out)) hk (.inl rfl));have n2_:=aMk (hb);have n3_:=aMk (hi);clear HO243;clear HK;clear HB;clear HI0;have HO243:=n0_;have HK:=n1_;have HB:=n2_;have HI0:=n3_;clear n0_ n1_ n2_ n3_;(try clear hb);(try clear hb2);(try clear hk);(try clear hi);obtain ⟨Ao12,co12,eo12⟩:=Kd.R_slice HO243.out;subst eo12;have p247 : 0 ≤ (t244 : Int):=of_decide_eq_true (by first|(with_reducible assumption) | assumption);have q247 : t244 < (y241.length : Int):=of_decide_eq_true (by first|(with_reducible assumption) | assumption);obtain ⟨ad247,e247,hx247_0⟩:=Kd.at_int (Kd.R_reads' HO243.out).2.2 t244 p247 q247;cases e247;replace p247:=eq_true p247;replace q247:=eq_true q247))
   go_ret
   exact ⟨eRf,by repeat (first|(with_reducible first|exact HI0.out|apply IsS80.alloc|apply IsS80.drewN|apply IsS80.drew|apply IsS80.set_1|apply IsS80.set_2)|exact HI0.out),by repeat (first|(with_reducible first|exact HB.out|apply bwA|apply bwN|apply bw1|refine below_set ?_ (IsS80.ge HI0.out))|exact HB.out),by repeat (first|(with_reducible first|exact HK.out|apply KeepBut.set_|apply keep_drewN|apply keep_drew|apply keep_alloc)|exact HK.out)⟩
  ·rw [if_neg c6] at H
   exact absurd H (by simp)
 ·rw [if_neg c5] at H
  exact absurd H (by simp)
end
section
/-! ### spec_l00Src_amounts: function 48 -/
def spec_l00Src_amounts.l0 : Nat → List Int → Int → List Int → Int → Int → Option (List Int × Int × Int)
 | 0,_,_,_,_,_ => none
 | k + 1,x3,x4,x1000,x1001,x1002 => if x4 > 0 then ((spec_l00Src_amount.f x1000 x1001 x1002).bind fun bt254 => (if x3.length < 17592186044416 then (spec_l00Src_amounts.l0 k (x3 ++ [bt254.1]) (wrap64 (x4 - 1)) x1000 bt254.2.1 bt254.2.2) else (none))) else (some (x3,x1001,x1002))
def spec_l00Src_amounts.f (k : Nat) (s0_0 : List Int) (s0_1 : Int) (s0_2 : Int) : Option (List Int × Int × Int):=(spec_l00Src_next.f s0_0 s0_1 s0_2 6).bind fun bt251 => (spec_l00Src_amounts.l0 k (([] : List Int)) bt251.1 s0_0 bt251.2.1 bt251.2.2)
theorem spec_l00Src_amounts.mono_l : ∀ k,(∀ y0 y1 y2 y3 y4,LeO (spec_l00Src_amounts.l0 k y0 y1 y2 y3 y4) (spec_l00Src_amounts.l0 (k + 1) y0 y1 y2 y3 y4))
 | 0 => fun _ _ _ _ _ r h => by simp [spec_l00Src_amounts.l0] at h
 | k + 1 => by
  have ih0:=spec_l00Src_amounts.mono_l k
  ·intro y0 y1 y2 y3 y4
   unfold spec_l00Src_amounts.l0
   repeat' first
   | (with_reducible exact ih0 _ _ _ _ _)
   | (with_reducible exact LeO.refl _)
   | (with_reducible exact LeO.none _)
   | (with_reducible refine LeO.ite ?_ ?_)
   | (with_reducible refine LeO.bind ?_ (fun _ => ?_))
   | exact ih0 _ _ _ _ _
   | exact LeO.none _
   | refine LeO.ite ?_ ?_
   | refine LeO.bind ?_ (fun _ => ?_)
theorem spec_l00Src_amounts.mono : ∀ a0 a1 a2 k,LeO (spec_l00Src_amounts.f k a0 a1 a2) (spec_l00Src_amounts.f (k + 1) a0 a1 a2):=by
 intro a0 a1 a2 k
 have ih0:=spec_l00Src_amounts.mono_l k
 unfold spec_l00Src_amounts.f
 repeat' first
   | (with_reducible exact ih0 _ _ _ _ _)
   | (with_reducible exact LeO.refl _)
   | (with_reducible exact LeO.none _)
   | (with_reducible refine LeO.ite ?_ ?_)
   | (with_reducible refine LeO.bind ?_ (fun _ => ?_))
   | exact ih0 _ _ _ _ _
   | exact LeO.none _
   | refine LeO.ite ?_ ?_
   | refine LeO.bind ?_ (fun _ => ?_)
set_option maxHeartbeats 8000000 in
set_option maxRecDepth 100000 in
theorem spec_l00Src_amounts.calls (k : Nat) (g : Nat) (s0_0 : List Int) (s0_1 : Int) (s0_2 : Int) (r1 : List Int) (r2 : Int) (r3 : Int) (w0 w : World) (hI : IsS80 w0 w g s0_0 s0_1 s0_2) (hB : Below w0.heap.size w0 w) (h : spec_l00Src_amounts.f k s0_0 s0_1 s0_2 = some (r1,r2,r3)) :
  Calls Try.prog 48 #[.pointer (some ⟨g,0,none⟩)] w fun e w' => ∃ v0_ : Value,e = .returned (v0_) ∧ Kd.R (Kd.int .i64) 3 w' w.heap.size (fun _ => True) v0_ r1 ∧ IsS80 w0 w' g s0_0 r2 r3 ∧ Below w0.heap.size w0 w' ∧ KeepBut w w' g none:=by
 have HI0:=aMk hI
 have HK:=aMk (KeepBut.refl w g none)
 have HL:=aMk hB.size
 clear hI
 have HW0:=aMk hB.size
 have HB:=aMk hB
 clear hB
 have H : ((spec_l00Src_next.f s0_0 s0_1 s0_2 6).bind fun bt251 => (spec_l00Src_amounts.l0 k (([] : List Int)) bt251.1 s0_0 bt251.2.1 bt251.2.2)) = some (r1,r2,r3):=h
 clear h
 obtain ⟨y248,hy248⟩ : ∃ y_ : List Int,y_ = (([] : List Int)):=⟨_,rfl⟩
 replace H : ((spec_l00Src_next.f s0_0 s0_1 s0_2 6).bind fun bt251 => (spec_l00Src_amounts.l0 k y248 bt251.1 s0_0 bt251.2.1 bt251.2.2)) = some (r1,r2,r3):=by first|(rw [hy248];with_reducible exact H)|(have H2_:=(Option.bind_some _ _).symm.trans H;rw [hy248];with_reducible exact H2_)|(have H2_:=(Option.bind_some _ _).symm.trans H;with_reducible exact H2_) | with_reducible exact H|(rw [hy248];exact H)|exact H
 have Ny248:=aMk hy248
 clear hy248
 replace H:=Option.bind_eq_some_iff.mp H
 obtain ⟨⟨t251,t252,t253⟩,A20,H⟩:=H
 replace H : (spec_l00Src_amounts.l0 k y248 t251 s0_0 t252 t253) = some (r1,r2,r3):=H
 have A2:=aMk A20
 clear A20
 have H':=aMk H
 clear H
 go_enter Try.func48,Try.ntmps48
 go_wp2_with (first|((with_reducible refine gate_dst (N:=5) rfl ?_);refine Kd.R_lit (Kd.int .i64) _ 3 ?hg (N:=5) ?hd (xs:=([] : List Int)) (inner:=[]) (ok:=fun _ => True) (okp:=fun _ => True) ?hr ?hp (fun _ hk => hk) trivial (Below.refl _ _) (Nat.le_refl _) (by simp) ?_;(case hd => rfl);(case hg => rfl);(case hr => first|(go_simp;done)|(go_simp;rfl));(case hp => exact (Reps.none _ _));intro v249 w3 ho4 hb hg_ hnew_;clear hg_ hnew_;(first|rw [← Ny248.out] at ho4|(simp only [Int.reduceToNat] at ho4;rw [← Ny248.out] at ho4));have n0_:=aMk (Kd.R_lower ho4 (keep_size (w:=w) (g:=g) (row:=none) (by repeat (first|(with_reducible first|exact HK.out|apply KeepBut.set_|apply keep_drewN|apply keep_drew|apply keep_alloc)|exact HK.out))));have n1_:=aMk (IsS80.below (by repeat (first|(with_reducible first|exact HI0.out|apply IsS80.alloc|apply IsS80.drewN|apply IsS80.drew|apply IsS80.set_1|apply IsS80.set_2)|exact HI0.out)) hb);have n2_:=aMk (KeepBut.trans (by repeat (first|(with_reducible first|exact HK.out|apply KeepBut.set_|apply keep_drewN|apply keep_drew|apply keep_alloc)|exact HK.out)) (KeepBut.of_below hb g none) (.inl rfl));have n3_:=aMk (below_step (by repeat (first|(with_reducible first|exact HB.out|apply bwA|apply bwN|apply bw1|refine below_set ?_ (IsS80.ge HI0.out))|exact HB.out)) hb);clear HI0;clear HK;clear HB;have HO250:=n0_;have HI0:=n1_;have HK:=n2_;have HB:=n3_;clear n0_ n1_ n2_ n3_;clear hb ho4)|((with_reducible refine gate_callee (f:=67) rfl ?_);refine gLs 7 Try.func67 #[.pointer (some ⟨g,0,none⟩),.int .i64 6] ?_;(with_reducible refine (spec_l00Src_next.calls g s0_0 s0_1 s0_2 6 t251 t252 t253 w0 _ ?side1 ?side2 A2.out).mono ?_);(case side1 => repeat (first|(with_reducible first|exact HI0.out|apply IsS80.alloc|apply IsS80.drewN|apply IsS80.drew|apply IsS80.set_1|apply IsS80.set_2)|exact HI0.out));(case side2 => repeat (first|(with_reducible first|exact HB.out|apply bwA|apply bwN|apply bw1|refine below_set ?_ (IsS80.ge HI0.out))|exact HB.out));rintro e w5 ⟨rfl,hi,hb,hk⟩;refine ⟨_,rfl,?_⟩;have n0_:=aMk (Kd.R_mono (Kd.R_keep (IsS80.apart (show IsS80 w0 _ g s0_0 s0_1 s0_2 from by repeat (first|(with_reducible first|exact HI0.out|apply IsS80.alloc|apply IsS80.drewN|apply IsS80.drew|apply IsS80.set_1|apply IsS80.set_2)|exact HI0.out)) (by (with_reducible repeat (first|apply Kd.R_alloc|apply Kd.R_drewN|apply Kd.R_drew));exact HO250.out) (by decide)) hk (fun _ h => h.2)) (fun _ h => h.1));have n1_:=aMk (KeepBut.trans (by repeat (first|(with_reducible first|exact HK.out|apply KeepBut.set_|apply keep_drewN|apply keep_drew|apply keep_alloc)|exact HK.out)) hk (.inl rfl));have n2_:=aMk (hb);have n3_:=aMk (hi);clear HO250;clear HK;clear HB;clear HI0;have HO250:=n0_;have HK:=n1_;have HB:=n2_;have HI0:=n3_;clear n0_ n1_ n2_ n3_;(try clear hb);(try clear hb2);(try clear hk);(try clear hi)))
 go_loopg [3,4] k (fun kq v3 v4 w' => ∃ (x3_1 : List Int) (x4_1 : Int) (x1001_1 : Int) (x1002_1 : Int),v4 = .int .i64 x4_1 ∧ Aside0 (spec_l00Src_amounts.l0 kq x3_1 x4_1 s0_0 x1001_1 x1002_1 = some (r1,r2,r3)) ∧ Aside0 (kq ≤ k) ∧ Aside0 (Kd.R (Kd.int .i64) 3 w' w.heap.size (fun _ => True) v3 x3_1) ∧ Aside0 (IsS80 w0 w' g s0_0 x1001_1 x1002_1) ∧ Aside0 (KeepBut w w' g none) ∧ Aside0 (Below w0.heap.size w0 w'))
 case atStart => exact ⟨(y248),(t251),(t252),(t253),(by first | rfl|(simp;done)|(simp [*];done)|(simp [ne_nil_b];done)|(simp [ne_nil_b, *];done)),H',⟨Nat.le_refl _⟩,⟨by (with_reducible repeat (first|apply Kd.R_alloc|apply Kd.R_drewN|apply Kd.R_drew));exact HO250.out⟩,⟨by repeat (first|(with_reducible first|exact HI0.out|apply IsS80.alloc|apply IsS80.drewN|apply IsS80.drew|apply IsS80.set_1|apply IsS80.set_2)|exact HI0.out)⟩,⟨by repeat (first|(with_reducible first|exact HK.out|apply KeepBut.set_|apply keep_drewN|apply keep_drew|apply keep_alloc)|exact HK.out)⟩,⟨by repeat (first|(with_reducible first|exact HB.out|apply bwA|apply bwN|apply bw1|refine below_set ?_ (IsS80.ge HI0.out))|exact HB.out)⟩⟩
 case round =>
  clear H'
  try clear p2
  try clear c4
  obtain ⟨x3_1,x4_1,x1001_1,x1002_1,rfl,HA,HK1,HO_3,HI0,HK,HB⟩:=hrel
  cases gk with
  | zero => exact absurd HA.out (by simp [spec_l00Src_amounts.l0])
  | succ k1 =>
   have H:=HA.out
   clear HA
   simp only [spec_l00Src_amounts.l0] at H
   by_cases c6 : x4_1 > 0
   ·rw [if_pos c6] at H
    have c6b0 : decide (0 < x4_1) = true:=decide_eq_true c6
    clear c6
    replace H:=Option.bind_eq_some_iff.mp H
    obtain ⟨⟨t254,t255,t256⟩,A70,H⟩:=H
    replace H : (if x3_1.length < 17592186044416 then (spec_l00Src_amounts.l0 k1 (x3_1 ++ [t254]) (wrap64 (x4_1 - 1)) s0_0 t255 t256) else (none)) = some (r1,r2,r3):=H
    have A7:=aMk A70
    clear A70
    by_cases c8 : x3_1.length < 17592186044416
    ·rw [if_pos c8] at H
     have LMc8:=aMk c8
     clear c8
     obtain ⟨y257,hy257⟩ : ∃ y_ : List Int,y_ = (x3_1 ++ [t254]):=⟨_,rfl⟩
     replace H : (spec_l00Src_amounts.l0 k1 y257 (wrap64 (x4_1 - 1)) s0_0 t255 t256) = some (r1,r2,r3):=by first|(rw [hy257];with_reducible exact H)|(have H2_:=(Option.bind_some _ _).symm.trans H;rw [hy257];with_reducible exact H2_)|(have H2_:=(Option.bind_some _ _).symm.trans H;with_reducible exact H2_) | with_reducible exact H|(rw [hy257];exact H)|exact H
     have Ny257:=aMk hy257
     clear hy257
     have H':=aMk H
     clear H
     go_wp2_with (first|((with_reducible refine gate_callee (f:=68) rfl ?_);refine gLs 14 Try.func68 #[.pointer (some ⟨g,0,none⟩)] ?_;(with_reducible refine (spec_l00Src_amount.calls g s0_0 x1001_1 x1002_1 t254 t255 t256 w0 _ ?side1 ?side2 A7.out).mono ?_);(case side1 => repeat (first|(with_reducible first|exact HI0.out|apply IsS80.alloc|apply IsS80.drewN|apply IsS80.drew|apply IsS80.set_1|apply IsS80.set_2)|exact HI0.out));(case side2 => repeat (first|(with_reducible first|exact HB.out|apply bwA|apply bwN|apply bw1|refine below_set ?_ (IsS80.ge HI0.out))|exact HB.out));rintro e w9 ⟨rfl,hi,hb,hk⟩;refine ⟨_,rfl,?_⟩;have n0_:=aMk (Kd.R_mono (Kd.R_keep (IsS80.apart (show IsS80 w0 _ g s0_0 x1001_1 x1002_1 from by repeat (first|(with_reducible first|exact HI0.out|apply IsS80.alloc|apply IsS80.drewN|apply IsS80.drew|apply IsS80.set_1|apply IsS80.set_2)|exact HI0.out)) (by (with_reducible repeat (first|apply Kd.R_alloc|apply Kd.R_drewN|apply Kd.R_drew));exact HO_3.out) (by decide)) hk (fun _ h => h.2)) (fun _ h => h.1));have n1_:=aMk (KeepBut.trans (by repeat (first|(with_reducible first|exact HK.out|apply KeepBut.set_|apply keep_drewN|apply keep_drew|apply keep_alloc)|exact HK.out)) hk (.inl rfl));have n2_:=aMk (hb);have n3_:=aMk (hi);clear HO_3;clear HK;clear HB;clear HI0;have HO_3:=n0_;have HK:=n1_;have HB:=n2_;have HI0:=n3_;clear n0_ n1_ n2_ n3_;(try clear hb);(try clear hb2);(try clear hk);(try clear hi))|((with_reducible refine gate_builtin (b:=.append) (xs:=#[.tmp 12,.tmp 15]) rfl ?_);at_builtin;refine Kd.R_append (Kd.int .i64) w.heap.size rfl (.tmp 12) (.tmp 15) 22 3 (.int .i64 0) 8 rfl Try.underlying22 info3 rfl (by decide) (by omega) u3 x3_1 t254 [.int .i64 t254] (fun _ => True) (fun _ => False) rfl rfl ?aP (fun _ hk => hk.elim) ?aF ?aO (Below.refl _ _) ?aS ?aL ?_;(case aP => exact rfl);(case aF => exact (fun _ _ => trivial));(case aO => exact (by (with_reducible repeat (first|apply Kd.R_alloc|apply Kd.R_drewN|apply Kd.R_drew));exact HO_3.out));(case aS => exact (keep_size (w:=w) (g:=g) (row:=none) (by repeat (first|(with_reducible first|exact HK.out|apply KeepBut.set_|apply keep_drewN|apply keep_drew|apply keep_alloc)|exact HK.out))));(case aL => have:=LMc8.out;omega);intro v258 w10 ho hb hg hat;rw [← Ny257.out] at ho;have n0_:=aMk (IsS80.grown (by repeat (first|(with_reducible first|exact HI0.out|apply IsS80.alloc|apply IsS80.drewN|apply IsS80.drew|apply IsS80.set_1|apply IsS80.set_2)|exact HI0.out)) hg (IsS80.own_ne HI0.out HO_3.out (by decide)));have n1_:=aMk (below_weaken (by repeat (first|(with_reducible first|exact HB.out|apply bwA|apply bwN|apply bw1|refine below_set ?_ (IsS80.ge HI0.out))|exact HB.out)) HL.out hb);have n2_:=aMk (KeepBut.trans (by repeat (first|(with_reducible first|exact HK.out|apply KeepBut.set_|apply keep_drewN|apply keep_drew|apply keep_alloc)|exact HK.out)) (KeepBut.of_grown hg g) (Kd.R_base2 HO_3.out));have n3_:=aMk (ho);clear HI0;clear HB;clear HK;clear HO_3;have HI0:=n0_;have HB:=n1_;have HK:=n2_;have HO259:=n3_;clear n0_ n1_ n2_ n3_;clear ho hb hg hat))
     go_roundg k1
     case measure => have:=HK1.out;omega
     case rel => exact ⟨(y257),(wrap64 (x4_1 - 1)),(t255),(t256),(by first | rfl|(simp;done)|(simp [*];done)|(simp [ne_nil_b];done)|(simp [ne_nil_b, *];done)),H',⟨by have:=HK1.out;omega⟩,⟨by (with_reducible repeat (first|apply Kd.R_alloc|apply Kd.R_drewN|apply Kd.R_drew));exact HO259.out⟩,⟨by repeat (first|(with_reducible first|exact HI0.out|apply IsS80.alloc|apply IsS80.drewN|apply IsS80.drew|apply IsS80.set_1|apply IsS80.set_2)|exact HI0.out)⟩,⟨by repeat (first|(with_reducible first|exact HK.out|apply KeepBut.set_|apply keep_drewN|apply keep_drew|apply keep_alloc)|exact HK.out)⟩,⟨by repeat (first|(with_reducible first|exact HB.out|apply bwA|apply bwN|apply bw1|refine below_set ?_ (IsS80.ge HI0.out))|exact HB.out)⟩⟩
    ·rw [if_neg c8] at H
     exact absurd H (by simp)
   ·rw [if_neg c6] at H
    have c6b0 : decide (0 < x4_1) = false:=decide_eq_false c6
    clear c6
    simp only [Option.some.injEq,Prod.mk.injEq] at H
    obtain ⟨rfl,rfl,rfl⟩:=H
    go_wp2
    go_ret
    exact ⟨_,by first | rfl|(simp [errW_none,errW_some] <;> rfl)|(simp [*,errW_none,errW_some] <;> rfl),by (with_reducible repeat (first|apply Kd.R_alloc|apply Kd.R_drewN|apply Kd.R_drew));exact HO_3.out,by repeat (first|(with_reducible first|exact HI0.out|apply IsS80.alloc|apply IsS80.drewN|apply IsS80.drew|apply IsS80.set_1|apply IsS80.set_2)|exact HI0.out),by repeat (first|(with_reducible first|exact HB.out|apply bwA|apply bwN|apply bw1|refine below_set ?_ (IsS80.ge HI0.out))|exact HB.out),by repeat (first|(with_reducible first|exact HK.out|apply KeepBut.set_|apply keep_drewN|apply keep_drew|apply keep_alloc)|exact HK.out)⟩
end
section
/-! ### spec_AmountsOf: function 18 -/
def spec_AmountsOf.f (k : Nat) (l0 : List Int) : Option (List Int):=(spec_l00Source.f l0).bind fun bt260 => ((spec_l00Src_amounts.f k bt260.1 bt260.2.1 bt260.2.2).bind fun bt264 => (some bt264.1))
theorem spec_AmountsOf.mono : ∀ a0 k,LeO (spec_AmountsOf.f k a0) (spec_AmountsOf.f (k + 1) a0):=by
 intro a0 k
 unfold spec_AmountsOf.f
 repeat' first
   | (with_reducible exact spec_l00Src_amounts.mono ..)
   | (with_reducible exact LeO.refl _)
   | (with_reducible exact LeO.none _)
   | (with_reducible refine LeO.ite ?_ ?_)
   | (with_reducible refine LeO.bind ?_ (fun _ => ?_))
   | exact spec_l00Src_amounts.mono ..
   | exact LeO.none _
   | refine LeO.ite ?_ ?_
   | refine LeO.bind ?_ (fun _ => ?_)
set_option maxHeartbeats 8000000 in
set_option maxRecDepth 100000 in
theorem spec_AmountsOf.calls (k : Nat) (A0 : Option Addr) (c0 : Nat) (l0 : List Int) (r : List Int) (w : World) (hr0 : Kd.C (Kd.int .u8) w A0 l0.length l0) (hc0 : l0.length ≤ c0) (h : spec_AmountsOf.f k l0 = some r) :
  Calls Try.prog 18 #[.slice A0 l0.length c0] w fun e w' => ∃ v0_ : Value,e = .returned (v0_) ∧ Kd.R (Kd.int .i64) 3 w' w.heap.size (fun _ => True) v0_ r ∧ Below w.heap.size w w':=by
 have HR0:=aMk hr0
 have HC0:=aMk hc0
 clear hr0 hc0
 have HB:=aMk (Below.refl w.heap.size w)
 have H : ((spec_l00Source.f l0).bind fun bt260 => ((spec_l00Src_amounts.f k bt260.1 bt260.2.1 bt260.2.2).bind fun bt264 => (some bt264.1))) = some r:=h
 clear h
 replace H:=Option.bind_eq_some_iff.mp H
 obtain ⟨⟨t260,t261,t262⟩,A20,H⟩:=H
 replace H : ((spec_l00Src_amounts.f k t260 t261 t262).bind fun bt264 => (some bt264.1)) = some r:=H
 have A2:=aMk A20
 clear A20
 replace H:=Option.bind_eq_some_iff.mp H
 obtain ⟨⟨t264,t267,t268⟩,A30,H⟩:=H
 replace H : (some t264) = some r:=H
 have A3:=aMk A30
 clear A30
 obtain rfl:=Option.some.inj H
 go_enter Try.func18,Try.ntmps18
 go_wp2_with (first|((with_reducible refine gate_callee (f:=47) rfl ?_);refine gLs 4 Try.func47 #[.slice A0 l0.length c0] ?_;(with_reducible refine (spec_l00Source.calls _ _ l0 t260 t261 t262 w _ ?side1 ?side2 ?side3 A2.out).mono ?_);(case side1 => repeat (first|(with_reducible first|exact HB.out|apply bwA|apply bwN|apply bw1)|exact HB.out));(case side2 => exact HR0.out);(case side3 => exact HC0.out);rintro e w4 ⟨g263,rfl,hi,hb,hb2⟩;refine ⟨_,rfl,?_⟩;have n0_:=aMk (hb);have n1_:=aMk (hi);clear HB;have HB:=n0_;have HI263:=n1_;clear n0_ n1_;(try clear hb);(try clear hb2);(try clear hk);(try clear hi))|((with_reducible refine gate_callee (f:=48) rfl ?_);refine gLs 5 Try.func48 #[.pointer (some ⟨g263,0,none⟩)] ?_;(with_reducible refine (spec_l00Src_amounts.calls k g263 t260 t261 t262 t264 t267 t268 w _ ?side1 ?side2 A3.out).mono ?_);(case side1 => repeat (first|(with_reducible first|exact HI263.out|apply IsS80.alloc|apply IsS80.drewN|apply IsS80.drew|apply IsS80.set_1|apply IsS80.set_2)|exact HI263.out));(case side2 => repeat (first|(with_reducible first|exact HB.out|apply bwA|apply bwN|apply bw1|refine below_set ?_ (IsS80.ge HI263.out))|exact HB.out));rintro e w5 ⟨v265,rfl,ho0,hi,hb,hk⟩;refine ⟨_,rfl,?_⟩;have n0_:=aMk (Kd.R_lower ho0 (below_size (by repeat (first|(with_reducible first|exact HB.out|apply bwA|apply bwN|apply bw1|refine below_set ?_ (IsS80.ge HI263.out))|exact HB.out))));have n1_:=aMk (hb);have n2_:=aMk (hi);clear HB;clear HI263;have HO266:=n0_;have HB:=n1_;have HI263:=n2_;clear n0_ n1_ n2_;(try clear hb);(try clear hb2);(try clear hk);(try clear hi);(try clear ho0)))
 go_ret
 exact ⟨_,by first | rfl|(simp [errW_none,errW_some] <;> rfl)|(simp [*,errW_none,errW_some] <;> rfl),by (with_reducible repeat (first|apply Kd.R_alloc|apply Kd.R_drewN|apply Kd.R_drew));exact HO266.out,by repeat (first|(with_reducible first|exact HB.out|apply bwA|apply bwN|apply bw1|refine below_set ?_ (IsS80.ge HI263.out))|exact HB.out)⟩
end
section
/-! ### impl_isAmount: function 39 -/
def impl_isAmount.f (a0 : Int) : Option (Bool):=(impl_within.f a0 (-1000000000) 1000000000).bind fun t111 => (some t111)
set_option maxHeartbeats 8000000 in
set_option maxRecDepth 100000 in
theorem impl_isAmount.calls (a0 : Int) (r : Bool) (w : World) (h : impl_isAmount.f a0 = some r) :
  Calls Try.prog 39 #[.int .i64 a0] w fun e w' => e = .returned (.bool r) ∧ Drawn0 w w':=by
 have H : ((impl_within.f a0 (-1000000000) 1000000000).bind fun t111 => (some t111)) = some r:=h
 clear h
 replace H:=Option.bind_eq_some_iff.mp H
 obtain ⟨t111,A20,H⟩:=H
 replace H : (some t111) = some r:=H
 have A2:=aMk A20
 clear A20
 obtain rfl:=Option.some.inj H
 go_enter Try.func39,Try.ntmps39
 go_wp2_with (first|((with_reducible refine gate_callee (f:=59) rfl ?_);refine gLs 4 Try.func59 #[.int .i64 a0,.int .i64 (-1000000000),.int .i64 1000000000] ?_;(with_reducible refine (impl_within.calls a0 (-1000000000) 1000000000 t111 _ A2.out).mono ?_);rintro e w' ⟨rfl,⟨nd,rfl⟩⟩;refine ⟨_,rfl,?_⟩))
 go_ret
 exact ⟨by first | rfl|(simp;done)|(simp [*];done)|(simp [ne_nil_b];done)|(simp [ne_nil_b, *];done),by repeat (first|exact Drawn0.refl _|apply Drawn0.step)⟩
end
section
/-! ### impl_floor: function 40 -/
def impl_floor.f (a0 : Int) (a1 : Int) : Option (Int):=if a1 = 0 then (none) else (if (Int.tmod a0 a1) < 0 then (some (wrap64 ((wrap64 (Int.tdiv a0 a1)) - 1))) else (some (wrap64 (Int.tdiv a0 a1))))
set_option maxHeartbeats 8000000 in
set_option maxRecDepth 100000 in
theorem impl_floor.calls (a0 : Int) (a1 : Int) (r : Int) (w : World) (h : impl_floor.f a0 a1 = some r) :
  Calls Try.prog 40 #[.int .i64 a0,.int .i64 a1] w fun e w' => e = .returned (.int .i64 r) ∧ Drawn0 w w':=by
 have H : (if a1 = 0 then (none) else (if (Int.tmod a0 a1) < 0 then (some (wrap64 ((wrap64 (Int.tdiv a0 a1)) - 1))) else (some (wrap64 (Int.tdiv a0 a1))))) = some r:=h
 clear h
 by_cases c3 : a1 = 0
 ·rw [if_pos c3] at H
  exact absurd H (by simp)
 ·rw [if_neg c3] at H
  have c3b0 : (a1 == 0) = false:=beq_eq_false_iff_ne.mpr c3
  have c3b1 : (a1 != 0) = true:=bne_iff_ne.mpr c3
  by_cases c4 : (Int.tmod a0 a1) < 0
  ·rw [if_pos c4] at H
   have c4b0 : decide ((Int.tmod a0 a1) < 0) = true:=decide_eq_true c4
   clear c4
   obtain rfl:=Option.some.inj H
   go_enter Try.func40,Try.ntmps40
   go_wp2
   go_ret
   exact ⟨by first | rfl|(simp;done)|(simp [*];done)|(simp [ne_nil_b];done)|(simp [ne_nil_b, *];done),by repeat (first|exact Drawn0.refl _|apply Drawn0.step)⟩
  ·rw [if_neg c4] at H
   have c4b0 : decide ((Int.tmod a0 a1) < 0) = false:=decide_eq_false c4
   clear c4
   obtain rfl:=Option.some.inj H
   go_enter Try.func40,Try.ntmps40
   go_wp2
   go_ret
   exact ⟨by first | rfl|(simp;done)|(simp [*];done)|(simp [ne_nil_b];done)|(simp [ne_nil_b, *];done),by repeat (first|exact Drawn0.refl _|apply Drawn0.step)⟩
end
section
theorem eqA39 (d : Nat) (w : World) (x0 y0 : Int) (x1 y1 : Int) (x2 y2 : Int) (x3 y3 : Int) :
  (Op.equalIn (d + 2) 39 (.agg #[.int .i64 x0,.int .i64 x1,.int .i64 x2,.int .i64 x3]) (.agg #[.int .i64 y0,.int .i64 y1,.int .i64 y2,.int .i64 y3])).run Try.prog w = .ok (x0 == y0 && (x1 == y1 && (x2 == y2 && (x3 == y3)))) w:=by
 refine eqA_of Try.underlying39 (by kernel_rfl) ?_
 refine eqf_cons (by rfl) (by go_simp;rfl) (by go_simp;rfl) (by go_simp) ?_
 refine eqf_cons (by rfl) (by go_simp;rfl) (by go_simp;rfl) (by go_simp) ?_
 refine eqf_cons (by rfl) (by go_simp;rfl) (by go_simp;rfl) (by go_simp) ?_
 exact eqf_last (by rfl) (by go_simp;rfl) (by go_simp;rfl) (by go_simp)
end
section
attribute [local go_sem high] eqA39
/-! ### impl_meterOK: function 49 -/
def impl_meterOK.f (a0_0 : Int) (a0_1 : Int) (a0_2 : Int) (a0_3 : Int) : Option (Bool):=if (a0_0 == 0 && (a0_1 == 0 && (a0_2 == 0 && (a0_3 == 0)))) = true then (some true) else ((impl_within.f a0_3 1 1000000).bind fun t270 => (if t270 = true then ((impl_isAmount.f a0_1).bind fun t271 => (if t271 = true then ((impl_isAmount.f a0_2).bind fun t272 => (if t272 = true then ((impl_within.f a0_0 a0_1 a0_2).bind fun t273 => (some t273)) else (some false))) else (some false))) else (some false)))
set_option maxHeartbeats 8000000 in
set_option maxRecDepth 100000 in
theorem impl_meterOK.calls (a0_0 : Int) (a0_1 : Int) (a0_2 : Int) (a0_3 : Int) (r : Bool) (w : World) (h : impl_meterOK.f a0_0 a0_1 a0_2 a0_3 = some r) :
  Calls Try.prog 49 #[.agg #[.int .i64 a0_0,.int .i64 a0_1,.int .i64 a0_2,.int .i64 a0_3]] w fun e w' => e = .returned (.bool r) ∧ Below w.heap.size w w':=by
 have hu39:=Try.underlying39
 have HB:=aMk (Below.refl w.heap.size w)
 have H : (if (a0_0 == 0 && (a0_1 == 0 && (a0_2 == 0 && (a0_3 == 0)))) = true then (some true) else ((impl_within.f a0_3 1 1000000).bind fun t270 => (if t270 = true then ((impl_isAmount.f a0_1).bind fun t271 => (if t271 = true then ((impl_isAmount.f a0_2).bind fun t272 => (if t272 = true then ((impl_within.f a0_0 a0_1 a0_2).bind fun t273 => (some t273)) else (some false))) else (some false))) else (some false)))) = some r:=h
 clear h
 by_cases c2 : (a0_0 == 0 && (a0_1 == 0 && (a0_2 == 0 && (a0_3 == 0)))) = true
 ·rw [if_pos c2] at H
  have c2b0 : (a0_0 == 0 && (a0_1 == 0 && (a0_2 == 0 && (a0_3 == 0)))) = true:=c2
  (try (have c2b1 : decide (a0_0 = 0 && (a0_1 == 0 && (a0_2 == 0 && (a0_3 == 0)))) = true:=by simpa using c2))
  (try (have c2b2 : (a0_0 == 0 && (a0_1 == 0 && (a0_2 == 0 && (a0_3 == 0)))) = true:=by simpa using c2))
  clear c2
  obtain rfl:=Option.some.inj H
  go_enter Try.func49,Try.ntmps49
  go_wp2_with (first|((with_reducible refine gate_dst (N:=1) rfl ?_);refine bxE (N:=1) (cs:=#[.int .i64 a0_0,.int .i64 a0_1,.int .i64 a0_2,.int .i64 a0_3]) (t:=39) ?_;intro gb269 hg w3 hbox hb;have n0_:=aMk (bSt hb);have n1_:=aMk (hbox);have n2_:=aMk ((by rw [hg];exact bSz : w.heap.size ≤ gb269));have n3_:=aMk ((by rw [hg];exact bSz : w.heap.size ≤ gb269));clear HB;have HB:=n0_;have BK269:=n1_;have GW269:=n2_;have GE269:=n3_;clear n0_ n1_ n2_ n3_;clear hb hbox hg;obtain ⟨hcz4_0,hcz4_1,hcz4_2,hcz4_3,hfz4_0,hfz4_1,hfz4_2,hfz4_3⟩:=bC4 BK269.out))
  go_ret
  exact ⟨eRf,by repeat (first|(with_reducible first|exact HB.out|apply bwA|apply bwN|apply bw1|refine below_set ?_ GE269.out)|exact HB.out)⟩
 ·rw [if_neg c2] at H
  have c2b0 : (a0_0 == 0 && (a0_1 == 0 && (a0_2 == 0 && (a0_3 == 0)))) = false:=by simpa using c2
  (try (have c2b1 : decide (a0_0 = 0 && (a0_1 == 0 && (a0_2 == 0 && (a0_3 == 0)))) = false:=by simpa using c2))
  (try (have c2b2 : (a0_0 == 0 && (a0_1 == 0 && (a0_2 == 0 && (a0_3 == 0)))) = false:=by simpa using c2))
  (try (have c2b3 : ¬ (a0_0 = 0 && (a0_1 == 0 && (a0_2 == 0 && (a0_3 == 0)))):=by simpa using c2))
  clear c2
  replace H:=Option.bind_eq_some_iff.mp H
  obtain ⟨t270,A50,H⟩:=H
  replace H : (if t270 = true then ((impl_isAmount.f a0_1).bind fun t271 => (if t271 = true then ((impl_isAmount.f a0_2).bind fun t272 => (if t272 = true then ((impl_within.f a0_0 a0_1 a0_2).bind fun t273 => (some t273)) else (some false))) else (some false))) else (some false)) = some r:=H
  have A5:=aMk A50
  clear A50
  by_cases c6 : t270 = true
  ·subst c6
   have H1 : ((impl_isAmount.f a0_1).bind fun t271 => (if t271 = true then ((impl_isAmount.f a0_2).bind fun t272 => (if t272 = true then ((impl_within.f a0_0 a0_1 a0_2).bind fun t273 => (some t273)) else (some false))) else (some false))) = some r:=by rw [if_pos rfl] at H;exact H
   clear H
   have H:=H1
   clear H1
   replace H:=Option.bind_eq_some_iff.mp H
   obtain ⟨t271,A70,H⟩:=H
   replace H : (if t271 = true then ((impl_isAmount.f a0_2).bind fun t272 => (if t272 = true then ((impl_within.f a0_0 a0_1 a0_2).bind fun t273 => (some t273)) else (some false))) else (some false)) = some r:=H
   have A7:=aMk A70
   clear A70
   by_cases c8 : t271 = true
   ·subst c8
    have H1 : ((impl_isAmount.f a0_2).bind fun t272 => (if t272 = true then ((impl_within.f a0_0 a0_1 a0_2).bind fun t273 => (some t273)) else (some false))) = some r:=by rw [if_pos rfl] at H;exact H
    clear H
    have H:=H1
    clear H1
    replace H:=Option.bind_eq_some_iff.mp H
    obtain ⟨t272,A90,H⟩:=H
    replace H : (if t272 = true then ((impl_within.f a0_0 a0_1 a0_2).bind fun t273 => (some t273)) else (some false)) = some r:=H
    have A9:=aMk A90
    clear A90
    by_cases c10 : t272 = true
    ·subst c10
     have H1 : ((impl_within.f a0_0 a0_1 a0_2).bind fun t273 => (some t273)) = some r:=by rw [if_pos rfl] at H;exact H
     clear H
     have H:=H1
     clear H1
     replace H:=Option.bind_eq_some_iff.mp H
     obtain ⟨t273,A110,H⟩:=H
     replace H : (some t273) = some r:=H
     have A11:=aMk A110
     clear A110
     obtain rfl:=Option.some.inj H
     go_enter Try.func49,Try.ntmps49
     go_wp2_with (first|((with_reducible refine gate_dst (N:=1) rfl ?_);refine bxE (N:=1) (cs:=#[.int .i64 a0_0,.int .i64 a0_1,.int .i64 a0_2,.int .i64 a0_3]) (t:=39) ?_;intro gb269 hg w12 hbox hb;have n0_:=aMk (bSt hb);have n1_:=aMk (hbox);have n2_:=aMk ((by rw [hg];exact bSz : w.heap.size ≤ gb269));have n3_:=aMk ((by rw [hg];exact bSz : w.heap.size ≤ gb269));clear HB;have HB:=n0_;have BK269:=n1_;have GW269:=n2_;have GE269:=n3_;clear n0_ n1_ n2_ n3_;clear hb hbox hg;obtain ⟨hcz13_0,hcz13_1,hcz13_2,hcz13_3,hfz13_0,hfz13_1,hfz13_2,hfz13_3⟩:=bC4 BK269.out)|((with_reducible refine gate_callee (f:=59) rfl ?_);refine gLs 8 Try.func59 #[.int .i64 a0_3,.int .i64 1,.int .i64 1000000] ?_;(with_reducible refine (impl_within.calls a0_3 1 1000000 true _ A5.out).mono ?_);rintro e w' ⟨rfl,⟨nd,rfl⟩⟩;refine ⟨_,rfl,?_⟩)|(go_at_call 39;(with_reducible refine (impl_isAmount.calls a0_1 true _ A7.out).mono ?_);rintro e w' ⟨rfl,⟨nd,rfl⟩⟩)|(go_at_call 39;(with_reducible refine (impl_isAmount.calls a0_2 true _ A9.out).mono ?_);rintro e w' ⟨rfl,⟨nd,rfl⟩⟩)|(go_at_call 59;(with_reducible refine (impl_within.calls a0_0 a0_1 a0_2 t273 _ A11.out).mono ?_);rintro e w' ⟨rfl,⟨nd,rfl⟩⟩))
     go_ret
     exact ⟨eRf,by repeat (first|(with_reducible first|exact HB.out|apply bwA|apply bwN|apply bw1|refine below_set ?_ GE269.out)|exact HB.out)⟩
    ·replace c10:=Bool.eq_false_iff.mpr c10
     subst c10
     have H1 : (some false) = some r:=by rw [if_neg (show ¬ (false = true) by decide)] at H;exact H
     clear H
     have H:=H1
     clear H1
     obtain rfl:=Option.some.inj H
     go_enter Try.func49,Try.ntmps49
     go_wp2_with (first|((with_reducible refine gate_dst (N:=1) rfl ?_);refine bxE (N:=1) (cs:=#[.int .i64 a0_0,.int .i64 a0_1,.int .i64 a0_2,.int .i64 a0_3]) (t:=39) ?_;intro gb269 hg w14 hbox hb;have n0_:=aMk (bSt hb);have n1_:=aMk (hbox);have n2_:=aMk ((by rw [hg];exact bSz : w.heap.size ≤ gb269));have n3_:=aMk ((by rw [hg];exact bSz : w.heap.size ≤ gb269));clear HB;have HB:=n0_;have BK269:=n1_;have GW269:=n2_;have GE269:=n3_;clear n0_ n1_ n2_ n3_;clear hb hbox hg;obtain ⟨hcz15_0,hcz15_1,hcz15_2,hcz15_3,hfz15_0,hfz15_1,hfz15_2,hfz15_3⟩:=bC4 BK269.out)|((with_reducible refine gate_callee (f:=59) rfl ?_);refine gLs 8 Try.func59 #[.int .i64 a0_3,.int .i64 1,.int .i64 1000000] ?_;(with_reducible refine (impl_within.calls a0_3 1 1000000 true _ A5.out).mono ?_);rintro e w' ⟨rfl,⟨nd,rfl⟩⟩;refine ⟨_,rfl,?_⟩)|(go_at_call 39;(with_reducible refine (impl_isAmount.calls a0_1 true _ A7.out).mono ?_);rintro e w' ⟨rfl,⟨nd,rfl⟩⟩)|(go_at_call 39;(with_reducible refine (impl_isAmount.calls a0_2 false _ A9.out).mono ?_);rintro e w' ⟨rfl,⟨nd,rfl⟩⟩))
     go_ret
     exact ⟨eRf,by repeat (first|(with_reducible first|exact HB.out|apply bwA|apply bwN|apply bw1|refine below_set ?_ GE269.out)|exact HB.out)⟩
   ·replace c8:=Bool.eq_false_iff.mpr c8
    subst c8
    have H1 : (some false) = some r:=by rw [if_neg (show ¬ (false = true) by decide)] at H;exact H
    clear H
    have H:=H1
    clear H1
    obtain rfl:=Option.some.inj H
    go_enter Try.func49,Try.ntmps49
    go_wp2_with (first|((with_reducible refine gate_dst (N:=1) rfl ?_);refine bxE (N:=1) (cs:=#[.int .i64 a0_0,.int .i64 a0_1,.int .i64 a0_2,.int .i64 a0_3]) (t:=39) ?_;intro gb269 hg w16 hbox hb;have n0_:=aMk (bSt hb);have n1_:=aMk (hbox);have n2_:=aMk ((by rw [hg];exact bSz : w.heap.size ≤ gb269));have n3_:=aMk ((by rw [hg];exact bSz : w.heap.size ≤ gb269));clear HB;have HB:=n0_;have BK269:=n1_;have GW269:=n2_;have GE269:=n3_;clear n0_ n1_ n2_ n3_;clear hb hbox hg;obtain ⟨hcz17_0,hcz17_1,hcz17_2,hcz17_3,hfz17_0,hfz17_1,hfz17_2,hfz17_3⟩:=bC4 BK269.out)|((with_reducible refine gate_callee (f:=59) rfl ?_);refine gLs 8 Try.func59 #[.int .i64 a0_3,.int .i64 1,.int .i64 1000000] ?_;(with_reducible refine (impl_within.calls a0_3 1 1000000 true _ A5.out).mono ?_);rintro e w' ⟨rfl,⟨nd,rfl⟩⟩;refine ⟨_,rfl,?_⟩)|(go_at_call 39;(with_reducible refine (impl_isAmount.calls a0_1 false _ A7.out).mono ?_);rintro e w' ⟨rfl,⟨nd,rfl⟩⟩))
    go_ret
    exact ⟨eRf,by repeat (first|(with_reducible first|exact HB.out|apply bwA|apply bwN|apply bw1|refine below_set ?_ GE269.out)|exact HB.out)⟩
  ·replace c6:=Bool.eq_false_iff.mpr c6
   subst c6
   have H1 : (some false) = some r:=by rw [if_neg (show ¬ (false = true) by decide)] at H;exact H
   clear H
   have H:=H1
   clear H1
   obtain rfl:=Option.some.inj H
   go_enter Try.func49,Try.ntmps49
   go_wp2_with (first|((with_reducible refine gate_dst (N:=1) rfl ?_);refine bxE (N:=1) (cs:=#[.int .i64 a0_0,.int .i64 a0_1,.int .i64 a0_2,.int .i64 a0_3]) (t:=39) ?_;intro gb269 hg w18 hbox hb;have n0_:=aMk (bSt hb);have n1_:=aMk (hbox);have n2_:=aMk ((by rw [hg];exact bSz : w.heap.size ≤ gb269));have n3_:=aMk ((by rw [hg];exact bSz : w.heap.size ≤ gb269));clear HB;have HB:=n0_;have BK269:=n1_;have GW269:=n2_;have GE269:=n3_;clear n0_ n1_ n2_ n3_;clear hb hbox hg;obtain ⟨hcz19_0,hcz19_1,hcz19_2,hcz19_3,hfz19_0,hfz19_1,hfz19_2,hfz19_3⟩:=bC4 BK269.out)|((with_reducible refine gate_callee (f:=59) rfl ?_);refine gLs 8 Try.func59 #[.int .i64 a0_3,.int .i64 1,.int .i64 1000000] ?_;(with_reducible refine (impl_within.calls a0_3 1 1000000 false _ A5.out).mono ?_);rintro e w' ⟨rfl,⟨nd,rfl⟩⟩;refine ⟨_,rfl,?_⟩))
   go_ret
   exact ⟨eRf,by repeat (first|(with_reducible first|exact HB.out|apply bwA|apply bwN|apply bw1|refine below_set ?_ GE269.out)|exact HB.out)⟩
end
section
/-! ### impl_MeterAdd: function 19 -/
def impl_MeterAdd.f (a0_0 : Int) (a0_1 : Int) (a0_2 : Int) (a0_3 : Int) (a1 : Int) : Option (Int × Int × Int × Int × Int):=(impl_meterOK.f a0_0 a0_1 a0_2 a0_3).bind fun t276 => (if t276 = true then ((impl_isAmount.f a1).bind fun t277 => (if t277 = true then (if a0_3 = 0 then (some (a1,a1,a1,1,0)) else ((impl_floor.f (wrap64 (a1 - a0_0)) 4).bind fun t278 => (some (wrap64 (a0_0 + t278),mn a0_1 a1,mx a0_2 a1,mn (wrap64 (a0_3 + 1)) 1000000,0)))) else (some (0,0,0,0,4)))) else (some (0,0,0,0,1)))
def impl_MeterAdd.T7 : Bool × List (List Nat × List Nat):=(true,[([],[]),([0],[0]),([],[]),([],[]),([3],[3]),([2,4],[2,4]),([5],[5]),([1,6],[1,6]),([],[]),([8],[8]),([],[]),([9,10],[9,10]),([],[]),([12],[12]),([],[]),([13,14],[13,14]),([],[]),([16],[16]),([17],[17]),([18],[18]),([7,11,15,19],[7,11,15,19]),([20,6,0,1,2,3,4,5,6,7,8,9,10,11,12,13,14,15,16,17,18,19,20],[20]),([21,0,1,2,3,4,5,6,7,8,9,10,11,12,13,14,15,16,17,18,19,20,21],[])])
def impl_MeterAdd.B7 : List Nat:=[0,1,0,0,8,28,60,127,0,256,0,1792,0,4096,0,28672,0,65536,196608,458752,1048575,2097151,4194303]
theorem impl_MeterAdd.tab7 : rtab .any (opsOf Try.f19 7) = impl_MeterAdd.T7:=by kernel_rfl
theorem impl_MeterAdd.bits7 : waitsOk impl_MeterAdd.T7.2 impl_MeterAdd.B7 = true:=by kernel_rfl
set_option maxHeartbeats 8000000 in
set_option maxRecDepth 100000 in
theorem impl_MeterAdd.calls (a0_0 : Int) (a0_1 : Int) (a0_2 : Int) (a0_3 : Int) (a1 : Int) (r1 : Int) (r2 : Int) (r3 : Int) (r4 : Int) (r5 : Int) (w : World) (h : impl_MeterAdd.f a0_0 a0_1 a0_2 a0_3 a1 = some (r1,r2,r3,r4,r5)) :
  Calls Try.prog 19 #[.agg #[.int .i64 a0_0,.int .i64 a0_1,.int .i64 a0_2,.int .i64 a0_3],.int .i64 a1] w fun e w' => e = .returned (.tuple #[.agg #[.int .i64 r1,.int .i64 r2,.int .i64 r3,.int .i64 r4],.int .i64 r5]) ∧ Below w.heap.size w w':=by
 have hu39:=Try.underlying39
 have HB:=aMk (Below.refl w.heap.size w)
 have H : ((impl_meterOK.f a0_0 a0_1 a0_2 a0_3).bind fun t276 => (if t276 = true then ((impl_isAmount.f a1).bind fun t277 => (if t277 = true then (if a0_3 = 0 then (some (a1,a1,a1,1,0)) else ((impl_floor.f (wrap64 (a1 - a0_0)) 4).bind fun t278 => (some (wrap64 (a0_0 + t278),mn a0_1 a1,mx a0_2 a1,mn (wrap64 (a0_3 + 1)) 1000000,0)))) else (some (0,0,0,0,4)))) else (some (0,0,0,0,1)))) = some (r1,r2,r3,r4,r5):=h
 clear h
 replace H:=Option.bind_eq_some_iff.mp H
 obtain ⟨t276,A30,H⟩:=H
 replace H : (if t276 = true then ((impl_isAmount.f a1).bind fun t277 => (if t277 = true then (if a0_3 = 0 then (some (a1,a1,a1,1,0)) else ((impl_floor.f (wrap64 (a1 - a0_0)) 4).bind fun t278 => (some (wrap64 (a0_0 + t278),mn a0_1 a1,mx a0_2 a1,mn (wrap64 (a0_3 + 1)) 1000000,0)))) else (some (0,0,0,0,4)))) else (some (0,0,0,0,1))) = some (r1,r2,r3,r4,r5):=H
 have A3:=aMk A30
 clear A30
 by_cases c4 : t276 = true
 ·subst c4
  have H1 : ((impl_isAmount.f a1).bind fun t277 => (if t277 = true then (if a0_3 = 0 then (some (a1,a1,a1,1,0)) else ((impl_floor.f (wrap64 (a1 - a0_0)) 4).bind fun t278 => (some (wrap64 (a0_0 + t278),mn a0_1 a1,mx a0_2 a1,mn (wrap64 (a0_3 + 1)) 1000000,0)))) else (some (0,0,0,0,4)))) = some (r1,r2,r3,r4,r5):=by rw [if_pos rfl] at H;exact H
  clear H
  have H:=H1
  clear H1
  replace H:=Option.bind_eq_some_iff.mp H
  obtain ⟨t277,A50,H⟩:=H
  replace H : (if t277 = true then (if a0_3 = 0 then (some (a1,a1,a1,1,0)) else ((impl_floor.f (wrap64 (a1 - a0_0)) 4).bind fun t278 => (some (wrap64 (a0_0 + t278),mn a0_1 a1,mx a0_2 a1,mn (wrap64 (a0_3 + 1)) 1000000,0)))) else (some (0,0,0,0,4))) = some (r1,r2,r3,r4,r5):=H
  have A5:=aMk A50
  clear A50
  by_cases c6 : t277 = true
  ·subst c6
   have H1 : (if a0_3 = 0 then (some (a1,a1,a1,1,0)) else ((impl_floor.f (wrap64 (a1 - a0_0)) 4).bind fun t278 => (some (wrap64 (a0_0 + t278),mn a0_1 a1,mx a0_2 a1,mn (wrap64 (a0_3 + 1)) 1000000,0)))) = some (r1,r2,r3,r4,r5):=by rw [if_pos rfl] at H;exact H
   clear H
   have H:=H1
   clear H1
   by_cases c7 : a0_3 = 0
   ·rw [if_pos c7] at H
    have c7b0 : (a0_3 == 0) = true:=beq_iff_eq.mpr c7
    have c7b1 : (a0_3 != 0) = false:=bne_eq_false_iff_eq.mpr c7
    clear c7
    simp only [Option.some.injEq,Prod.mk.injEq] at H
    obtain ⟨rfl,rfl,rfl,rfl,rfl⟩:=H
    go_enter Try.func19,Try.ntmps19
    go_wp2_with (first|((with_reducible refine gate_dst (N:=2) rfl ?_);refine bxE (N:=2) (cs:=#[.int .i64 a0_0,.int .i64 a0_1,.int .i64 a0_2,.int .i64 a0_3]) (t:=39) ?_;intro gb274 hg w8 hbox hb;have n0_:=aMk (bSt hb);have n1_:=aMk (hbox);have n2_:=aMk ((by rw [hg];exact bSz : w.heap.size ≤ gb274));have n3_:=aMk ((by rw [hg];exact bSz : w.heap.size ≤ gb274));clear HB;have HB:=n0_;have BK274:=n1_;have GW274:=n2_;have GE274:=n3_;clear n0_ n1_ n2_ n3_;clear hb hbox hg)|((with_reducible refine gate_dst (N:=4) rfl ?_);refine bxE (N:=4) (cs:=#[.int .i64 0,.int .i64 0,.int .i64 0,.int .i64 0]) (t:=39) ?_;intro gb275 hg w9 hbox hb;have n0_:=aMk (bkB BK274.out hb);have n1_:=aMk (below_step (by repeat (first|(with_reducible first|exact HB.out|apply bwA|apply bwN|apply bw1|refine below_set ?_ GE274.out)|exact HB.out)) hb);have n2_:=aMk (hbox);have n3_:=aMk ((by rw [hg];exact (below_size (by repeat (first|(with_reducible first|exact HB.out|apply bwA|apply bwN|apply bw1|refine below_set ?_ GE274.out)|exact HB.out))) : w.heap.size ≤ gb275));have n4_:=aMk ((by rw [hg];exact (below_size (by repeat (first|(with_reducible first|exact HB.out|apply bwA|apply bwN|apply bw1|refine below_set ?_ GE274.out)|exact HB.out))) : w.heap.size ≤ gb275));have n5_:=aMk ((bkL BK274.out hg : gb274 ≠ gb275));have n6_:=aMk ((bkG BK274.out hg : gb275 ≠ gb274));clear BK274;clear HB;have BK274:=n0_;have HB:=n1_;have BK275:=n2_;have GW275:=n3_;have GE275:=n4_;have NB274_275:=n5_;have NB275_274:=n6_;clear n0_ n1_ n2_ n3_ n4_ n5_ n6_;clear hb hbox hg;have hnb10:=NB274_275.out;have hnc10:=NB275_274.out;obtain ⟨hcz11_0,hcz11_1,hcz11_2,hcz11_3,hfz11_0,hfz11_1,hfz11_2,hfz11_3⟩:=bC4 BK274.out)|((with_reducible refine gate_callee (f:=49) rfl ?_);refine gLs 8 Try.func49 #[.agg #[.int .i64 a0_0,.int .i64 a0_1,.int .i64 a0_2,.int .i64 a0_3]] ?_;(with_reducible refine (impl_meterOK.calls a0_0 a0_1 a0_2 a0_3 true _ A3.out).mono ?_);rintro e w12 ⟨rfl,hb⟩;refine ⟨_,rfl,?_⟩;have n0_:=aMk (bkB BK274.out hb);have n1_:=aMk (bkB BK275.out hb);have n2_:=aMk (below_step (by repeat (first|(with_reducible first|exact HB.out|apply bwA|apply bwN|apply bw1|refine below_set ?_ GE274.out|refine below_set ?_ GE275.out)|exact HB.out)) hb);clear BK274;clear BK275;clear HB;have BK274:=n0_;have BK275:=n1_;have HB:=n2_;clear n0_ n1_ n2_;(try clear hb);(try clear hb2);(try clear hk);(try clear hi))|((with_reducible refine gate_callee (f:=39) rfl ?_);refine gLs 13 Try.func39 #[.int .i64 a1] ?_;(with_reducible refine (impl_isAmount.calls a1 true _ A5.out).mono ?_);rintro e w' ⟨rfl,⟨nd,rfl⟩⟩;refine ⟨_,rfl,?_⟩;(try (rw [drewN_self w12];generalize hq_ : World.drewN w12 _ = w12;have n0_ : Aside0 (w12.heap[gb274]? = some (.cells #[.int .i64 a0_0,.int .i64 a0_1,.int .i64 a0_2,.int .i64 a0_3] 39 (0,0))):=⟨by rw [← hq_];exact (by refine pB ?_;exact BK274.out)⟩;have n1_ : Aside0 (w12.heap[gb275]? = some (.cells #[.int .i64 0,.int .i64 0,.int .i64 0,.int .i64 0] 39 (0,0))):=⟨by rw [← hq_];exact (by refine pB ?_;exact BK275.out)⟩;have n2_ : Aside0 (Below w.heap.size w w12):=⟨by rw [← hq_];exact (by repeat (first|(with_reducible first|exact HB.out|apply bwA|apply bwN|apply bw1|refine below_set ?_ GE274.out|refine below_set ?_ GE275.out)|exact HB.out))⟩;clear BK274 BK275 HB hq_;have BK274:=n0_;have BK275:=n1_;have HB:=n2_;clear n0_ n1_ n2_));obtain ⟨hcz13_0,hcz13_1,hcz13_2,hcz13_3,hfz13_0,hfz13_1,hfz13_2,hfz13_3⟩:=bC4 BK274.out;obtain ⟨hcz14_0,hcz14_1,hcz14_2,hcz14_3,hfz14_0,hfz14_1,hfz14_2,hfz14_3⟩:=bC4 BK275.out))
    refine bodyPost_ret (results_ct rfl _ _ gb275 39 #[.int .i64 a1,.int .i64 a1,.int .i64 a1,.int .i64 1] (0,0) _ rfl (by refine pB ?_;refine blk_put (cs:=#[.int .i64 a1,.int .i64 a1,.int .i64 a1,.int .i64 0]) ?_ 3 _ rfl;refine pB ?_;refine blk_put (cs:=#[.int .i64 a1,.int .i64 a1,.int .i64 0,.int .i64 0]) ?_ 2 _ rfl;refine pB ?_;refine blk_put (cs:=#[.int .i64 a1,.int .i64 0,.int .i64 0,.int .i64 0]) ?_ 1 _ rfl;refine pB ?_;refine blk_put (cs:=#[.int .i64 0,.int .i64 0,.int .i64 0,.int .i64 0]) ?_ 0 _ rfl;refine pB ?_;exact BK275.out) Try.underlying39 rfl (by kernel_rfl)) rfl ?_
    exact ⟨eRf,by repeat (first|(with_reducible first|exact HB.out|apply bwA|apply bwN|apply bw1|refine below_set ?_ GE274.out|refine below_set ?_ GE275.out)|exact HB.out)⟩
   ·rw [if_neg c7] at H
    have c7b0 : (a0_3 == 0) = false:=beq_eq_false_iff_ne.mpr c7
    have c7b1 : (a0_3 != 0) = true:=bne_iff_ne.mpr c7
    replace H:=Option.bind_eq_some_iff.mp H
    obtain ⟨t278,A150,H⟩:=H
    replace H : (some (wrap64 (a0_0 + t278),mn a0_1 a1,mx a0_2 a1,mn (wrap64 (a0_3 + 1)) 1000000,0)) = some (r1,r2,r3,r4,r5):=H
    have A15:=aMk A150
    clear A150
    obtain ⟨ji16,hji16⟩ : ∃ j_ : Int,(mn a0_1 a1) = j_:=⟨_,rfl⟩
    replace H : (some (wrap64 (a0_0 + t278),ji16,mx a0_2 a1,mn (wrap64 (a0_3 + 1)) 1000000,0)) = some (r1,r2,r3,r4,r5):=by first|(rw [hji16] at H;exact H)|(simp only [hji16] at H ⊢;exact H)
    (try rw [hji16] at A3)
    (try rw [hji16] at A5)
    (try rw [hji16] at A15)
    have hji16_ : (if a1 < a0_1 then a1 else a0_1) = ji16:=hji16
    obtain ⟨ji17,hji17⟩ : ∃ j_ : Int,(mx a0_2 a1) = j_:=⟨_,rfl⟩
    replace H : (some (wrap64 (a0_0 + t278),ji16,ji17,mn (wrap64 (a0_3 + 1)) 1000000,0)) = some (r1,r2,r3,r4,r5):=by first|(rw [hji17] at H;exact H)|(simp only [hji17] at H ⊢;exact H)
    (try rw [hji17] at A3)
    (try rw [hji17] at A5)
    (try rw [hji17] at A15)
    have hji17_ : (if a0_2 < a1 then a1 else a0_2) = ji17:=hji17
    obtain ⟨ji18,hji18⟩ : ∃ j_ : Int,(mn (wrap64 (a0_3 + 1)) 1000000) = j_:=⟨_,rfl⟩
    replace H : (some (wrap64 (a0_0 + t278),ji16,ji17,ji18,0)) = some (r1,r2,r3,r4,r5):=by first|(rw [hji18] at H;exact H)|(simp only [hji18] at H ⊢;exact H)
    (try rw [hji18] at A3)
    (try rw [hji18] at A5)
    (try rw [hji18] at A15)
    (try (have hji18h : ji18 ≤ 1000000:=by (rw [← hji18];unfold mn;(repeat' split) <;> omega)))
    (try (have hji18g : ji18 ≤ 64:=by omega))
    have hji18_ : (if 1000000 < (wrap64 (a0_3 + 1)) then 1000000 else (wrap64 (a0_3 + 1))) = ji18:=hji18
    simp only [Option.some.injEq,Prod.mk.injEq] at H
    obtain ⟨rfl,rfl,rfl,rfl,rfl⟩:=H
    go_enter Try.func19,Try.ntmps19
    try go_wp2_with (first|((with_reducible refine gate_dst (N:=2) rfl ?_);refine bxE (N:=2) (cs:=#[.int .i64 a0_0,.int .i64 a0_1,.int .i64 a0_2,.int .i64 a0_3]) (t:=39) ?_;intro gb274 hg w19 hbox hb;have n0_:=aMk (bSt hb);have n1_:=aMk (hbox);have n2_:=aMk ((by rw [hg];exact bSz : w.heap.size ≤ gb274));have n3_:=aMk ((by rw [hg];exact bSz : w.heap.size ≤ gb274));clear HB;have HB:=n0_;have BK274:=n1_;have GW274:=n2_;have GE274:=n3_;clear n0_ n1_ n2_ n3_;clear hb hbox hg)|((with_reducible refine gate_dst (N:=4) rfl ?_);refine bxE (N:=4) (cs:=#[.int .i64 0,.int .i64 0,.int .i64 0,.int .i64 0]) (t:=39) ?_;intro gb275 hg w20 hbox hb;have n0_:=aMk (bkB BK274.out hb);have n1_:=aMk (below_step (by repeat (first|(with_reducible first|exact HB.out|apply bwA|apply bwN|apply bw1|refine below_set ?_ GE274.out)|exact HB.out)) hb);have n2_:=aMk (hbox);have n3_:=aMk ((by rw [hg];exact (below_size (by repeat (first|(with_reducible first|exact HB.out|apply bwA|apply bwN|apply bw1|refine below_set ?_ GE274.out)|exact HB.out))) : w.heap.size ≤ gb275));have n4_:=aMk ((by rw [hg];exact (below_size (by repeat (first|(with_reducible first|exact HB.out|apply bwA|apply bwN|apply bw1|refine below_set ?_ GE274.out)|exact HB.out))) : w.heap.size ≤ gb275));have n5_:=aMk ((bkL BK274.out hg : gb274 ≠ gb275));have n6_:=aMk ((bkG BK274.out hg : gb275 ≠ gb274));clear BK274;clear HB;have BK274:=n0_;have HB:=n1_;have BK275:=n2_;have GW275:=n3_;have GE275:=n4_;have NB274_275:=n5_;have NB275_274:=n6_;clear n0_ n1_ n2_ n3_ n4_ n5_ n6_;clear hb hbox hg;have hnb21:=NB274_275.out;have hnc21:=NB275_274.out;obtain ⟨hcz22_0,hcz22_1,hcz22_2,hcz22_3,hfz22_0,hfz22_1,hfz22_2,hfz22_3⟩:=bC4 BK274.out)|((with_reducible refine gate_callee (f:=49) rfl ?_);refine gLs 8 Try.func49 #[.agg #[.int .i64 a0_0,.int .i64 a0_1,.int .i64 a0_2,.int .i64 a0_3]] ?_;(with_reducible refine (impl_meterOK.calls a0_0 a0_1 a0_2 a0_3 true _ A3.out).mono ?_);rintro e w23 ⟨rfl,hb⟩;refine ⟨_,rfl,?_⟩;have n0_:=aMk (bkB BK274.out hb);have n1_:=aMk (bkB BK275.out hb);have n2_:=aMk (below_step (by repeat (first|(with_reducible first|exact HB.out|apply bwA|apply bwN|apply bw1|refine below_set ?_ GE274.out|refine below_set ?_ GE275.out)|exact HB.out)) hb);clear BK274;clear BK275;clear HB;have BK274:=n0_;have BK275:=n1_;have HB:=n2_;clear n0_ n1_ n2_;(try clear hb);(try clear hb2);(try clear hk);(try clear hi))|((with_reducible refine gate_callee (f:=39) rfl ?_);refine gLs 13 Try.func39 #[.int .i64 a1] ?_;(with_reducible refine (impl_isAmount.calls a1 true _ A5.out).mono ?_);rintro e w' ⟨rfl,⟨nd,rfl⟩⟩;refine ⟨_,rfl,?_⟩;(try (rw [drewN_self w23];generalize hq_ : World.drewN w23 _ = w23;have n0_ : Aside0 (w23.heap[gb274]? = some (.cells #[.int .i64 a0_0,.int .i64 a0_1,.int .i64 a0_2,.int .i64 a0_3] 39 (0,0))):=⟨by rw [← hq_];exact (by refine pB ?_;exact BK274.out)⟩;have n1_ : Aside0 (w23.heap[gb275]? = some (.cells #[.int .i64 0,.int .i64 0,.int .i64 0,.int .i64 0] 39 (0,0))):=⟨by rw [← hq_];exact (by refine pB ?_;exact BK275.out)⟩;have n2_ : Aside0 (Below w.heap.size w w23):=⟨by rw [← hq_];exact (by repeat (first|(with_reducible first|exact HB.out|apply bwA|apply bwN|apply bw1|refine below_set ?_ GE274.out|refine below_set ?_ GE275.out)|exact HB.out))⟩;clear BK274 BK275 HB hq_;have BK274:=n0_;have BK275:=n1_;have HB:=n2_;clear n0_ n1_ n2_));obtain ⟨hcz24_0,hcz24_1,hcz24_2,hcz24_3,hfz24_0,hfz24_1,hfz24_2,hfz24_3⟩:=bC4 BK274.out))
    have n0_:=aMk (bDr BK274.out)
    have n1_:=aMk (bDr BK275.out)
    have n2_:=aMk (bw1 HB.out)
    clear BK274
    clear BK275
    clear HB
    have BK274:=n0_
    have BK275:=n1_
    have HB:=n2_
    clear n0_ n1_ n2_
    refine start_ (n:=23) (S:=fun w' => w'.cell? ⟨gb274,0,none⟩ = some (.int .i64 a0_0) ∧ w'.cell? ⟨gb274,1,none⟩ = some (.int .i64 a0_1) ∧ w'.cell? ⟨gb274,2,none⟩ = some (.int .i64 a0_2) ∧ w'.cell? ⟨gb274,3,none⟩ = some (.int .i64 a0_3)) (ds:=[]) #[false,false,false,false,false,false,false,false,false,false,false,false,false,false,false,false,false,false,false,false,false,false,false] (by kernel_rfl) rfl rfl ⟨(bCe BK274.out 0).trans rfl,(bCe BK274.out 1).trans rfl,(bCe BK274.out 2).trans rfl,(bCe BK274.out 3).trans rfl⟩ (fun hHeld => ?_);refine with_tabW impl_MeterAdd.tab7 impl_MeterAdd.bits7 (fun HT_ HW_ => ?_)
    generalize w23.drew = w25 at BK274 BK275 HB hHeld ⊢
    refine pU (i:=0) (N:=some 24) #[true,false,false,false,false,false,false,false,false,false,false,false,false,false,false,false,false,false,false,false,false,false,false] (any_of HT_.out (by kernel_rfl)) ?_
    refine pU (i:=2) (N:=some 26) #[true,false,true,false,false,false,false,false,false,false,false,false,false,false,false,false,false,false,false,false,false,false,false] (any_of HT_.out (by kernel_rfl)) ?_
    refine pU (i:=3) (N:=some 27) #[true,false,true,true,false,false,false,false,false,false,false,false,false,false,false,false,false,false,false,false,false,false,false] (any_of HT_.out (by kernel_rfl)) ?_
    refine pU (i:=8) (N:=some 32) #[true,false,true,true,false,false,false,false,true,false,false,false,false,false,false,false,false,false,false,false,false,false,false] (any_of HT_.out (by kernel_rfl)) ?_
    refine pU (i:=10) (N:=some 34) #[true,false,true,true,false,false,false,false,true,false,true,false,false,false,false,false,false,false,false,false,false,false,false] (any_of HT_.out (by kernel_rfl)) ?_
    refine pU (i:=12) (N:=some 36) #[true,false,true,true,false,false,false,false,true,false,true,false,true,false,false,false,false,false,false,false,false,false,false] (any_of HT_.out (by kernel_rfl)) ?_
    refine pU (i:=14) (N:=some 38) #[true,false,true,true,false,false,false,false,true,false,true,false,true,false,true,false,false,false,false,false,false,false,false] (any_of HT_.out (by kernel_rfl)) ?_
    refine pU (i:=16) (N:=some 40) #[true,false,true,true,false,false,false,false,true,false,true,false,true,false,true,false,true,false,false,false,false,false,false] (any_of HT_.out (by kernel_rfl)) ?_
    refine tU4 (i:=1) (N:=some 25) #[true,true,true,true,false,false,false,false,true,false,true,false,true,false,true,false,true,false,false,false,false,false,false] (take_ofW HT_.out HW_.out (by kernel_rfl)) hHeld ?_
    refine tU4 (i:=4) (N:=some 28) #[true,true,true,true,true,false,false,false,true,false,true,false,true,false,true,false,true,false,false,false,false,false,false] (take_ofW HT_.out HW_.out (by kernel_rfl)) hHeld ?_
    refine pU (i:=5) (N:=some 29) #[true,true,true,true,true,true,false,false,true,false,true,false,true,false,true,false,true,false,false,false,false,false,false] (any_of HT_.out (by kernel_rfl)) ?_
    refine tU4 (i:=9) (N:=some 33) #[true,true,true,true,true,true,false,false,true,true,true,false,true,false,true,false,true,false,false,false,false,false,false] (take_ofW HT_.out HW_.out (by kernel_rfl)) hHeld ?_
    refine pU (i:=11) (N:=some 35) #[true,true,true,true,true,true,false,false,true,true,true,true,true,false,true,false,true,false,false,false,false,false,false] (any_of HT_.out (by kernel_rfl)) ?_
    refine tU4 (i:=13) (N:=some 37) #[true,true,true,true,true,true,false,false,true,true,true,true,true,true,true,false,true,false,false,false,false,false,false] (take_ofW HT_.out HW_.out (by kernel_rfl)) hHeld ?_
    refine pU (i:=15) (N:=some 39) #[true,true,true,true,true,true,false,false,true,true,true,true,true,true,true,true,true,false,false,false,false,false,false] (any_of HT_.out (by kernel_rfl)) ?_
    refine tU4 (i:=17) (N:=some 41) #[true,true,true,true,true,true,false,false,true,true,true,true,true,true,true,true,true,true,false,false,false,false,false] (take_ofW HT_.out HW_.out (by kernel_rfl)) hHeld ?_
    refine pU (i:=18) (N:=some 42) #[true,true,true,true,true,true,false,false,true,true,true,true,true,true,true,true,true,true,true,false,false,false,false] (any_of HT_.out (by kernel_rfl)) ?_
    refine pU (i:=19) (N:=some 43) #[true,true,true,true,true,true,false,false,true,true,true,true,true,true,true,true,true,true,true,true,false,false,false] (any_of HT_.out (by kernel_rfl)) ?_
    refine one_ (i:=6) (N:=some 30) #[true,true,true,true,true,true,true,false,true,true,true,true,true,true,true,true,true,true,true,true,false,false,false] rfl rfl (one_of HT_.out (by kernel_rfl)) (by decide) (fun K hK => ?_)
    refine goes_ Try.func40 (by kernel_rfl) rfl #[.int .i64 (wrap64 (a1 - a0_0)),.int .i64 4] (by rfl) rfl rfl (by (try simp only [List.map_toArray,List.map_cons,List.map_nil]);first | done | rfl|(simp only [List.length_drop,List.length_take];rfl)) ?_
    with_reducible refine (impl_floor.calls (wrap64 (a1 - a0_0)) 4 t278 _ A15.out).mono ?_
    rintro e w' ⟨rfl,⟨nd,rfl⟩⟩
    refine ⟨_,rfl,?_⟩
    refine hK.out _ _ ⟨(bCe BK274.out 0).trans rfl,(bCe BK274.out 1).trans rfl,(bCe BK274.out 2).trans rfl,(bCe BK274.out 3).trans rfl⟩ (fun hHeld => ?_)
    clear hK K
    refine norm_ (a':=?_) ?_ ?_
    rotate_left
    ·show Act.put _ (some 30) _ = _
     simp only [Act.put,List.setIfInBounds_toArray,List.set_cons_zero,List.set_cons_succ,i64_w,i32_w]
     rfl
    refine pU (i:=7) (N:=some 31) #[true,true,true,true,true,true,true,true,true,true,true,true,true,true,true,true,true,true,true,true,false,false,false] (any_of HT_.out (by kernel_rfl)) ?_
    refine pU (i:=20) (N:=some 44) #[true,true,true,true,true,true,true,true,true,true,true,true,true,true,true,true,true,true,true,true,true,false,false] (any_of HT_.out (by kernel_rfl)) ?_
    refine one_ (i:=21) (N:=none) #[true,true,true,true,true,true,true,true,true,true,true,true,true,true,true,true,true,true,true,true,true,true,false] rfl rfl (one_of HT_.out (by kernel_rfl)) (by decide) (fun K hK => ?_)
    have hs26 : w25.cell? ⟨gb275,0,none⟩ = some (.int .i64 0):=(bCe BK275.out 0).trans rfl
    have hfs26:=bFr BK275.out 0
    have hns26_0:=NB274_275.out
    have hms26_0:=NB275_274.out
    have hs27 : w25.cell? ⟨gb275,1,none⟩ = some (.int .i64 0):=(bCe BK275.out 1).trans rfl
    have hfs27:=bFr BK275.out 1
    have hns27_0:=NB274_275.out
    have hms27_0:=NB275_274.out
    have hs28 : w25.cell? ⟨gb275,2,none⟩ = some (.int .i64 0):=(bCe BK275.out 2).trans rfl
    have hfs28:=bFr BK275.out 2
    have hns28_0:=NB274_275.out
    have hms28_0:=NB275_274.out
    have hs29 : w25.cell? ⟨gb275,3,none⟩ = some (.int .i64 0):=(bCe BK275.out 3).trans rfl
    have hfs29:=bFr BK275.out 3
    have hns29_0:=NB274_275.out
    have hms29_0:=NB275_274.out
    refine skip_ (w1:=?_) (by rfl) rfl ?_ ?_
    rotate_left
    ·go_simp
     rfl
    refine hK.out _ _ ⟨((cell_far (p:=⟨gb275,_,none⟩) NB274_275.out _).trans (((cell_far (p:=⟨gb275,_,none⟩) NB274_275.out _).trans (((cell_far (p:=⟨gb275,_,none⟩) NB274_275.out _).trans (((cell_far (p:=⟨gb275,_,none⟩) NB274_275.out _).trans (hHeld.1)))))))),((cell_far (p:=⟨gb275,_,none⟩) NB274_275.out _).trans (((cell_far (p:=⟨gb275,_,none⟩) NB274_275.out _).trans (((cell_far (p:=⟨gb275,_,none⟩) NB274_275.out _).trans (((cell_far (p:=⟨gb275,_,none⟩) NB274_275.out _).trans (hHeld.2.1)))))))),((cell_far (p:=⟨gb275,_,none⟩) NB274_275.out _).trans (((cell_far (p:=⟨gb275,_,none⟩) NB274_275.out _).trans (((cell_far (p:=⟨gb275,_,none⟩) NB274_275.out _).trans (((cell_far (p:=⟨gb275,_,none⟩) NB274_275.out _).trans (hHeld.2.2.1)))))))),((cell_far (p:=⟨gb275,_,none⟩) NB274_275.out _).trans (((cell_far (p:=⟨gb275,_,none⟩) NB274_275.out _).trans (((cell_far (p:=⟨gb275,_,none⟩) NB274_275.out _).trans (((cell_far (p:=⟨gb275,_,none⟩) NB274_275.out _).trans (hHeld.2.2.2))))))))⟩ (fun hHeld => ?_)
    clear hK K
    refine pU (i:=22) (N:=some 5) #[true,true,true,true,true,true,true,true,true,true,true,true,true,true,true,true,true,true,true,true,true,true,true] (any_of HT_.out (by kernel_rfl)) ?_
    refine done_ (done_of HT_.out (by kernel_rfl)) ?_
    try go_wp2
    refine bodyPost_ret (results_ct rfl _ _ gb275 39 #[.int .i64 (wrap64 (a0_0 + t278)),.int .i64 ji16,.int .i64 ji17,.int .i64 ji18] (0,0) _ rfl (by refine pB ?_;refine blk_put (cs:=#[.int .i64 (wrap64 (a0_0 + t278)),.int .i64 ji16,.int .i64 ji17,.int .i64 0]) ?_ 3 _ rfl;refine pB ?_;refine blk_put (cs:=#[.int .i64 (wrap64 (a0_0 + t278)),.int .i64 ji16,.int .i64 0,.int .i64 0]) ?_ 2 _ rfl;refine pB ?_;refine blk_put (cs:=#[.int .i64 (wrap64 (a0_0 + t278)),.int .i64 0,.int .i64 0,.int .i64 0]) ?_ 1 _ rfl;refine pB ?_;refine blk_put (cs:=#[.int .i64 0,.int .i64 0,.int .i64 0,.int .i64 0]) ?_ 0 _ rfl;refine pB ?_;exact BK275.out) Try.underlying39 rfl (by kernel_rfl)) rfl ?_
    exact ⟨by first | rfl|(simp [errW_none,errW_some] <;> rfl)|(simp only [← hji16,← hji17,← hji18];first | rfl|(simp [errW_none,errW_some] <;> rfl))|(simp [*,errW_none,errW_some] <;> rfl),by repeat (first|(with_reducible first|exact HB.out|apply bwA|apply bwN|apply bw1|refine below_set ?_ GE274.out|refine below_set ?_ GE275.out)|exact HB.out)⟩
  ·replace c6:=Bool.eq_false_iff.mpr c6
   subst c6
   have H1 : (some (0,0,0,0,4)) = some (r1,r2,r3,r4,r5):=by rw [if_neg (show ¬ (false = true) by decide)] at H;exact H
   clear H
   have H:=H1
   clear H1
   simp only [Option.some.injEq,Prod.mk.injEq] at H
   obtain ⟨rfl,rfl,rfl,rfl,rfl⟩:=H
   go_enter Try.func19,Try.ntmps19
   go_wp2_with (first|((with_reducible refine gate_dst (N:=2) rfl ?_);refine bxE (N:=2) (cs:=#[.int .i64 a0_0,.int .i64 a0_1,.int .i64 a0_2,.int .i64 a0_3]) (t:=39) ?_;intro gb274 hg w30 hbox hb;have n0_:=aMk (bSt hb);have n1_:=aMk (hbox);have n2_:=aMk ((by rw [hg];exact bSz : w.heap.size ≤ gb274));have n3_:=aMk ((by rw [hg];exact bSz : w.heap.size ≤ gb274));clear HB;have HB:=n0_;have BK274:=n1_;have GW274:=n2_;have GE274:=n3_;clear n0_ n1_ n2_ n3_;clear hb hbox hg)|((with_reducible refine gate_dst (N:=4) rfl ?_);refine bxE (N:=4) (cs:=#[.int .i64 0,.int .i64 0,.int .i64 0,.int .i64 0]) (t:=39) ?_;intro gb275 hg w31 hbox hb;have n0_:=aMk (bkB BK274.out hb);have n1_:=aMk (below_step (by repeat (first|(with_reducible first|exact HB.out|apply bwA|apply bwN|apply bw1|refine below_set ?_ GE274.out)|exact HB.out)) hb);have n2_:=aMk (hbox);have n3_:=aMk ((by rw [hg];exact (below_size (by repeat (first|(with_reducible first|exact HB.out|apply bwA|apply bwN|apply bw1|refine below_set ?_ GE274.out)|exact HB.out))) : w.heap.size ≤ gb275));have n4_:=aMk ((by rw [hg];exact (below_size (by repeat (first|(with_reducible first|exact HB.out|apply bwA|apply bwN|apply bw1|refine below_set ?_ GE274.out)|exact HB.out))) : w.heap.size ≤ gb275));have n5_:=aMk ((bkL BK274.out hg : gb274 ≠ gb275));have n6_:=aMk ((bkG BK274.out hg : gb275 ≠ gb274));clear BK274;clear HB;have BK274:=n0_;have HB:=n1_;have BK275:=n2_;have GW275:=n3_;have GE275:=n4_;have NB274_275:=n5_;have NB275_274:=n6_;clear n0_ n1_ n2_ n3_ n4_ n5_ n6_;clear hb hbox hg;have hnb32:=NB274_275.out;have hnc32:=NB275_274.out;obtain ⟨hcz33_0,hcz33_1,hcz33_2,hcz33_3,hfz33_0,hfz33_1,hfz33_2,hfz33_3⟩:=bC4 BK274.out)|((with_reducible refine gate_callee (f:=49) rfl ?_);refine gLs 8 Try.func49 #[.agg #[.int .i64 a0_0,.int .i64 a0_1,.int .i64 a0_2,.int .i64 a0_3]] ?_;(with_reducible refine (impl_meterOK.calls a0_0 a0_1 a0_2 a0_3 true _ A3.out).mono ?_);rintro e w34 ⟨rfl,hb⟩;refine ⟨_,rfl,?_⟩;have n0_:=aMk (bkB BK274.out hb);have n1_:=aMk (bkB BK275.out hb);have n2_:=aMk (below_step (by repeat (first|(with_reducible first|exact HB.out|apply bwA|apply bwN|apply bw1|refine below_set ?_ GE274.out|refine below_set ?_ GE275.out)|exact HB.out)) hb);clear BK274;clear BK275;clear HB;have BK274:=n0_;have BK275:=n1_;have HB:=n2_;clear n0_ n1_ n2_;(try clear hb);(try clear hb2);(try clear hk);(try clear hi))|((with_reducible refine gate_callee (f:=39) rfl ?_);refine gLs 13 Try.func39 #[.int .i64 a1] ?_;(with_reducible refine (impl_isAmount.calls a1 false _ A5.out).mono ?_);rintro e w' ⟨rfl,⟨nd,rfl⟩⟩;refine ⟨_,rfl,?_⟩;(try (rw [drewN_self w34];generalize hq_ : World.drewN w34 _ = w34;have n0_ : Aside0 (w34.heap[gb274]? = some (.cells #[.int .i64 a0_0,.int .i64 a0_1,.int .i64 a0_2,.int .i64 a0_3] 39 (0,0))):=⟨by rw [← hq_];exact (by refine pB ?_;exact BK274.out)⟩;have n1_ : Aside0 (w34.heap[gb275]? = some (.cells #[.int .i64 0,.int .i64 0,.int .i64 0,.int .i64 0] 39 (0,0))):=⟨by rw [← hq_];exact (by refine pB ?_;exact BK275.out)⟩;have n2_ : Aside0 (Below w.heap.size w w34):=⟨by rw [← hq_];exact (by repeat (first|(with_reducible first|exact HB.out|apply bwA|apply bwN|apply bw1|refine below_set ?_ GE274.out|refine below_set ?_ GE275.out)|exact HB.out))⟩;clear BK274 BK275 HB hq_;have BK274:=n0_;have BK275:=n1_;have HB:=n2_;clear n0_ n1_ n2_));obtain ⟨hcz35_0,hcz35_1,hcz35_2,hcz35_3,hfz35_0,hfz35_1,hfz35_2,hfz35_3⟩:=bC4 BK275.out))
   refine bodyPost_ret (results_ct rfl _ _ gb275 39 #[.int .i64 0,.int .i64 0,.int .i64 0,.int .i64 0] (0,0) _ rfl (by refine pB ?_;refine blk_put (cs:=#[.int .i64 0,.int .i64 0,.int .i64 0,.int .i64 0]) ?_ 3 _ rfl;refine pB ?_;refine blk_put (cs:=#[.int .i64 0,.int .i64 0,.int .i64 0,.int .i64 0]) ?_ 2 _ rfl;refine pB ?_;refine blk_put (cs:=#[.int .i64 0,.int .i64 0,.int .i64 0,.int .i64 0]) ?_ 1 _ rfl;refine pB ?_;refine blk_put (cs:=#[.int .i64 0,.int .i64 0,.int .i64 0,.int .i64 0]) ?_ 0 _ rfl;refine pB ?_;exact BK275.out) Try.underlying39 rfl (by kernel_rfl)) rfl ?_
   exact ⟨eRf,by repeat (first|(with_reducible first|exact HB.out|apply bwA|apply bwN|apply bw1|refine below_set ?_ GE274.out|refine below_set ?_ GE275.out)|exact HB.out)⟩
 ·replace c4:=Bool.eq_false_iff.mpr c4
  subst c4
  have H1 : (some (0,0,0,0,1)) = some (r1,r2,r3,r4,r5):=by rw [if_neg (show ¬ (false = true) by decide)] at H;exact H
  clear H
  have H:=H1
  clear H1
  simp only [Option.some.injEq,Prod.mk.injEq] at H
  obtain ⟨rfl,rfl,rfl,rfl,rfl⟩:=H
  go_enter Try.func19,Try.ntmps19
  go_wp2_with (first|((with_reducible refine gate_dst (N:=2) rfl ?_);refine bxE (N:=2) (cs:=#[.int .i64 a0_0,.int .i64 a0_1,.int .i64 a0_2,.int .i64 a0_3]) (t:=39) ?_;intro gb274 hg w36 hbox hb;have n0_:=aMk (bSt hb);have n1_:=aMk (hbox);have n2_:=aMk ((by rw [hg];exact bSz : w.heap.size ≤ gb274));have n3_:=aMk ((by rw [hg];exact bSz : w.heap.size ≤ gb274));clear HB;have HB:=n0_;have BK274:=n1_;have GW274:=n2_;have GE274:=n3_;clear n0_ n1_ n2_ n3_;clear hb hbox hg)|((with_reducible refine gate_dst (N:=4) rfl ?_);refine bxE (N:=4) (cs:=#[.int .i64 0,.int .i64 0,.int .i64 0,.int .i64 0]) (t:=39) ?_;intro gb275 hg w37 hbox hb;have n0_:=aMk (bkB BK274.out hb);have n1_:=aMk (below_step (by repeat (first|(with_reducible first|exact HB.out|apply bwA|apply bwN|apply bw1|refine below_set ?_ GE274.out)|exact HB.out)) hb);have n2_:=aMk (hbox);have n3_:=aMk ((by rw [hg];exact (below_size (by repeat (first|(with_reducible first|exact HB.out|apply bwA|apply bwN|apply bw1|refine below_set ?_ GE274.out)|exact HB.out))) : w.heap.size ≤ gb275));have n4_:=aMk ((by rw [hg];exact (below_size (by repeat (first|(with_reducible first|exact HB.out|apply bwA|apply bwN|apply bw1|refine below_set ?_ GE274.out)|exact HB.out))) : w.heap.size ≤ gb275));have n5_:=aMk ((bkL BK274.out hg : gb274 ≠ gb275));have n6_:=aMk ((bkG BK274.out hg : gb275 ≠ gb274));clear BK274;clear HB;have BK274:=n0_;have HB:=n1_;have BK275:=n2_;have GW275:=n3_;have GE275:=n4_;have NB274_275:=n5_;have NB275_274:=n6_;clear n0_ n1_ n2_ n3_ n4_ n5_ n6_;clear hb hbox hg;have hnb38:=NB274_275.out;have hnc38:=NB275_274.out;obtain ⟨hcz39_0,hcz39_1,hcz39_2,hcz39_3,hfz39_0,hfz39_1,hfz39_2,hfz39_3⟩:=bC4 BK274.out)|((with_reducible refine gate_callee (f:=49) rfl ?_);refine gLs 8 Try.func49 #[.agg #[.int .i64 a0_0,.int .i64 a0_1,.int .i64 a0_2,.int .i64 a0_3]] ?_;(with_reducible refine (impl_meterOK.calls a0_0 a0_1 a0_2 a0_3 false _ A3.out).mono ?_);rintro e w40 ⟨rfl,hb⟩;refine ⟨_,rfl,?_⟩;have n0_:=aMk (bkB BK274.out hb);have n1_:=aMk (bkB BK275.out hb);have n2_:=aMk (below_step (by repeat (first|(with_reducible first|exact HB.out|apply bwA|apply bwN|apply bw1|refine below_set ?_ GE274.out|refine below_set ?_ GE275.out)|exact HB.out)) hb);clear BK274;clear BK275;clear HB;have BK274:=n0_;have BK275:=n1_;have HB:=n2_;clear n0_ n1_ n2_;(try clear hb);(try clear hb2);(try clear hk);(try clear hi);obtain ⟨hcz41_0,hcz41_1,hcz41_2,hcz41_3,hfz41_0,hfz41_1,hfz41_2,hfz41_3⟩:=bC4 BK275.out))
  refine bodyPost_ret (results_ct rfl _ _ gb275 39 #[.int .i64 0,.int .i64 0,.int .i64 0,.int .i64 0] (0,0) _ rfl (by refine pB ?_;refine blk_put (cs:=#[.int .i64 0,.int .i64 0,.int .i64 0,.int .i64 0]) ?_ 3 _ rfl;refine pB ?_;refine blk_put (cs:=#[.int .i64 0,.int .i64 0,.int .i64 0,.int .i64 0]) ?_ 2 _ rfl;refine pB ?_;refine blk_put (cs:=#[.int .i64 0,.int .i64 0,.int .i64 0,.int .i64 0]) ?_ 1 _ rfl;refine pB ?_;refine blk_put (cs:=#[.int .i64 0,.int .i64 0,.int .i64 0,.int .i64 0]) ?_ 0 _ rfl;refine pB ?_;exact BK275.out) Try.underlying39 rfl (by kernel_rfl)) rfl ?_
  exact ⟨eRf,by repeat (first|(with_reducible first|exact HB.out|apply bwA|apply bwN|apply bw1|refine below_set ?_ GE274.out|refine below_set ?_ GE275.out)|exact HB.out)⟩
end
section
/-! ### spec_l06Value: function 35 -/
def spec_l06Value.f (a0 : Int) : Option (Bool):=(spec_l01In.f a0 (-1000000000) 1000000000).bind fun t101 => (some t101)
set_option maxHeartbeats 8000000 in
set_option maxRecDepth 100000 in
theorem spec_l06Value.calls (a0 : Int) (r : Bool) (w : World) (h : spec_l06Value.f a0 = some r) :
  Calls Try.prog 35 #[.int .i64 a0] w fun e w' => e = .returned (.bool r) ∧ Drawn0 w w':=by
 have H : ((spec_l01In.f a0 (-1000000000) 1000000000).bind fun t101 => (some t101)) = some r:=h
 clear h
 replace H:=Option.bind_eq_some_iff.mp H
 obtain ⟨t101,A20,H⟩:=H
 replace H : (some t101) = some r:=H
 have A2:=aMk A20
 clear A20
 obtain rfl:=Option.some.inj H
 go_enter Try.func35,Try.ntmps35
 go_wp2_with (first|((with_reducible refine gate_callee (f:=57) rfl ?_);refine gLs 4 Try.func57 #[.int .i64 a0,.int .i64 (-1000000000),.int .i64 1000000000] ?_;(with_reducible refine (spec_l01In.calls a0 (-1000000000) 1000000000 t101 _ A2.out).mono ?_);rintro e w' ⟨rfl,⟨nd,rfl⟩⟩;refine ⟨_,rfl,?_⟩))
 go_ret
 exact ⟨by first | rfl|(simp;done)|(simp [*];done)|(simp [ne_nil_b];done)|(simp [ne_nil_b, *];done),by repeat (first|exact Drawn0.refl _|apply Drawn0.step)⟩
end
section
/-! ### spec_l06Floor: function 36 -/
def spec_l06Floor.f (a0 : Int) (a1 : Int) : Option (Int):=if a1 = 0 then (none) else (if (wrap64 ((wrap64 (Int.tdiv a0 a1)) * a1)) = a0 then (some (wrap64 (Int.tdiv a0 a1))) else (if a0 < 0 then (some (wrap64 ((wrap64 (Int.tdiv a0 a1)) - 1))) else (some (wrap64 (Int.tdiv a0 a1)))))
set_option maxHeartbeats 8000000 in
set_option maxRecDepth 100000 in
theorem spec_l06Floor.calls (a0 : Int) (a1 : Int) (r : Int) (w : World) (h : spec_l06Floor.f a0 a1 = some r) :
  Calls Try.prog 36 #[.int .i64 a0,.int .i64 a1] w fun e w' => e = .returned (.int .i64 r) ∧ Drawn0 w w':=by
 have H : (if a1 = 0 then (none) else (if (wrap64 ((wrap64 (Int.tdiv a0 a1)) * a1)) = a0 then (some (wrap64 (Int.tdiv a0 a1))) else (if a0 < 0 then (some (wrap64 ((wrap64 (Int.tdiv a0 a1)) - 1))) else (some (wrap64 (Int.tdiv a0 a1)))))) = some r:=h
 clear h
 by_cases c3 : a1 = 0
 ·rw [if_pos c3] at H
  exact absurd H (by simp)
 ·rw [if_neg c3] at H
  have c3b0 : (a1 == 0) = false:=beq_eq_false_iff_ne.mpr c3
  have c3b1 : (a1 != 0) = true:=bne_iff_ne.mpr c3
  by_cases c4 : (wrap64 ((wrap64 (Int.tdiv a0 a1)) * a1)) = a0
  ·rw [if_pos c4] at H
   have c4b0 : ((wrap64 ((wrap64 (Int.tdiv a0 a1)) * a1)) == a0) = true:=beq_iff_eq.mpr c4
   have c4b1 : ((wrap64 ((wrap64 (Int.tdiv a0 a1)) * a1)) != a0) = false:=bne_eq_false_iff_eq.mpr c4
   clear c4
   obtain rfl:=Option.some.inj H
   go_enter Try.func36,Try.ntmps36
   go_wp2
   go_ret
   exact ⟨by first | rfl|(simp;done)|(simp [*];done)|(simp [ne_nil_b];done)|(simp [ne_nil_b, *];done),by repeat (first|exact Drawn0.refl _|apply Drawn0.step)⟩
  ·rw [if_neg c4] at H
   have c4b0 : ((wrap64 ((wrap64 (Int.tdiv a0 a1)) * a1)) == a0) = false:=beq_eq_false_iff_ne.mpr c4
   have c4b1 : ((wrap64 ((wrap64 (Int.tdiv a0 a1)) * a1)) != a0) = true:=bne_iff_ne.mpr c4
   by_cases c5 : a0 < 0
   ·rw [if_pos c5] at H
    have c5b0 : decide (a0 < 0) = true:=decide_eq_true c5
    clear c5
    obtain rfl:=Option.some.inj H
    go_enter Try.func36,Try.ntmps36
    go_wp2
    go_ret
    exact ⟨by first | rfl|(simp;done)|(simp [*];done)|(simp [ne_nil_b];done)|(simp [ne_nil_b, *];done),by repeat (first|exact Drawn0.refl _|apply Drawn0.step)⟩
   ·rw [if_neg c5] at H
    have c5b0 : decide (a0 < 0) = false:=decide_eq_false c5
    clear c5
    obtain rfl:=Option.some.inj H
    go_enter Try.func36,Try.ntmps36
    go_wp2
    go_ret
    exact ⟨by first | rfl|(simp;done)|(simp [*];done)|(simp [ne_nil_b];done)|(simp [ne_nil_b, *];done),by repeat (first|exact Drawn0.refl _|apply Drawn0.step)⟩
end
section
attribute [local go_sem high] eqA39
/-! ### spec_l06Meter: function 50 -/
def spec_l06Meter.f (a0_0 : Int) (a0_1 : Int) (a0_2 : Int) (a0_3 : Int) : Option (Bool):=if (a0_0 == 0 && (a0_1 == 0 && (a0_2 == 0 && (a0_3 == 0)))) = true then (some true) else ((spec_l01In.f a0_3 1 1000000).bind fun t280 => (if t280 = true then ((spec_l06Value.f a0_1).bind fun t281 => (if t281 = true then ((spec_l06Value.f a0_2).bind fun t282 => (if t282 = true then (if a0_1 ≤ a0_0 then (some (decide (a0_0 ≤ a0_2))) else (some false)) else (some false))) else (some false))) else (some false)))
set_option maxHeartbeats 8000000 in
set_option maxRecDepth 100000 in
theorem spec_l06Meter.calls (a0_0 : Int) (a0_1 : Int) (a0_2 : Int) (a0_3 : Int) (r : Bool) (w : World) (h : spec_l06Meter.f a0_0 a0_1 a0_2 a0_3 = some r) :
  Calls Try.prog 50 #[.agg #[.int .i64 a0_0,.int .i64 a0_1,.int .i64 a0_2,.int .i64 a0_3]] w fun e w' => e = .returned (.bool r) ∧ Below w.heap.size w w':=by
 have hu39:=Try.underlying39
 have HB:=aMk (Below.refl w.heap.size w)
 have H : (if (a0_0 == 0 && (a0_1 == 0 && (a0_2 == 0 && (a0_3 == 0)))) = true then (some true) else ((spec_l01In.f a0_3 1 1000000).bind fun t280 => (if t280 = true then ((spec_l06Value.f a0_1).bind fun t281 => (if t281 = true then ((spec_l06Value.f a0_2).bind fun t282 => (if t282 = true then (if a0_1 ≤ a0_0 then (some (decide (a0_0 ≤ a0_2))) else (some false)) else (some false))) else (some false))) else (some false)))) = some r:=h
 clear h
 by_cases c2 : (a0_0 == 0 && (a0_1 == 0 && (a0_2 == 0 && (a0_3 == 0)))) = true
 ·rw [if_pos c2] at H
  have c2b0 : (a0_0 == 0 && (a0_1 == 0 && (a0_2 == 0 && (a0_3 == 0)))) = true:=c2
  (try (have c2b1 : decide (a0_0 = 0 && (a0_1 == 0 && (a0_2 == 0 && (a0_3 == 0)))) = true:=by simpa using c2))
  (try (have c2b2 : (a0_0 == 0 && (a0_1 == 0 && (a0_2 == 0 && (a0_3 == 0)))) = true:=by simpa using c2))
  clear c2
  obtain rfl:=Option.some.inj H
  go_enter Try.func50,Try.ntmps50
  go_wp2_with (first|((with_reducible refine gate_dst (N:=1) rfl ?_);refine bxE (N:=1) (cs:=#[.int .i64 a0_0,.int .i64 a0_1,.int .i64 a0_2,.int .i64 a0_3]) (t:=39) ?_;intro gb279 hg w3 hbox hb;have n0_:=aMk (bSt hb);have n1_:=aMk (hbox);have n2_:=aMk ((by rw [hg];exact bSz : w.heap.size ≤ gb279));have n3_:=aMk ((by rw [hg];exact bSz : w.heap.size ≤ gb279));clear HB;have HB:=n0_;have BK279:=n1_;have GW279:=n2_;have GE279:=n3_;clear n0_ n1_ n2_ n3_;clear hb hbox hg;obtain ⟨hcz4_0,hcz4_1,hcz4_2,hcz4_3,hfz4_0,hfz4_1,hfz4_2,hfz4_3⟩:=bC4 BK279.out))
  go_ret
  exact ⟨eRf,by repeat (first|(with_reducible first|exact HB.out|apply bwA|apply bwN|apply bw1|refine below_set ?_ GE279.out)|exact HB.out)⟩
 ·rw [if_neg c2] at H
  have c2b0 : (a0_0 == 0 && (a0_1 == 0 && (a0_2 == 0 && (a0_3 == 0)))) = false:=by simpa using c2
  (try (have c2b1 : decide (a0_0 = 0 && (a0_1 == 0 && (a0_2 == 0 && (a0_3 == 0)))) = false:=by simpa using c2))
  (try (have c2b2 : (a0_0 == 0 && (a0_1 == 0 && (a0_2 == 0 && (a0_3 == 0)))) = false:=by simpa using c2))
  (try (have c2b3 : ¬ (a0_0 = 0 && (a0_1 == 0 && (a0_2 == 0 && (a0_3 == 0)))):=by simpa using c2))
  clear c2
  replace H:=Option.bind_eq_some_iff.mp H
  obtain ⟨t280,A50,H⟩:=H
  replace H : (if t280 = true then ((spec_l06Value.f a0_1).bind fun t281 => (if t281 = true then ((spec_l06Value.f a0_2).bind fun t282 => (if t282 = true then (if a0_1 ≤ a0_0 then (some (decide (a0_0 ≤ a0_2))) else (some false)) else (some false))) else (some false))) else (some false)) = some r:=H
  have A5:=aMk A50
  clear A50
  by_cases c6 : t280 = true
  ·subst c6
   have H1 : ((spec_l06Value.f a0_1).bind fun t281 => (if t281 = true then ((spec_l06Value.f a0_2).bind fun t282 => (if t282 = true then (if a0_1 ≤ a0_0 then (some (decide (a0_0 ≤ a0_2))) else (some false)) else (some false))) else (some false))) = some r:=by rw [if_pos rfl] at H;exact H
   clear H
   have H:=H1
   clear H1
   replace H:=Option.bind_eq_some_iff.mp H
   obtain ⟨t281,A70,H⟩:=H
   replace H : (if t281 = true then ((spec_l06Value.f a0_2).bind fun t282 => (if t282 = true then (if a0_1 ≤ a0_0 then (some (decide (a0_0 ≤ a0_2))) else (some false)) else (some false))) else (some false)) = some r:=H
   have A7:=aMk A70
   clear A70
   by_cases c8 : t281 = true
   ·subst c8
    have H1 : ((spec_l06Value.f a0_2).bind fun t282 => (if t282 = true then (if a0_1 ≤ a0_0 then (some (decide (a0_0 ≤ a0_2))) else (some false)) else (some false))) = some r:=by rw [if_pos rfl] at H;exact H
    clear H
    have H:=H1
    clear H1
    replace H:=Option.bind_eq_some_iff.mp H
    obtain ⟨t282,A90,H⟩:=H
    replace H : (if t282 = true then (if a0_1 ≤ a0_0 then (some (decide (a0_0 ≤ a0_2))) else (some false)) else (some false)) = some r:=H
    have A9:=aMk A90
    clear A90
    by_cases c10 : t282 = true
    ·subst c10
     have H1 : (if a0_1 ≤ a0_0 then (some (decide (a0_0 ≤ a0_2))) else (some false)) = some r:=by rw [if_pos rfl] at H;exact H
     clear H
     have H:=H1
     clear H1
     by_cases c11 : a0_1 ≤ a0_0
     ·rw [if_pos c11] at H
      have c11b0 : decide (a0_1 ≤ a0_0) = true:=decide_eq_true c11
      clear c11
      obtain rfl:=Option.some.inj H
      go_enter Try.func50,Try.ntmps50
      go_wp2_with (first|((with_reducible refine gate_dst (N:=1) rfl ?_);refine bxE (N:=1) (cs:=#[.int .i64 a0_0,.int .i64 a0_1,.int .i64 a0_2,.int .i64 a0_3]) (t:=39) ?_;intro gb279 hg w12 hbox hb;have n0_:=aMk (bSt hb);have n1_:=aMk (hbox);have n2_:=aMk ((by rw [hg];exact bSz : w.heap.size ≤ gb279));have n3_:=aMk ((by rw [hg];exact bSz : w.heap.size ≤ gb279));clear HB;have HB:=n0_;have BK279:=n1_;have GW279:=n2_;have GE279:=n3_;clear n0_ n1_ n2_ n3_;clear hb hbox hg;obtain ⟨hcz13_0,hcz13_1,hcz13_2,hcz13_3,hfz13_0,hfz13_1,hfz13_2,hfz13_3⟩:=bC4 BK279.out)|((with_reducible refine gate_callee (f:=57) rfl ?_);refine gLs 8 Try.func57 #[.int .i64 a0_3,.int .i64 1,.int .i64 1000000] ?_;(with_reducible refine (spec_l01In.calls a0_3 1 1000000 true _ A5.out).mono ?_);rintro e w' ⟨rfl,⟨nd,rfl⟩⟩;refine ⟨_,rfl,?_⟩)|(go_at_call 35;(with_reducible refine (spec_l06Value.calls a0_1 true _ A7.out).mono ?_);rintro e w' ⟨rfl,⟨nd,rfl⟩⟩)|(go_at_call 35;(with_reducible refine (spec_l06Value.calls a0_2 true _ A9.out).mono ?_);rintro e w' ⟨rfl,⟨nd,rfl⟩⟩))
      go_ret
      exact ⟨eRf,by repeat (first|(with_reducible first|exact HB.out|apply bwA|apply bwN|apply bw1|refine below_set ?_ GE279.out)|exact HB.out)⟩
     ·rw [if_neg c11] at H
      have c11b0 : decide (a0_1 ≤ a0_0) = false:=decide_eq_false c11
      clear c11
      obtain rfl:=Option.some.inj H
      go_enter Try.func50,Try.ntmps50
      go_wp2_with (first|((with_reducible refine gate_dst (N:=1) rfl ?_);refine bxE (N:=1) (cs:=#[.int .i64 a0_0,.int .i64 a0_1,.int .i64 a0_2,.int .i64 a0_3]) (t:=39) ?_;intro gb279 hg w14 hbox hb;have n0_:=aMk (bSt hb);have n1_:=aMk (hbox);have n2_:=aMk ((by rw [hg];exact bSz : w.heap.size ≤ gb279));have n3_:=aMk ((by rw [hg];exact bSz : w.heap.size ≤ gb279));clear HB;have HB:=n0_;have BK279:=n1_;have GW279:=n2_;have GE279:=n3_;clear n0_ n1_ n2_ n3_;clear hb hbox hg;obtain ⟨hcz15_0,hcz15_1,hcz15_2,hcz15_3,hfz15_0,hfz15_1,hfz15_2,hfz15_3⟩:=bC4 BK279.out)|((with_reducible refine gate_callee (f:=57) rfl ?_);refine gLs 8 Try.func57 #[.int .i64 a0_3,.int .i64 1,.int .i64 1000000] ?_;(with_reducible refine (spec_l01In.calls a0_3 1 1000000 true _ A5.out).mono ?_);rintro e w' ⟨rfl,⟨nd,rfl⟩⟩;refine ⟨_,rfl,?_⟩)|(go_at_call 35;(with_reducible refine (spec_l06Value.calls a0_1 true _ A7.out).mono ?_);rintro e w' ⟨rfl,⟨nd,rfl⟩⟩)|(go_at_call 35;(with_reducible refine (spec_l06Value.calls a0_2 true _ A9.out).mono ?_);rintro e w' ⟨rfl,⟨nd,rfl⟩⟩))
      go_ret
      exact ⟨eRf,by repeat (first|(with_reducible first|exact HB.out|apply bwA|apply bwN|apply bw1|refine below_set ?_ GE279.out)|exact HB.out)⟩
    ·replace c10:=Bool.eq_false_iff.mpr c10
     subst c10
     have H1 : (some false) = some r:=by rw [if_neg (show ¬ (false = true) by decide)] at H;exact H
     clear H
     have H:=H1
     clear H1
     obtain rfl:=Option.some.inj H
     go_enter Try.func50,Try.ntmps50
     go_wp2_with (first|((with_reducible refine gate_dst (N:=1) rfl ?_);refine bxE (N:=1) (cs:=#[.int .i64 a0_0,.int .i64 a0_1,.int .i64 a0_2,.int .i64 a0_3]) (t:=39) ?_;intro gb279 hg w16 hbox hb;have n0_:=aMk (bSt hb);have n1_:=aMk (hbox);have n2_:=aMk ((by rw [hg];exact bSz : w.heap.size ≤ gb279));have n3_:=aMk ((by rw [hg];exact bSz : w.heap.size ≤ gb279));clear HB;have HB:=n0_;have BK279:=n1_;have GW279:=n2_;have GE279:=n3_;clear n0_ n1_ n2_ n3_;clear hb hbox hg;obtain ⟨hcz17_0,hcz17_1,hcz17_2,hcz17_3,hfz17_0,hfz17_1,hfz17_2,hfz17_3⟩:=bC4 BK279.out)|((with_reducible refine gate_callee (f:=57) rfl ?_);refine gLs 8 Try.func57 #[.int .i64 a0_3,.int .i64 1,.int .i64 1000000] ?_;(with_reducible refine (spec_l01In.calls a0_3 1 1000000 true _ A5.out).mono ?_);rintro e w' ⟨rfl,⟨nd,rfl⟩⟩;refine ⟨_,rfl,?_⟩)|(go_at_call 35;(with_reducible refine (spec_l06Value.calls a0_1 true _ A7.out).mono ?_);rintro e w' ⟨rfl,⟨nd,rfl⟩⟩)|(go_at_call 35;(with_reducible refine (spec_l06Value.calls a0_2 false _ A9.out).mono ?_);rintro e w' ⟨rfl,⟨nd,rfl⟩⟩))
     go_ret
     exact ⟨eRf,by repeat (first|(with_reducible first|exact HB.out|apply bwA|apply bwN|apply bw1|refine below_set ?_ GE279.out)|exact HB.out)⟩
   ·replace c8:=Bool.eq_false_iff.mpr c8
    subst c8
    have H1 : (some false) = some r:=by rw [if_neg (show ¬ (false = true) by decide)] at H;exact H
    clear H
    have H:=H1
    clear H1
    obtain rfl:=Option.some.inj H
    go_enter Try.func50,Try.ntmps50
    go_wp2_with (first|((with_reducible refine gate_dst (N:=1) rfl ?_);refine bxE (N:=1) (cs:=#[.int .i64 a0_0,.int .i64 a0_1,.int .i64 a0_2,.int .i64 a0_3]) (t:=39) ?_;intro gb279 hg w18 hbox hb;have n0_:=aMk (bSt hb);have n1_:=aMk (hbox);have n2_:=aMk ((by rw [hg];exact bSz : w.heap.size ≤ gb279));have n3_:=aMk ((by rw [hg];exact bSz : w.heap.size ≤ gb279));clear HB;have HB:=n0_;have BK279:=n1_;have GW279:=n2_;have GE279:=n3_;clear n0_ n1_ n2_ n3_;clear hb hbox hg;obtain ⟨hcz19_0,hcz19_1,hcz19_2,hcz19_3,hfz19_0,hfz19_1,hfz19_2,hfz19_3⟩:=bC4 BK279.out)|((with_reducible refine gate_callee (f:=57) rfl ?_);refine gLs 8 Try.func57 #[.int .i64 a0_3,.int .i64 1,.int .i64 1000000] ?_;(with_reducible refine (spec_l01In.calls a0_3 1 1000000 true _ A5.out).mono ?_);rintro e w' ⟨rfl,⟨nd,rfl⟩⟩;refine ⟨_,rfl,?_⟩)|(go_at_call 35;(with_reducible refine (spec_l06Value.calls a0_1 false _ A7.out).mono ?_);rintro e w' ⟨rfl,⟨nd,rfl⟩⟩))
    go_ret
    exact ⟨eRf,by repeat (first|(with_reducible first|exact HB.out|apply bwA|apply bwN|apply bw1|refine below_set ?_ GE279.out)|exact HB.out)⟩
  ·replace c6:=Bool.eq_false_iff.mpr c6
   subst c6
   have H1 : (some false) = some r:=by rw [if_neg (show ¬ (false = true) by decide)] at H;exact H
   clear H
   have H:=H1
   clear H1
   obtain rfl:=Option.some.inj H
   go_enter Try.func50,Try.ntmps50
   go_wp2_with (first|((with_reducible refine gate_dst (N:=1) rfl ?_);refine bxE (N:=1) (cs:=#[.int .i64 a0_0,.int .i64 a0_1,.int .i64 a0_2,.int .i64 a0_3]) (t:=39) ?_;intro gb279 hg w20 hbox hb;have n0_:=aMk (bSt hb);have n1_:=aMk (hbox);have n2_:=aMk ((by rw [hg];exact bSz : w.heap.size ≤ gb279));have n3_:=aMk ((by rw [hg];exact bSz : w.heap.size ≤ gb279));clear HB;have HB:=n0_;have BK279:=n1_;have GW279:=n2_;have GE279:=n3_;clear n0_ n1_ n2_ n3_;clear hb hbox hg;obtain ⟨hcz21_0,hcz21_1,hcz21_2,hcz21_3,hfz21_0,hfz21_1,hfz21_2,hfz21_3⟩:=bC4 BK279.out)|((with_reducible refine gate_callee (f:=57) rfl ?_);refine gLs 8 Try.func57 #[.int .i64 a0_3,.int .i64 1,.int .i64 1000000] ?_;(with_reducible refine (spec_l01In.calls a0_3 1 1000000 false _ A5.out).mono ?_);rintro e w' ⟨rfl,⟨nd,rfl⟩⟩;refine ⟨_,rfl,?_⟩))
   go_ret
   exact ⟨eRf,by repeat (first|(with_reducible first|exact HB.out|apply bwA|apply bwN|apply bw1|refine below_set ?_ GE279.out)|exact HB.out)⟩
end
section
/-! ### spec_MeterAdd: function 20 -/
def spec_MeterAdd.f (a0_0 : Int) (a0_1 : Int) (a0_2 : Int) (a0_3 : Int) (a1 : Int) : Option (Int × Int × Int × Int × Int):=(spec_l06Meter.f a0_0 a0_1 a0_2 a0_3).bind fun t285 => (if t285 = true then ((spec_l06Value.f a1).bind fun t286 => (if t286 = true then (if a0_3 = 0 then (some (a1,a1,a1,1,0)) else ((spec_l06Floor.f (wrap64 (a1 - a0_0)) 4).bind fun t287 => (some (wrap64 (a0_0 + t287),mn a0_1 a1,mx a0_2 a1,mn 1000000 (wrap64 (a0_3 + 1)),0)))) else (some (0,0,0,0,4)))) else (some (0,0,0,0,1)))
def spec_MeterAdd.T7 : Bool × List (List Nat × List Nat):=(true,[([],[]),([0],[0]),([],[]),([],[]),([3],[3]),([2,4],[2,4]),([5],[5]),([1,6],[1,6]),([],[]),([8],[8]),([],[]),([9,10],[9,10]),([],[]),([12],[12]),([],[]),([13,14],[13,14]),([],[]),([16],[16]),([17],[17]),([18],[18]),([7,11,15,19],[7,11,15,19]),([20,6,0,1,2,3,4,5,6,7,8,9,10,11,12,13,14,15,16,17,18,19,20],[20]),([21,0,1,2,3,4,5,6,7,8,9,10,11,12,13,14,15,16,17,18,19,20,21],[])])
def spec_MeterAdd.B7 : List Nat:=[0,1,0,0,8,28,60,127,0,256,0,1792,0,4096,0,28672,0,65536,196608,458752,1048575,2097151,4194303]
theorem spec_MeterAdd.tab7 : rtab .any (opsOf Try.f20 7) = spec_MeterAdd.T7:=by kernel_rfl
theorem spec_MeterAdd.bits7 : waitsOk spec_MeterAdd.T7.2 spec_MeterAdd.B7 = true:=by kernel_rfl
set_option maxHeartbeats 8000000 in
set_option maxRecDepth 100000 in
theorem spec_MeterAdd.calls (a0_0 : Int) (a0_1 : Int) (a0_2 : Int) (a0_3 : Int) (a1 : Int) (r1 : Int) (r2 : Int) (r3 : Int) (r4 : Int) (r5 : Int) (w : World) (h : spec_MeterAdd.f a0_0 a0_1 a0_2 a0_3 a1 = some (r1,r2,r3,r4,r5)) :
  Calls Try.prog 20 #[.agg #[.int .i64 a0_0,.int .i64 a0_1,.int .i64 a0_2,.int .i64 a0_3],.int .i64 a1] w fun e w' => e = .returned (.tuple #[.agg #[.int .i64 r1,.int .i64 r2,.int .i64 r3,.int .i64 r4],.int .i64 r5]) ∧ Below w.heap.size w w':=by
 have hu39:=Try.underlying39
 have HB:=aMk (Below.refl w.heap.size w)
 have H : ((spec_l06Meter.f a0_0 a0_1 a0_2 a0_3).bind fun t285 => (if t285 = true then ((spec_l06Value.f a1).bind fun t286 => (if t286 = true then (if a0_3 = 0 then (some (a1,a1,a1,1,0)) else ((spec_l06Floor.f (wrap64 (a1 - a0_0)) 4).bind fun t287 => (some (wrap64 (a0_0 + t287),mn a0_1 a1,mx a0_2 a1,mn 1000000 (wrap64 (a0_3 + 1)),0)))) else (some (0,0,0,0,4)))) else (some (0,0,0,0,1)))) = some (r1,r2,r3,r4,r5):=h
 clear h
 replace H:=Option.bind_eq_some_iff.mp H
 obtain ⟨t285,A30,H⟩:=H
 replace H : (if t285 = true then ((spec_l06Value.f a1).bind fun t286 => (if t286 = true then (if a0_3 = 0 then (some (a1,a1,a1,1,0)) else ((spec_l06Floor.f (wrap64 (a1 - a0_0)) 4).bind fun t287 => (some (wrap64 (a0_0 + t287),mn a0_1 a1,mx a0_2 a1,mn 1000000 (wrap64 (a0_3 + 1)),0)))) else (some (0,0,0,0,4)))) else (some (0,0,0,0,1))) = some (r1,r2,r3,r4,r5):=H
 have A3:=aMk A30
 clear A30
 by_cases c4 : t285 = true
 ·subst c4
  have H1 : ((spec_l06Value.f a1).bind fun t286 => (if t286 = true then (if a0_3 = 0 then (some (a1,a1,a1,1,0)) else ((spec_l06Floor.f (wrap64 (a1 - a0_0)) 4).bind fun t287 => (some (wrap64 (a0_0 + t287),mn a0_1 a1,mx a0_2 a1,mn 1000000 (wrap64 (a0_3 + 1)),0)))) else (some (0,0,0,0,4)))) = some (r1,r2,r3,r4,r5):=by rw [if_pos rfl] at H;exact H
  clear H
  have H:=H1
  clear H1
  replace H:=Option.bind_eq_some_iff.mp H
  obtain ⟨t286,A50,H⟩:=H
  replace H : (if t286 = true then (if a0_3 = 0 then (some (a1,a1,a1,1,0)) else ((spec_l06Floor.f (wrap64 (a1 - a0_0)) 4).bind fun t287 => (some (wrap64 (a0_0 + t287),mn a0_1 a1,mx a0_2 a1,mn 1000000 (wrap64 (a0_3 + 1)),0)))) else (some (0,0,0,0,4))) = some (r1,r2,r3,r4,r5):=H
  have A5:=aMk A50
  clear A50
  by_cases c6 : t286 = true
  ·subst c6
   have H1 : (if a0_3 = 0 then (some (a1,a1,a1,1,0)) else ((spec_l06Floor.f (wrap64 (a1 - a0_0)) 4).bind fun t287 => (some (wrap64 (a0_0 + t287),mn a0_1 a1,mx a0_2 a1,mn 1000000 (wrap64 (a0_3 + 1)),0)))) = some (r1,r2,r3,r4,r5):=by rw [if_pos rfl] at H;exact H
   clear H
   have H:=H1
   clear H1
   by_cases c7 : a0_3 = 0
   ·rw [if_pos c7] at H
    have c7b0 : (a0_3 == 0) = true:=beq_iff_eq.mpr c7
    have c7b1 : (a0_3 != 0) = false:=bne_eq_false_iff_eq.mpr c7
    clear c7
    simp only [Option.some.injEq,Prod.mk.injEq] at H
    obtain ⟨rfl,rfl,rfl,rfl,rfl⟩:=H
    go_enter Try.func20,Try.ntmps20
    go_wp2_with (first|((with_reducible refine gate_dst (N:=2) rfl ?_);refine bxE (N:=2) (cs:=#[.int .i64 a0_0,.int .i64 a0_1,.int .i64 a0_2,.int .i64 a0_3]) (t:=39) ?_;intro gb283 hg w8 hbox hb;have n0_:=aMk (bSt hb);have n1_:=aMk (hbox);have n2_:=aMk ((by rw [hg];exact bSz : w.heap.size ≤ gb283));have n3_:=aMk ((by rw [hg];exact bSz : w.heap.size ≤ gb283));clear HB;have HB:=n0_;have BK283:=n1_;have GW283:=n2_;have GE283:=n3_;clear n0_ n1_ n2_ n3_;clear hb hbox hg)|((with_reducible refine gate_dst (N:=4) rfl ?_);refine bxE (N:=4) (cs:=#[.int .i64 0,.int .i64 0,.int .i64 0,.int .i64 0]) (t:=39) ?_;intro gb284 hg w9 hbox hb;have n0_:=aMk (bkB BK283.out hb);have n1_:=aMk (below_step (by repeat (first|(with_reducible first|exact HB.out|apply bwA|apply bwN|apply bw1|refine below_set ?_ GE283.out)|exact HB.out)) hb);have n2_:=aMk (hbox);have n3_:=aMk ((by rw [hg];exact (below_size (by repeat (first|(with_reducible first|exact HB.out|apply bwA|apply bwN|apply bw1|refine below_set ?_ GE283.out)|exact HB.out))) : w.heap.size ≤ gb284));have n4_:=aMk ((by rw [hg];exact (below_size (by repeat (first|(with_reducible first|exact HB.out|apply bwA|apply bwN|apply bw1|refine below_set ?_ GE283.out)|exact HB.out))) : w.heap.size ≤ gb284));have n5_:=aMk ((bkL BK283.out hg : gb283 ≠ gb284));have n6_:=aMk ((bkG BK283.out hg : gb284 ≠ gb283));clear BK283;clear HB;have BK283:=n0_;have HB:=n1_;have BK284:=n2_;have GW284:=n3_;have GE284:=n4_;have NB283_284:=n5_;have NB284_283:=n6_;clear n0_ n1_ n2_ n3_ n4_ n5_ n6_;clear hb hbox hg;have hnb10:=NB283_284.out;have hnc10:=NB284_283.out;obtain ⟨hcz11_0,hcz11_1,hcz11_2,hcz11_3,hfz11_0,hfz11_1,hfz11_2,hfz11_3⟩:=bC4 BK283.out)|((with_reducible refine gate_callee (f:=50) rfl ?_);refine gLs 7 Try.func50 #[.agg #[.int .i64 a0_0,.int .i64 a0_1,.int .i64 a0_2,.int .i64 a0_3]] ?_;(with_reducible refine (spec_l06Meter.calls a0_0 a0_1 a0_2 a0_3 true _ A3.out).mono ?_);rintro e w12 ⟨rfl,hb⟩;refine ⟨_,rfl,?_⟩;have n0_:=aMk (bkB BK283.out hb);have n1_:=aMk (bkB BK284.out hb);have n2_:=aMk (below_step (by repeat (first|(with_reducible first|exact HB.out|apply bwA|apply bwN|apply bw1|refine below_set ?_ GE283.out|refine below_set ?_ GE284.out)|exact HB.out)) hb);clear BK283;clear BK284;clear HB;have BK283:=n0_;have BK284:=n1_;have HB:=n2_;clear n0_ n1_ n2_;(try clear hb);(try clear hb2);(try clear hk);(try clear hi))|((with_reducible refine gate_callee (f:=35) rfl ?_);refine gLs 11 Try.func35 #[.int .i64 a1] ?_;(with_reducible refine (spec_l06Value.calls a1 true _ A5.out).mono ?_);rintro e w' ⟨rfl,⟨nd,rfl⟩⟩;refine ⟨_,rfl,?_⟩;(try (rw [drewN_self w12];generalize hq_ : World.drewN w12 _ = w12;have n0_ : Aside0 (w12.heap[gb283]? = some (.cells #[.int .i64 a0_0,.int .i64 a0_1,.int .i64 a0_2,.int .i64 a0_3] 39 (0,0))):=⟨by rw [← hq_];exact (by refine pB ?_;exact BK283.out)⟩;have n1_ : Aside0 (w12.heap[gb284]? = some (.cells #[.int .i64 0,.int .i64 0,.int .i64 0,.int .i64 0] 39 (0,0))):=⟨by rw [← hq_];exact (by refine pB ?_;exact BK284.out)⟩;have n2_ : Aside0 (Below w.heap.size w w12):=⟨by rw [← hq_];exact (by repeat (first|(with_reducible first|exact HB.out|apply bwA|apply bwN|apply bw1|refine below_set ?_ GE283.out|refine below_set ?_ GE284.out)|exact HB.out))⟩;clear BK283 BK284 HB hq_;have BK283:=n0_;have BK284:=n1_;have HB:=n2_;clear n0_ n1_ n2_));obtain ⟨hcz13_0,hcz13_1,hcz13_2,hcz13_3,hfz13_0,hfz13_1,hfz13_2,hfz13_3⟩:=bC4 BK283.out;obtain ⟨hcz14_0,hcz14_1,hcz14_2,hcz14_3,hfz14_0,hfz14_1,hfz14_2,hfz14_3⟩:=bC4 BK284.out))
    refine bodyPost_ret (results_ct rfl _ _ gb284 39 #[.int .i64 a1,.int .i64 a1,.int .i64 a1,.int .i64 1] (0,0) _ rfl (by refine pB ?_;refine blk_put (cs:=#[.int .i64 a1,.int .i64 a1,.int .i64 a1,.int .i64 0]) ?_ 3 _ rfl;refine pB ?_;refine blk_put (cs:=#[.int .i64 a1,.int .i64 a1,.int .i64 0,.int .i64 0]) ?_ 2 _ rfl;refine pB ?_;refine blk_put (cs:=#[.int .i64 a1,.int .i64 0,.int .i64 0,.int .i64 0]) ?_ 1 _ rfl;refine pB ?_;refine blk_put (cs:=#[.int .i64 0,.int .i64 0,.int .i64 0,.int .i64 0]) ?_ 0 _ rfl;refine pB ?_;exact BK284.out) Try.underlying39 rfl (by kernel_rfl)) rfl ?_
    exact ⟨eRf,by repeat (first|(with_reducible first|exact HB.out|apply bwA|apply bwN|apply bw1|refine below_set ?_ GE283.out|refine below_set ?_ GE284.out)|exact HB.out)⟩
   ·rw [if_neg c7] at H
    have c7b0 : (a0_3 == 0) = false:=beq_eq_false_iff_ne.mpr c7
    have c7b1 : (a0_3 != 0) = true:=bne_iff_ne.mpr c7
    replace H:=Option.bind_eq_some_iff.mp H
    obtain ⟨t287,A150,H⟩:=H
    replace H : (some (wrap64 (a0_0 + t287),mn a0_1 a1,mx a0_2 a1,mn 1000000 (wrap64 (a0_3 + 1)),0)) = some (r1,r2,r3,r4,r5):=H
    have A15:=aMk A150
    clear A150
    obtain ⟨ji16,hji16⟩ : ∃ j_ : Int,(mn a0_1 a1) = j_:=⟨_,rfl⟩
    replace H : (some (wrap64 (a0_0 + t287),ji16,mx a0_2 a1,mn 1000000 (wrap64 (a0_3 + 1)),0)) = some (r1,r2,r3,r4,r5):=by first|(rw [hji16] at H;exact H)|(simp only [hji16] at H ⊢;exact H)
    (try rw [hji16] at A3)
    (try rw [hji16] at A5)
    (try rw [hji16] at A15)
    have hji16_ : (if a1 < a0_1 then a1 else a0_1) = ji16:=hji16
    obtain ⟨ji17,hji17⟩ : ∃ j_ : Int,(mx a0_2 a1) = j_:=⟨_,rfl⟩
    replace H : (some (wrap64 (a0_0 + t287),ji16,ji17,mn 1000000 (wrap64 (a0_3 + 1)),0)) = some (r1,r2,r3,r4,r5):=by first|(rw [hji17] at H;exact H)|(simp only [hji17] at H ⊢;exact H)
    (try rw [hji17] at A3)
    (try rw [hji17] at A5)
    (try rw [hji17] at A15)
    have hji17_ : (if a0_2 < a1 then a1 else a0_2) = ji17:=hji17
    obtain ⟨ji18,hji18⟩ : ∃ j_ : Int,(mn 1000000 (wrap64 (a0_3 + 1))) = j_:=⟨_,rfl⟩
    replace H : (some (wrap64 (a0_0 + t287),ji16,ji17,ji18,0)) = some (r1,r2,r3,r4,r5):=by first|(rw [hji18] at H;exact H)|(simp only [hji18] at H ⊢;exact H)
    (try rw [hji18] at A3)
    (try rw [hji18] at A5)
    (try rw [hji18] at A15)
    (try (have hji18h : ji18 ≤ 1000000:=by (rw [← hji18];unfold mn;(repeat' split) <;> omega)))
    (try (have hji18g : ji18 ≤ 64:=by omega))
    have hji18_ : (if (wrap64 (a0_3 + 1)) < 1000000 then (wrap64 (a0_3 + 1)) else 1000000) = ji18:=hji18
    simp only [Option.some.injEq,Prod.mk.injEq] at H
    obtain ⟨rfl,rfl,rfl,rfl,rfl⟩:=H
    go_enter Try.func20,Try.ntmps20
    try go_wp2_with (first|((with_reducible refine gate_dst (N:=2) rfl ?_);refine bxE (N:=2) (cs:=#[.int .i64 a0_0,.int .i64 a0_1,.int .i64 a0_2,.int .i64 a0_3]) (t:=39) ?_;intro gb283 hg w19 hbox hb;have n0_:=aMk (bSt hb);have n1_:=aMk (hbox);have n2_:=aMk ((by rw [hg];exact bSz : w.heap.size ≤ gb283));have n3_:=aMk ((by rw [hg];exact bSz : w.heap.size ≤ gb283));clear HB;have HB:=n0_;have BK283:=n1_;have GW283:=n2_;have GE283:=n3_;clear n0_ n1_ n2_ n3_;clear hb hbox hg)|((with_reducible refine gate_dst (N:=4) rfl ?_);refine bxE (N:=4) (cs:=#[.int .i64 0,.int .i64 0,.int .i64 0,.int .i64 0]) (t:=39) ?_;intro gb284 hg w20 hbox hb;have n0_:=aMk (bkB BK283.out hb);have n1_:=aMk (below_step (by repeat (first|(with_reducible first|exact HB.out|apply bwA|apply bwN|apply bw1|refine below_set ?_ GE283.out)|exact HB.out)) hb);have n2_:=aMk (hbox);have n3_:=aMk ((by rw [hg];exact (below_size (by repeat (first|(with_reducible first|exact HB.out|apply bwA|apply bwN|apply bw1|refine below_set ?_ GE283.out)|exact HB.out))) : w.heap.size ≤ gb284));have n4_:=aMk ((by rw [hg];exact (below_size (by repeat (first|(with_reducible first|exact HB.out|apply bwA|apply bwN|apply bw1|refine below_set ?_ GE283.out)|exact HB.out))) : w.heap.size ≤ gb284));have n5_:=aMk ((bkL BK283.out hg : gb283 ≠ gb284));have n6_:=aMk ((bkG BK283.out hg : gb284 ≠ gb283));clear BK283;clear HB;have BK283:=n0_;have HB:=n1_;have BK284:=n2_;have GW284:=n3_;have GE284:=n4_;have NB283_284:=n5_;have NB284_283:=n6_;clear n0_ n1_ n2_ n3_ n4_ n5_ n6_;clear hb hbox hg;have hnb21:=NB283_284.out;have hnc21:=NB284_283.out;obtain ⟨hcz22_0,hcz22_1,hcz22_2,hcz22_3,hfz22_0,hfz22_1,hfz22_2,hfz22_3⟩:=bC4 BK283.out)|((with_reducible refine gate_callee (f:=50) rfl ?_);refine gLs 7 Try.func50 #[.agg #[.int .i64 a0_0,.int .i64 a0_1,.int .i64 a0_2,.int .i64 a0_3]] ?_;(with_reducible refine (spec_l06Meter.calls a0_0 a0_1 a0_2 a0_3 true _ A3.out).mono ?_);rintro e w23 ⟨rfl,hb⟩;refine ⟨_,rfl,?_⟩;have n0_:=aMk (bkB BK283.out hb);have n1_:=aMk (bkB BK284.out hb);have n2_:=aMk (below_step (by repeat (first|(with_reducible first|exact HB.out|apply bwA|apply bwN|apply bw1|refine below_set ?_ GE283.out|refine below_set ?_ GE284.out)|exact HB.out)) hb);clear BK283;clear BK284;clear HB;have BK283:=n0_;have BK284:=n1_;have HB:=n2_;clear n0_ n1_ n2_;(try clear hb);(try clear hb2);(try clear hk);(try clear hi))|((with_reducible refine gate_callee (f:=35) rfl ?_);refine gLs 11 Try.func35 #[.int .i64 a1] ?_;(with_reducible refine (spec_l06Value.calls a1 true _ A5.out).mono ?_);rintro e w' ⟨rfl,⟨nd,rfl⟩⟩;refine ⟨_,rfl,?_⟩;(try (rw [drewN_self w23];generalize hq_ : World.drewN w23 _ = w23;have n0_ : Aside0 (w23.heap[gb283]? = some (.cells #[.int .i64 a0_0,.int .i64 a0_1,.int .i64 a0_2,.int .i64 a0_3] 39 (0,0))):=⟨by rw [← hq_];exact (by refine pB ?_;exact BK283.out)⟩;have n1_ : Aside0 (w23.heap[gb284]? = some (.cells #[.int .i64 0,.int .i64 0,.int .i64 0,.int .i64 0] 39 (0,0))):=⟨by rw [← hq_];exact (by refine pB ?_;exact BK284.out)⟩;have n2_ : Aside0 (Below w.heap.size w w23):=⟨by rw [← hq_];exact (by repeat (first|(with_reducible first|exact HB.out|apply bwA|apply bwN|apply bw1|refine below_set ?_ GE283.out|refine below_set ?_ GE284.out)|exact HB.out))⟩;clear BK283 BK284 HB hq_;have BK283:=n0_;have BK284:=n1_;have HB:=n2_;clear n0_ n1_ n2_));obtain ⟨hcz24_0,hcz24_1,hcz24_2,hcz24_3,hfz24_0,hfz24_1,hfz24_2,hfz24_3⟩:=bC4 BK283.out))
    have n0_:=aMk (bDr BK283.out)
    have n1_:=aMk (bDr BK284.out)
    have n2_:=aMk (bw1 HB.out)
    clear BK283
    clear BK284
    clear HB
    have BK283:=n0_
    have BK284:=n1_
    have HB:=n2_
    clear n0_ n1_ n2_
    refine start_ (n:=23) (S:=fun w' => w'.cell? ⟨gb283,0,none⟩ = some (.int .i64 a0_0) ∧ w'.cell? ⟨gb283,1,none⟩ = some (.int .i64 a0_1) ∧ w'.cell? ⟨gb283,2,none⟩ = some (.int .i64 a0_2) ∧ w'.cell? ⟨gb283,3,none⟩ = some (.int .i64 a0_3)) (ds:=[]) #[false,false,false,false,false,false,false,false,false,false,false,false,false,false,false,false,false,false,false,false,false,false,false] (by kernel_rfl) rfl rfl ⟨(bCe BK283.out 0).trans rfl,(bCe BK283.out 1).trans rfl,(bCe BK283.out 2).trans rfl,(bCe BK283.out 3).trans rfl⟩ (fun hHeld => ?_);refine with_tabW spec_MeterAdd.tab7 spec_MeterAdd.bits7 (fun HT_ HW_ => ?_)
    generalize w23.drew = w25 at BK283 BK284 HB hHeld ⊢
    refine pU (i:=0) (N:=some 21) #[true,false,false,false,false,false,false,false,false,false,false,false,false,false,false,false,false,false,false,false,false,false,false] (any_of HT_.out (by kernel_rfl)) ?_
    refine pU (i:=2) (N:=some 23) #[true,false,true,false,false,false,false,false,false,false,false,false,false,false,false,false,false,false,false,false,false,false,false] (any_of HT_.out (by kernel_rfl)) ?_
    refine pU (i:=3) (N:=some 24) #[true,false,true,true,false,false,false,false,false,false,false,false,false,false,false,false,false,false,false,false,false,false,false] (any_of HT_.out (by kernel_rfl)) ?_
    refine pU (i:=8) (N:=some 29) #[true,false,true,true,false,false,false,false,true,false,false,false,false,false,false,false,false,false,false,false,false,false,false] (any_of HT_.out (by kernel_rfl)) ?_
    refine pU (i:=10) (N:=some 31) #[true,false,true,true,false,false,false,false,true,false,true,false,false,false,false,false,false,false,false,false,false,false,false] (any_of HT_.out (by kernel_rfl)) ?_
    refine pU (i:=12) (N:=some 33) #[true,false,true,true,false,false,false,false,true,false,true,false,true,false,false,false,false,false,false,false,false,false,false] (any_of HT_.out (by kernel_rfl)) ?_
    refine pU (i:=14) (N:=some 35) #[true,false,true,true,false,false,false,false,true,false,true,false,true,false,true,false,false,false,false,false,false,false,false] (any_of HT_.out (by kernel_rfl)) ?_
    refine pU (i:=16) (N:=some 37) #[true,false,true,true,false,false,false,false,true,false,true,false,true,false,true,false,true,false,false,false,false,false,false] (any_of HT_.out (by kernel_rfl)) ?_
    refine tU4 (i:=1) (N:=some 22) #[true,true,true,true,false,false,false,false,true,false,true,false,true,false,true,false,true,false,false,false,false,false,false] (take_ofW HT_.out HW_.out (by kernel_rfl)) hHeld ?_
    refine tU4 (i:=4) (N:=some 25) #[true,true,true,true,true,false,false,false,true,false,true,false,true,false,true,false,true,false,false,false,false,false,false] (take_ofW HT_.out HW_.out (by kernel_rfl)) hHeld ?_
    refine pU (i:=5) (N:=some 26) #[true,true,true,true,true,true,false,false,true,false,true,false,true,false,true,false,true,false,false,false,false,false,false] (any_of HT_.out (by kernel_rfl)) ?_
    refine tU4 (i:=9) (N:=some 30) #[true,true,true,true,true,true,false,false,true,true,true,false,true,false,true,false,true,false,false,false,false,false,false] (take_ofW HT_.out HW_.out (by kernel_rfl)) hHeld ?_
    refine pU (i:=11) (N:=some 32) #[true,true,true,true,true,true,false,false,true,true,true,true,true,false,true,false,true,false,false,false,false,false,false] (any_of HT_.out (by kernel_rfl)) ?_
    refine tU4 (i:=13) (N:=some 34) #[true,true,true,true,true,true,false,false,true,true,true,true,true,true,true,false,true,false,false,false,false,false,false] (take_ofW HT_.out HW_.out (by kernel_rfl)) hHeld ?_
    refine pU (i:=15) (N:=some 36) #[true,true,true,true,true,true,false,false,true,true,true,true,true,true,true,true,true,false,false,false,false,false,false] (any_of HT_.out (by kernel_rfl)) ?_
    refine tU4 (i:=17) (N:=some 38) #[true,true,true,true,true,true,false,false,true,true,true,true,true,true,true,true,true,true,false,false,false,false,false] (take_ofW HT_.out HW_.out (by kernel_rfl)) hHeld ?_
    refine pU (i:=18) (N:=some 39) #[true,true,true,true,true,true,false,false,true,true,true,true,true,true,true,true,true,true,true,false,false,false,false] (any_of HT_.out (by kernel_rfl)) ?_
    refine pU (i:=19) (N:=some 40) #[true,true,true,true,true,true,false,false,true,true,true,true,true,true,true,true,true,true,true,true,false,false,false] (any_of HT_.out (by kernel_rfl)) ?_
    refine one_ (i:=6) (N:=some 27) #[true,true,true,true,true,true,true,false,true,true,true,true,true,true,true,true,true,true,true,true,false,false,false] rfl rfl (one_of HT_.out (by kernel_rfl)) (by decide) (fun K hK => ?_)
    refine goes_ Try.func36 (by kernel_rfl) rfl #[.int .i64 (wrap64 (a1 - a0_0)),.int .i64 4] (by rfl) rfl rfl (by (try simp only [List.map_toArray,List.map_cons,List.map_nil]);first | done | rfl|(simp only [List.length_drop,List.length_take];rfl)) ?_
    with_reducible refine (spec_l06Floor.calls (wrap64 (a1 - a0_0)) 4 t287 _ A15.out).mono ?_
    rintro e w' ⟨rfl,⟨nd,rfl⟩⟩
    refine ⟨_,rfl,?_⟩
    refine hK.out _ _ ⟨(bCe BK283.out 0).trans rfl,(bCe BK283.out 1).trans rfl,(bCe BK283.out 2).trans rfl,(bCe BK283.out 3).trans rfl⟩ (fun hHeld => ?_)
    clear hK K
    refine norm_ (a':=?_) ?_ ?_
    rotate_left
    ·show Act.put _ (some 27) _ = _
     simp only [Act.put,List.setIfInBounds_toArray,List.set_cons_zero,List.set_cons_succ,i64_w,i32_w]
     rfl
    refine pU (i:=7) (N:=some 28) #[true,true,true,true,true,true,true,true,true,true,true,true,true,true,true,true,true,true,true,true,false,false,false] (any_of HT_.out (by kernel_rfl)) ?_
    refine pU (i:=20) (N:=some 41) #[true,true,true,true,true,true,true,true,true,true,true,true,true,true,true,true,true,true,true,true,true,false,false] (any_of HT_.out (by kernel_rfl)) ?_
    refine one_ (i:=21) (N:=none) #[true,true,true,true,true,true,true,true,true,true,true,true,true,true,true,true,true,true,true,true,true,true,false] rfl rfl (one_of HT_.out (by kernel_rfl)) (by decide) (fun K hK => ?_)
    have hs26 : w25.cell? ⟨gb284,0,none⟩ = some (.int .i64 0):=(bCe BK284.out 0).trans rfl
    have hfs26:=bFr BK284.out 0
    have hns26_0:=NB283_284.out
    have hms26_0:=NB284_283.out
    have hs27 : w25.cell? ⟨gb284,1,none⟩ = some (.int .i64 0):=(bCe BK284.out 1).trans rfl
    have hfs27:=bFr BK284.out 1
    have hns27_0:=NB283_284.out
    have hms27_0:=NB284_283.out
    have hs28 : w25.cell? ⟨gb284,2,none⟩ = some (.int .i64 0):=(bCe BK284.out 2).trans rfl
    have hfs28:=bFr BK284.out 2
    have hns28_0:=NB283_284.out
    have hms28_0:=NB284_283.out
    have hs29 : w25.cell? ⟨gb284,3,none⟩ = some (.int .i64 0):=(bCe BK284.out 3).trans rfl
    have hfs29:=bFr BK284.out 3
    have hns29_0:=NB283_284.out
    have hms29_0:=NB284_283.out
    refine skip_ (w1:=?_) (by rfl) rfl ?_ ?_
    rotate_left
    ·go_simp
     rfl
    refine hK.out _ _ ⟨((cell_far (p:=⟨gb284,_,none⟩) NB283_284.out _).trans (((cell_far (p:=⟨gb284,_,none⟩) NB283_284.out _).trans (((cell_far (p:=⟨gb284,_,none⟩) NB283_284.out _).trans (((cell_far (p:=⟨gb284,_,none⟩) NB283_284.out _).trans (hHeld.1)))))))),((cell_far (p:=⟨gb284,_,none⟩) NB283_284.out _).trans (((cell_far (p:=⟨gb284,_,none⟩) NB283_284.out _).trans (((cell_far (p:=⟨gb284,_,none⟩) NB283_284.out _).trans (((cell_far (p:=⟨gb284,_,none⟩) NB283_284.out _).trans (hHeld.2.1)))))))),((cell_far (p:=⟨gb284,_,none⟩) NB283_284.out _).trans (((cell_far (p:=⟨gb284,_,none⟩) NB283_284.out _).trans (((cell_far (p:=⟨gb284,_,none⟩) NB283_284.out _).trans (((cell_far (p:=⟨gb284,_,none⟩) NB283_284.out _).trans (hHeld.2.2.1)))))))),((cell_far (p:=⟨gb284,_,none⟩) NB283_284.out _).trans (((cell_far (p:=⟨gb284,_,none⟩) NB283_284.out _).trans (((cell_far (p:=⟨gb284,_,none⟩) NB283_284.out _).trans (((cell_far (p:=⟨gb284,_,none⟩) NB283_284.out _).trans (hHeld.2.2.2))))))))⟩ (fun hHeld => ?_)
    clear hK K
    refine pU (i:=22) (N:=some 5) #[true,true,true,true,true,true,true,true,true,true,true,true,true,true,true,true,true,true,true,true,true,true,true] (any_of HT_.out (by kernel_rfl)) ?_
    refine done_ (done_of HT_.out (by kernel_rfl)) ?_
    try go_wp2
    refine bodyPost_ret (results_ct rfl _ _ gb284 39 #[.int .i64 (wrap64 (a0_0 + t287)),.int .i64 ji16,.int .i64 ji17,.int .i64 ji18] (0,0) _ rfl (by refine pB ?_;refine blk_put (cs:=#[.int .i64 (wrap64 (a0_0 + t287)),.int .i64 ji16,.int .i64 ji17,.int .i64 0]) ?_ 3 _ rfl;refine pB ?_;refine blk_put (cs:=#[.int .i64 (wrap64 (a0_0 + t287)),.int .i64 ji16,.int .i64 0,.int .i64 0]) ?_ 2 _ rfl;refine pB ?_;refine blk_put (cs:=#[.int .i64 (wrap64 (a0_0 + t287)),.int .i64 0,.int .i64 0,.int .i64 0]) ?_ 1 _ rfl;refine pB ?_;refine blk_put (cs:=#[.int .i64 0,.int .i64 0,.int .i64 0,.int .i64 0]) ?_ 0 _ rfl;refine pB ?_;exact BK284.out) Try.underlying39 rfl (by kernel_rfl)) rfl ?_
    exact ⟨by first | rfl|(simp [errW_none,errW_some] <;> rfl)|(simp only [← hji16,← hji17,← hji18];first | rfl|(simp [errW_none,errW_some] <;> rfl))|(simp [*,errW_none,errW_some] <;> rfl),by repeat (first|(with_reducible first|exact HB.out|apply bwA|apply bwN|apply bw1|refine below_set ?_ GE283.out|refine below_set ?_ GE284.out)|exact HB.out)⟩
  ·replace c6:=Bool.eq_false_iff.mpr c6
   subst c6
   have H1 : (some (0,0,0,0,4)) = some (r1,r2,r3,r4,r5):=by rw [if_neg (show ¬ (false = true) by decide)] at H;exact H
   clear H
   have H:=H1
   clear H1
   simp only [Option.some.injEq,Prod.mk.injEq] at H
   obtain ⟨rfl,rfl,rfl,rfl,rfl⟩:=H
   go_enter Try.func20,Try.ntmps20
   go_wp2_with (first|((with_reducible refine gate_dst (N:=2) rfl ?_);refine bxE (N:=2) (cs:=#[.int .i64 a0_0,.int .i64 a0_1,.int .i64 a0_2,.int .i64 a0_3]) (t:=39) ?_;intro gb283 hg w30 hbox hb;have n0_:=aMk (bSt hb);have n1_:=aMk (hbox);have n2_:=aMk ((by rw [hg];exact bSz : w.heap.size ≤ gb283));have n3_:=aMk ((by rw [hg];exact bSz : w.heap.size ≤ gb283));clear HB;have HB:=n0_;have BK283:=n1_;have GW283:=n2_;have GE283:=n3_;clear n0_ n1_ n2_ n3_;clear hb hbox hg)|((with_reducible refine gate_dst (N:=4) rfl ?_);refine bxE (N:=4) (cs:=#[.int .i64 0,.int .i64 0,.int .i64 0,.int .i64 0]) (t:=39) ?_;intro gb284 hg w31 hbox hb;have n0_:=aMk (bkB BK283.out hb);have n1_:=aMk (below_step (by repeat (first|(with_reducible first|exact HB.out|apply bwA|apply bwN|apply bw1|refine below_set ?_ GE283.out)|exact HB.out)) hb);have n2_:=aMk (hbox);have n3_:=aMk ((by rw [hg];exact (below_size (by repeat (first|(with_reducible first|exact HB.out|apply bwA|apply bwN|apply bw1|refine below_set ?_ GE283.out)|exact HB.out))) : w.heap.size ≤ gb284));have n4_:=aMk ((by rw [hg];exact (below_size (by repeat (first|(with_reducible first|exact HB.out|apply bwA|apply bwN|apply bw1|refine below_set ?_ GE283.out)|exact HB.out))) : w.heap.size ≤ gb284));have n5_:=aMk ((bkL BK283.out hg : gb283 ≠ gb284));have n6_:=aMk ((bkG BK283.out hg : gb284 ≠ gb283));clear BK283;clear HB;have BK283:=n0_;have HB:=n1_;have BK284:=n2_;have GW284:=n3_;have GE284:=n4_;have NB283_284:=n5_;have NB284_283:=n6_;clear n0_ n1_ n2_ n3_ n4_ n5_ n6_;clear hb hbox hg;have hnb32:=NB283_284.out;have hnc32:=NB284_283.out;obtain ⟨hcz33_0,hcz33_1,hcz33_2,hcz33_3,hfz33_0,hfz33_1,hfz33_2,hfz33_3⟩:=bC4 BK283.out)|((with_reducible refine gate_callee (f:=50) rfl ?_);refine gLs 7 Try.func50 #[.agg #[.int .i64 a0_0,.int .i64 a0_1,.int .i64 a0_2,.int .i64 a0_3]] ?_;(with_reducible refine (spec_l06Meter.calls a0_0 a0_1 a0_2 a0_3 true _ A3.out).mono ?_);rintro e w34 ⟨rfl,hb⟩;refine ⟨_,rfl,?_⟩;have n0_:=aMk (bkB BK283.out hb);have n1_:=aMk (bkB BK284.out hb);have n2_:=aMk (below_step (by repeat (first|(with_reducible first|exact HB.out|apply bwA|apply bwN|apply bw1|refine below_set ?_ GE283.out|refine below_set ?_ GE284.out)|exact HB.out)) hb);clear BK283;clear BK284;clear HB;have BK283:=n0_;have BK284:=n1_;have HB:=n2_;clear n0_ n1_ n2_;(try clear hb);(try clear hb2);(try clear hk);(try clear hi))|((with_reducible refine gate_callee (f:=35) rfl ?_);refine gLs 11 Try.func35 #[.int .i64 a1] ?_;(with_reducible refine (spec_l06Value.calls a1 false _ A5.out).mono ?_);rintro e w' ⟨rfl,⟨nd,rfl⟩⟩;refine ⟨_,rfl,?_⟩;(try (rw [drewN_self w34];generalize hq_ : World.drewN w34 _ = w34;have n0_ : Aside0 (w34.heap[gb283]? = some (.cells #[.int .i64 a0_0,.int .i64 a0_1,.int .i64 a0_2,.int .i64 a0_3] 39 (0,0))):=⟨by rw [← hq_];exact (by refine pB ?_;exact BK283.out)⟩;have n1_ : Aside0 (w34.heap[gb284]? = some (.cells #[.int .i64 0,.int .i64 0,.int .i64 0,.int .i64 0] 39 (0,0))):=⟨by rw [← hq_];exact (by refine pB ?_;exact BK284.out)⟩;have n2_ : Aside0 (Below w.heap.size w w34):=⟨by rw [← hq_];exact (by repeat (first|(with_reducible first|exact HB.out|apply bwA|apply bwN|apply bw1|refine below_set ?_ GE283.out|refine below_set ?_ GE284.out)|exact HB.out))⟩;clear BK283 BK284 HB hq_;have BK283:=n0_;have BK284:=n1_;have HB:=n2_;clear n0_ n1_ n2_));obtain ⟨hcz35_0,hcz35_1,hcz35_2,hcz35_3,hfz35_0,hfz35_1,hfz35_2,hfz35_3⟩:=bC4 BK284.out))
   refine bodyPost_ret (results_ct rfl _ _ gb284 39 #[.int .i64 0,.int .i64 0,.int .i64 0,.int .i64 0] (0,0) _ rfl (by refine pB ?_;refine blk_put (cs:=#[.int .i64 0,.int .i64 0,.int .i64 0,.int .i64 0]) ?_ 3 _ rfl;refine pB ?_;refine blk_put (cs:=#[.int .i64 0,.int .i64 0,.int .i64 0,.int .i64 0]) ?_ 2 _ rfl;refine pB ?_;refine blk_put (cs:=#[.int .i64 0,.int .i64 0,.int .i64 0,.int .i64 0]) ?_ 1 _ rfl;refine pB ?_;refine blk_put (cs:=#[.int .i64 0,.int .i64 0,.int .i64 0,.int .i64 0]) ?_ 0 _ rfl;refine pB ?_;exact BK284.out) Try.underlying39 rfl (by kernel_rfl)) rfl ?_
   exact ⟨eRf,by repeat (first|(with_reducible first|exact HB.out|apply bwA|apply bwN|apply bw1|refine below_set ?_ GE283.out|refine below_set ?_ GE284.out)|exact HB.out)⟩
 ·replace c4:=Bool.eq_false_iff.mpr c4
  subst c4
  have H1 : (some (0,0,0,0,1)) = some (r1,r2,r3,r4,r5):=by rw [if_neg (show ¬ (false = true) by decide)] at H;exact H
  clear H
  have H:=H1
  clear H1
  simp only [Option.some.injEq,Prod.mk.injEq] at H
  obtain ⟨rfl,rfl,rfl,rfl,rfl⟩:=H
  go_enter Try.func20,Try.ntmps20
  go_wp2_with (first|((with_reducible refine gate_dst (N:=2) rfl ?_);refine bxE (N:=2) (cs:=#[.int .i64 a0_0,.int .i64 a0_1,.int .i64 a0_2,.int .i64 a0_3]) (t:=39) ?_;intro gb283 hg w36 hbox hb;have n0_:=aMk (bSt hb);have n1_:=aMk (hbox);have n2_:=aMk ((by rw [hg];exact bSz : w.heap.size ≤ gb283));have n3_:=aMk ((by rw [hg];exact bSz : w.heap.size ≤ gb283));clear HB;have HB:=n0_;have BK283:=n1_;have GW283:=n2_;have GE283:=n3_;clear n0_ n1_ n2_ n3_;clear hb hbox hg)|((with_reducible refine gate_dst (N:=4) rfl ?_);refine bxE (N:=4) (cs:=#[.int .i64 0,.int .i64 0,.int .i64 0,.int .i64 0]) (t:=39) ?_;intro gb284 hg w37 hbox hb;have n0_:=aMk (bkB BK283.out hb);have n1_:=aMk (below_step (by repeat (first|(with_reducible first|exact HB.out|apply bwA|apply bwN|apply bw1|refine below_set ?_ GE283.out)|exact HB.out)) hb);have n2_:=aMk (hbox);have n3_:=aMk ((by rw [hg];exact (below_size (by repeat (first|(with_reducible first|exact HB.out|apply bwA|apply bwN|apply bw1|refine below_set ?_ GE283.out)|exact HB.out))) : w.heap.size ≤ gb284));have n4_:=aMk ((by rw [hg];exact (below_size (by repeat (first|(with_reducible first|exact HB.out|apply bwA|apply bwN|apply bw1|refine below_set ?_ GE283.out)|exact HB.out))) : w.heap.size ≤ gb284));have n5_:=aMk ((bkL BK283.out hg : gb283 ≠ gb284));have n6_:=aMk ((bkG BK283.out hg : gb284 ≠ gb283));clear BK283;clear HB;have BK283:=n0_;have HB:=n1_;have BK284:=n2_;have GW284:=n3_;have GE284:=n4_;have NB283_284:=n5_;have NB284_283:=n6_;clear n0_ n1_ n2_ n3_ n4_ n5_ n6_;clear hb hbox hg;have hnb38:=NB283_284.out;have hnc38:=NB284_283.out;obtain ⟨hcz39_0,hcz39_1,hcz39_2,hcz39_3,hfz39_0,hfz39_1,hfz39_2,hfz39_3⟩:=bC4 BK283.out)|((with_reducible refine gate_callee (f:=50) rfl ?_);refine gLs 7 Try.func50 #[.agg #[.int .i64 a0_0,.int .i64 a0_1,.int .i64 a0_2,.int .i64 a0_3]] ?_;(with_reducible refine (spec_l06Meter.calls a0_0 a0_1 a0_2 a0_3 false _ A3.out).mono ?_);rintro e w40 ⟨rfl,hb⟩;refine ⟨_,rfl,?_⟩;have n0_:=aMk (bkB BK283.out hb);have n1_:=aMk (bkB BK284.out hb);have n2_:=aMk (below_step (by repeat (first|(with_reducible first|exact HB.out|apply bwA|apply bwN|apply bw1|refine below_set ?_ GE283.out|refine below_set ?_ GE284.out)|exact HB.out)) hb);clear BK283;clear BK284;clear HB;have BK283:=n0_;have BK284:=n1_;have HB:=n2_;clear n0_ n1_ n2_;(try clear hb);(try clear hb2);(try clear hk);(try clear hi);obtain ⟨hcz41_0,hcz41_1,hcz41_2,hcz41_3,hfz41_0,hfz41_1,hfz41_2,hfz41_3⟩:=bC4 BK284.out))
  refine bodyPost_ret (results_ct rfl _ _ gb284 39 #[.int .i64 0,.int .i64 0,.int .i64 0,.int .i64 0] (0,0) _ rfl (by refine pB ?_;refine blk_put (cs:=#[.int .i64 0,.int .i64 0,.int .i64 0,.int .i64 0]) ?_ 3 _ rfl;refine pB ?_;refine blk_put (cs:=#[.int .i64 0,.int .i64 0,.int .i64 0,.int .i64 0]) ?_ 2 _ rfl;refine pB ?_;refine blk_put (cs:=#[.int .i64 0,.int .i64 0,.int .i64 0,.int .i64 0]) ?_ 1 _ rfl;refine pB ?_;refine blk_put (cs:=#[.int .i64 0,.int .i64 0,.int .i64 0,.int .i64 0]) ?_ 0 _ rfl;refine pB ?_;exact BK284.out) Try.underlying39 rfl (by kernel_rfl)) rfl ?_
  exact ⟨eRf,by repeat (first|(with_reducible first|exact HB.out|apply bwA|apply bwN|apply bw1|refine below_set ?_ GE283.out|refine below_set ?_ GE284.out)|exact HB.out)⟩
end
section
/-! ### laws_at: function 21 -/
def laws_at.f (l0 : List Int) (a1 : Int) (a2 : Int) : Option (Int):=if a2 ≤ 1 then (some 0) else (if (l0.length : Int) = 0 then (if a2 = 0 then (none) else (some (Int.tmod (wrap64 (a1 * 7)) a2))) else (if 0 ≤ (Int.tmod a1 (l0.length : Int)) then (if (Int.tmod a1 (l0.length : Int)) < (l0.length : Int) then (if 0 ≤ (Int.tmod (wrap64 (a1 + 1)) (l0.length : Int)) then (if (Int.tmod (wrap64 (a1 + 1)) (l0.length : Int)) < (l0.length : Int) then (if a2 = 0 then (none) else (some (Int.tmod (wrap64 ((wrap64 ((wrap64 ((wrap64 (rd l0 (Int.tmod a1 (l0.length : Int)))) * 31)) + (wrap64 (rd l0 (Int.tmod (wrap64 (a1 + 1)) (l0.length : Int)))))) + (wrap64 (Int.tdiv a1 (l0.length : Int))))) a2))) else (none)) else (none)) else (none)) else (none)))
set_option maxHeartbeats 8000000 in
set_option maxRecDepth 100000 in
theorem laws_at.calls (A0 : Option Addr) (c0 : Nat) (l0 : List Int) (a1 : Int) (a2 : Int) (r : Int) (w : World) (hr0 : Kd.C (Kd.int .u8) w A0 l0.length l0) (hc0 : l0.length ≤ c0) (h : laws_at.f l0 a1 a2 = some r) :
  Calls Try.prog 21 #[.slice A0 l0.length c0,.int .i64 a1,.int .i64 a2] w fun e w' => e = .returned (.int .i64 r) ∧ Drawn0 w w':=by
 have HR0:=aMk hr0
 have HC0:=aMk hc0
 clear hr0 hc0
 have H : (if a2 ≤ 1 then (some 0) else (if (l0.length : Int) = 0 then (if a2 = 0 then (none) else (some (Int.tmod (wrap64 (a1 * 7)) a2))) else (if 0 ≤ (Int.tmod a1 (l0.length : Int)) then (if (Int.tmod a1 (l0.length : Int)) < (l0.length : Int) then (if 0 ≤ (Int.tmod (wrap64 (a1 + 1)) (l0.length : Int)) then (if (Int.tmod (wrap64 (a1 + 1)) (l0.length : Int)) < (l0.length : Int) then (if a2 = 0 then (none) else (some (Int.tmod (wrap64 ((wrap64 ((wrap64 ((wrap64 (rd l0 (Int.tmod a1 (l0.length : Int)))) * 31)) + (wrap64 (rd l0 (Int.tmod (wrap64 (a1 + 1)) (l0.length : Int)))))) + (wrap64 (Int.tdiv a1 (l0.length : Int))))) a2))) else (none)) else (none)) else (none)) else (none)))) = some r:=h
 clear h
 by_cases c4 : a2 ≤ 1
 ·rw [if_pos c4] at H
  have c4b0 : decide (a2 ≤ 1) = true:=decide_eq_true c4
  clear c4
  obtain rfl:=Option.some.inj H
  go_enter Try.func21,Try.ntmps21
  go_wp2
  repeat (go_quiet (fail);try go_wp2)
  go_ret
  exact ⟨by first | rfl|(simp;done)|(simp [*];done)|(simp [ne_nil_b];done)|(simp [ne_nil_b, *];done),by repeat (first|exact Drawn0.refl _|apply Drawn0.step)⟩
 ·rw [if_neg c4] at H
  have c4b0 : decide (a2 ≤ 1) = false:=decide_eq_false c4
  clear c4
  by_cases c5 : (l0.length : Int) = 0
  ·rw [if_pos c5] at H
   have c5b0 : ((l0.length : Int) == 0) = true:=beq_iff_eq.mpr c5
   have c5b1 : ((l0.length : Int) != 0) = false:=bne_eq_false_iff_eq.mpr c5
   clear c5
   by_cases c6 : a2 = 0
   ·rw [if_pos c6] at H
    exact absurd H (by simp)
   ·rw [if_neg c6] at H
    have c6b0 : (a2 == 0) = false:=beq_eq_false_iff_ne.mpr c6
    have c6b1 : (a2 != 0) = true:=bne_iff_ne.mpr c6
    obtain rfl:=Option.some.inj H
    go_enter Try.func21,Try.ntmps21
    go_wp2
    repeat (go_quiet (fail);try go_wp2)
    go_ret
    exact ⟨by first | rfl|(simp;done)|(simp [*];done)|(simp [ne_nil_b];done)|(simp [ne_nil_b, *];done),by repeat (first|exact Drawn0.refl _|apply Drawn0.step)⟩
  ·rw [if_neg c5] at H
   have c5b0 : ((l0.length : Int) == 0) = false:=beq_eq_false_iff_ne.mpr c5
   have c5b1 : ((l0.length : Int) != 0) = true:=bne_iff_ne.mpr c5
   have c5b2 : ¬ (l0 = []):=fun h_ => c5 (by rw [h_];rfl)
   obtain ⟨ji7,hji7⟩ : ∃ j_ : Int,(Int.tmod a1 (l0.length : Int)) = j_:=⟨_,rfl⟩
   replace H : (if 0 ≤ (ji7) then (if (ji7) < (l0.length : Int) then (if 0 ≤ (Int.tmod (wrap64 (a1 + 1)) (l0.length : Int)) then (if (Int.tmod (wrap64 (a1 + 1)) (l0.length : Int)) < (l0.length : Int) then (if a2 = 0 then (none) else (some (Int.tmod (wrap64 ((wrap64 ((wrap64 ((wrap64 (rd l0 (ji7))) * 31)) + (wrap64 (rd l0 (Int.tmod (wrap64 (a1 + 1)) (l0.length : Int)))))) + (wrap64 (Int.tdiv a1 (l0.length : Int))))) a2))) else (none)) else (none)) else (none)) else (none)) = some r:=by first|(rw [hji7] at H;exact H)|(simp only [hji7] at H ⊢;exact H)
   by_cases c8 : 0 ≤ (ji7)
   ·rw [if_pos c8] at H
    have c8b0 : decide (0 ≤ (ji7)) = true:=decide_eq_true c8
    clear c8
    by_cases c9 : (ji7) < (l0.length : Int)
    ·rw [if_pos c9] at H
     have c9b0 : decide ((ji7) < (l0.length : Int)) = true:=decide_eq_true c9
     clear c9
     obtain ⟨ji10,hji10⟩ : ∃ j_ : Int,(Int.tmod (wrap64 (a1 + 1)) (l0.length : Int)) = j_:=⟨_,rfl⟩
     replace H : (if 0 ≤ (ji10) then (if (ji10) < (l0.length : Int) then (if a2 = 0 then (none) else (some (Int.tmod (wrap64 ((wrap64 ((wrap64 ((wrap64 (rd l0 (ji7))) * 31)) + (wrap64 (rd l0 (ji10))))) + (wrap64 (Int.tdiv a1 (l0.length : Int))))) a2))) else (none)) else (none)) = some r:=by first|(rw [hji10] at H;exact H)|(simp only [hji10] at H ⊢;exact H)
     by_cases c11 : 0 ≤ (ji10)
     ·rw [if_pos c11] at H
      have c11b0 : decide (0 ≤ (ji10)) = true:=decide_eq_true c11
      clear c11
      by_cases c12 : (ji10) < (l0.length : Int)
      ·rw [if_pos c12] at H
       have c12b0 : decide ((ji10) < (l0.length : Int)) = true:=decide_eq_true c12
       clear c12
       by_cases c13 : a2 = 0
       ·rw [if_pos c13] at H
        exact absurd H (by simp)
       ·rw [if_neg c13] at H
        have c13b0 : (a2 == 0) = false:=beq_eq_false_iff_ne.mpr c13
        have c13b1 : (a2 != 0) = true:=bne_iff_ne.mpr c13
        obtain rfl:=Option.some.inj H
        have p288 : 0 ≤ ((ji7) : Int):=of_decide_eq_true (by first|(with_reducible assumption) | assumption)
        have q288 : (ji7) < (l0.length : Int):=of_decide_eq_true (by first|(with_reducible assumption) | assumption)
        obtain ⟨ad288,e288,hx288_0⟩:=Kd.at_int HR0.out (ji7) p288 q288
        cases e288
        replace p288:=eq_true p288
        replace q288:=eq_true q288
        have p289 : 0 ≤ ((ji10) : Int):=of_decide_eq_true (by first|(with_reducible assumption) | assumption)
        have q289 : (ji10) < (l0.length : Int):=of_decide_eq_true (by first|(with_reducible assumption) | assumption)
        obtain ⟨ad289,e289,hx289_0⟩:=Kd.at_int HR0.out (ji10) p289 q289
        obtain rfl : ad288 = ad289:=(by injection e289)
        replace p289:=eq_true p289
        replace q289:=eq_true q289
        go_enter Try.func21,Try.ntmps21
        go_wp2
        repeat (go_quiet (fail);try go_wp2)
        go_ret
        exact ⟨by first | rfl|(simp;done)|(simp only [← hji7,← hji10] <;> (first|rfl | simp))|(simp [*];done)|(simp [ne_nil_b];done)|(simp [ne_nil_b, *];done),by repeat (first|exact Drawn0.refl _|apply Drawn0.step)⟩
      ·rw [if_neg c12] at H
       exact absurd H (by simp)
     ·rw [if_neg c11] at H
      exact absurd H (by simp)
    ·rw [if_neg c9] at H
     exact absurd H (by simp)
   ·rw [if_neg c8] at H
    exact absurd H (by simp)
end
section
/-! ### impl_ShareOf: function 22 -/
def impl_ShareOf.j0 : Nat → Int → Int → Bool → Option (Int × Int)
 | 0,_,_,_ => none
 | k + 1,x0,x1,x6 => if x6 = true then (some (0,4)) else (if x1 = 0 then (some (1000,0)) else (if x1 < 0 then ((impl_floor.f (wrap64 (1000 * (wrap64 (-x0)))) (wrap64 (-x1))).bind fun t292 => (some (mn (mx t292 0) 1000,0))) else ((impl_floor.f (wrap64 (1000 * x0)) x1).bind fun t293 => (some (mn (mx t293 0) 1000,0)))))
def impl_ShareOf.f (k : Nat) (a0 : Int) (a1 : Int) : Option (Int × Int):=(impl_isAmount.f a0).bind fun t290 => (if t290 = true then ((impl_isAmount.f a1).bind fun t291 => (impl_ShareOf.j0 k a0 a1 (!t291))) else (impl_ShareOf.j0 k a0 a1 true))
theorem impl_ShareOf.mono_l : ∀ k,(∀ y0 y1 y2,LeO (impl_ShareOf.j0 k y0 y1 y2) (impl_ShareOf.j0 (k + 1) y0 y1 y2))
 | 0 => fun _ _ _ r h => by simp [impl_ShareOf.j0] at h
 | k + 1 => by
  have ih0:=impl_ShareOf.mono_l k
  ·intro y0 y1 y2
   unfold impl_ShareOf.j0
   repeat' first
   | (with_reducible exact ih0 _ _ _)
   | (with_reducible exact LeO.refl _)
   | (with_reducible exact LeO.none _)
   | (with_reducible refine LeO.ite ?_ ?_)
   | (with_reducible refine LeO.bind ?_ (fun _ => ?_))
   | exact ih0 _ _ _
   | exact LeO.none _
   | refine LeO.ite ?_ ?_
   | refine LeO.bind ?_ (fun _ => ?_)
theorem impl_ShareOf.mono : ∀ a0 a1 k,LeO (impl_ShareOf.f k a0 a1) (impl_ShareOf.f (k + 1) a0 a1):=by
 intro a0 a1 k
 have ih0:=impl_ShareOf.mono_l k
 unfold impl_ShareOf.f
 repeat' first
   | (with_reducible exact ih0 _ _ _)
   | (with_reducible exact LeO.refl _)
   | (with_reducible exact LeO.none _)
   | (with_reducible refine LeO.ite ?_ ?_)
   | (with_reducible refine LeO.bind ?_ (fun _ => ?_))
   | exact ih0 _ _ _
   | exact LeO.none _
   | refine LeO.ite ?_ ?_
   | refine LeO.bind ?_ (fun _ => ?_)
set_option maxHeartbeats 8000000 in
set_option maxRecDepth 100000 in
theorem impl_ShareOf.calls (k : Nat) (a0 : Int) (a1 : Int) (r1 : Int) (r2 : Int) (w : World) (h : impl_ShareOf.f k a0 a1 = some (r1,r2)) :
  Calls Try.prog 22 #[.int .i64 a0,.int .i64 a1] w fun e w' => e = .returned (.tuple #[.int .i64 r1,.int .i64 r2]) ∧ Below w.heap.size w w':=by
 have HB:=aMk (Below.refl w.heap.size w)
 have H : ((impl_isAmount.f a0).bind fun t290 => (if t290 = true then ((impl_isAmount.f a1).bind fun t291 => (impl_ShareOf.j0 k a0 a1 (!t291))) else (impl_ShareOf.j0 k a0 a1 true))) = some (r1,r2):=h
 clear h
 have HC3:=aMk H
 clear H
 go_enter Try.func22,Try.ntmps22
 go_upto_region 1 with (fail)
 go_cut [6] (fun v6 wc => ∃ (kq : Nat) (x6_2 : Bool),v6 = .bool x6_2 ∧ Aside0 (impl_ShareOf.j0 kq a0 a1 x6_2 = some (r1,r2)) ∧ Aside0 (kq ≤ k) ∧ Aside0 (Below w.heap.size w wc))
 case first =>
  have H:=HC3.out
  clear HC3
  replace H:=Option.bind_eq_some_iff.mp H
  obtain ⟨t290,A40,H⟩:=H
  replace H : (if t290 = true then ((impl_isAmount.f a1).bind fun t291 => (impl_ShareOf.j0 k a0 a1 (!t291))) else (impl_ShareOf.j0 k a0 a1 true)) = some (r1,r2):=H
  have A4:=aMk A40
  clear A40
  by_cases c5 : t290 = true
  ·subst c5
   have H1 : ((impl_isAmount.f a1).bind fun t291 => (impl_ShareOf.j0 k a0 a1 (!t291))) = some (r1,r2):=by rw [if_pos rfl] at H;exact H
   clear H
   have H:=H1
   clear H1
   replace H:=Option.bind_eq_some_iff.mp H
   obtain ⟨t291,A60,H⟩:=H
   replace H : (impl_ShareOf.j0 k a0 a1 (!t291)) = some (r1,r2):=H
   have A6:=aMk A60
   clear A60
   have H':=aMk H
   clear H
   go_wp2_with (first|((with_reducible refine gate_callee (f:=39) rfl ?_);refine gLs 8 Try.func39 #[.int .i64 a0] ?_;(with_reducible refine (impl_isAmount.calls a0 true _ A4.out).mono ?_);rintro e w' ⟨rfl,⟨nd,rfl⟩⟩;refine ⟨_,rfl,?_⟩)|(go_at_call 39;(with_reducible refine (impl_isAmount.calls a1 t291 _ A6.out).mono ?_);rintro e w' ⟨rfl,⟨nd,rfl⟩⟩))
   go_meet
   case rel => exact ⟨_,(!t291),(by first | rfl|(simp;done)|(simp [*];done)|(simp [ne_nil_b];done)|(simp [ne_nil_b, *];done)),H',⟨by first | omega|exact Nat.le_refl _⟩,⟨by repeat (first|(with_reducible first|exact HB.out|apply bwA|apply bwN|apply bw1)|exact HB.out)⟩⟩
  ·replace c5:=Bool.eq_false_iff.mpr c5
   subst c5
   have H1 : (impl_ShareOf.j0 k a0 a1 true) = some (r1,r2):=by rw [if_neg (show ¬ (false = true) by decide)] at H;exact H
   clear H
   have H:=H1
   clear H1
   have H':=aMk H
   clear H
   go_wp2_with (first|((with_reducible refine gate_callee (f:=39) rfl ?_);refine gLs 8 Try.func39 #[.int .i64 a0] ?_;(with_reducible refine (impl_isAmount.calls a0 false _ A4.out).mono ?_);rintro e w' ⟨rfl,⟨nd,rfl⟩⟩;refine ⟨_,rfl,?_⟩))
   go_meet
   case rel => exact ⟨_,(true),(by first | rfl|(simp;done)|(simp [*];done)|(simp [ne_nil_b];done)|(simp [ne_nil_b, *];done)),H',⟨by first | omega|exact Nat.le_refl _⟩,⟨by repeat (first|(with_reducible first|exact HB.out|apply bwA|apply bwN|apply bw1)|exact HB.out)⟩⟩
 case rest =>
  clear HC3
  try clear c2
  try clear p2
  try clear c3
  try clear c5
  obtain ⟨kq,x6_2,rfl,HA,HJ2,HB⟩:=hcut
  cases kq with
  | zero => exact absurd HA.out (by simp [impl_ShareOf.j0])
  | succ kj2 =>
   have H:=HA.out
   clear HA
   simp only [impl_ShareOf.j0] at H
   by_cases c7 : x6_2 = true
   ·subst c7
    have H1 : (some (0,4)) = some (r1,r2):=by rw [if_pos rfl] at H;exact H
    clear H
    have H:=H1
    clear H1
    simp only [Option.some.injEq,Prod.mk.injEq] at H
    obtain ⟨rfl,rfl⟩:=H
    go_wp2
    go_ret2
    exact ⟨eRf,by repeat (first|(with_reducible first|exact HB.out|apply bwA|apply bwN|apply bw1)|exact HB.out)⟩
   ·replace c7:=Bool.eq_false_iff.mpr c7
    subst c7
    have H1 : (if a1 = 0 then (some (1000,0)) else (if a1 < 0 then ((impl_floor.f (wrap64 (1000 * (wrap64 (-a0)))) (wrap64 (-a1))).bind fun t292 => (some (mn (mx t292 0) 1000,0))) else ((impl_floor.f (wrap64 (1000 * a0)) a1).bind fun t293 => (some (mn (mx t293 0) 1000,0))))) = some (r1,r2):=by rw [if_neg (show ¬ (false = true) by decide)] at H;exact H
    clear H
    have H:=H1
    clear H1
    by_cases c8 : a1 = 0
    ·rw [if_pos c8] at H
     have c8b0 : (a1 == 0) = true:=beq_iff_eq.mpr c8
     have c8b1 : (a1 != 0) = false:=bne_eq_false_iff_eq.mpr c8
     clear c8
     simp only [Option.some.injEq,Prod.mk.injEq] at H
     obtain ⟨rfl,rfl⟩:=H
     go_wp2
     go_ret2
     exact ⟨eRf,by repeat (first|(with_reducible first|exact HB.out|apply bwA|apply bwN|apply bw1)|exact HB.out)⟩
    ·rw [if_neg c8] at H
     have c8b0 : (a1 == 0) = false:=beq_eq_false_iff_ne.mpr c8
     have c8b1 : (a1 != 0) = true:=bne_iff_ne.mpr c8
     by_cases c9 : a1 < 0
     ·rw [if_pos c9] at H
      have c9b0 : decide (a1 < 0) = true:=decide_eq_true c9
      clear c9
      replace H:=Option.bind_eq_some_iff.mp H
      obtain ⟨t292,A100,H⟩:=H
      replace H : (some (mn (mx t292 0) 1000,0)) = some (r1,r2):=H
      have A10:=aMk A100
      clear A100
      obtain ⟨ji11,hji11⟩ : ∃ j_ : Int,(mx t292 0) = j_:=⟨_,rfl⟩
      replace H : (some (mn (ji11) 1000,0)) = some (r1,r2):=by first|(rw [hji11] at H;exact H)|(simp only [hji11] at H ⊢;exact H)
      (try rw [hji11] at A10)
      (try (have hji11l : 0 ≤ ji11:=by (rw [← hji11];unfold mx;(repeat' split) <;> omega)))
      (try (have hji11m : 0 ≤ ji11:=by omega))
      have hji11_ : (if t292 < 0 then 0 else t292) = ji11:=hji11
      obtain ⟨ji12,hji12⟩ : ∃ j_ : Int,(mn (ji11) 1000) = j_:=⟨_,rfl⟩
      replace H : (some (ji12,0)) = some (r1,r2):=by first|(rw [hji12] at H;exact H)|(simp only [hji12] at H ⊢;exact H)
      (try rw [hji12] at A10)
      have hji12_ : (if 1000 < (ji11) then 1000 else (ji11)) = ji12:=hji12
      simp only [Option.some.injEq,Prod.mk.injEq] at H
      obtain ⟨rfl,rfl⟩:=H
      go_wp2_with (first|((with_reducible refine gate_callee (f:=40) rfl ?_);refine gLs 28 Try.func40 #[.int .i64 (wrap64 (1000 * (wrap64 (-a0)))),.int .i64 (wrap64 (-a1))] ?_;(with_reducible refine (impl_floor.calls (wrap64 (1000 * (wrap64 (-a0)))) (wrap64 (-a1)) t292 _ A10.out).mono ?_);rintro e w' ⟨rfl,⟨nd,rfl⟩⟩;refine ⟨_,rfl,?_⟩))
      go_ret2
      exact ⟨by first | rfl|(simp [errW_none,errW_some] <;> rfl)|(simp only [← hji11,← hji12];first | rfl|(simp [errW_none,errW_some] <;> rfl))|(simp [*,errW_none,errW_some] <;> rfl),by repeat (first|(with_reducible first|exact HB.out|apply bwA|apply bwN|apply bw1)|exact HB.out)⟩
     ·rw [if_neg c9] at H
      have c9b0 : decide (a1 < 0) = false:=decide_eq_false c9
      clear c9
      replace H:=Option.bind_eq_some_iff.mp H
      obtain ⟨t293,A130,H⟩:=H
      replace H : (some (mn (mx t293 0) 1000,0)) = some (r1,r2):=H
      have A13:=aMk A130
      clear A130
      obtain ⟨ji14,hji14⟩ : ∃ j_ : Int,(mx t293 0) = j_:=⟨_,rfl⟩
      replace H : (some (mn (ji14) 1000,0)) = some (r1,r2):=by first|(rw [hji14] at H;exact H)|(simp only [hji14] at H ⊢;exact H)
      (try rw [hji14] at A13)
      (try (have hji14l : 0 ≤ ji14:=by (rw [← hji14];unfold mx;(repeat' split) <;> omega)))
      (try (have hji14m : 0 ≤ ji14:=by omega))
      have hji14_ : (if t293 < 0 then 0 else t293) = ji14:=hji14
      obtain ⟨ji15,hji15⟩ : ∃ j_ : Int,(mn (ji14) 1000) = j_:=⟨_,rfl⟩
      replace H : (some (ji15,0)) = some (r1,r2):=by first|(rw [hji15] at H;exact H)|(simp only [hji15] at H ⊢;exact H)
      (try rw [hji15] at A13)
      have hji15_ : (if 1000 < (ji14) then 1000 else (ji14)) = ji15:=hji15
      simp only [Option.some.injEq,Prod.mk.injEq] at H
      obtain ⟨rfl,rfl⟩:=H
      go_wp2_with (first|((with_reducible refine gate_callee (f:=40) rfl ?_);refine gLs 28 Try.func40 #[.int .i64 (wrap64 (1000 * a0)),.int .i64 a1] ?_;(with_reducible refine (impl_floor.calls (wrap64 (1000 * a0)) a1 t293 _ A13.out).mono ?_);rintro e w' ⟨rfl,⟨nd,rfl⟩⟩;refine ⟨_,rfl,?_⟩))
      go_ret2
      exact ⟨by first | rfl|(simp [errW_none,errW_some] <;> rfl)|(simp only [← hji14,← hji15];first | rfl|(simp [errW_none,errW_some] <;> rfl))|(simp [*,errW_none,errW_some] <;> rfl),by repeat (first|(with_reducible first|exact HB.out|apply bwA|apply bwN|apply bw1)|exact HB.out)⟩
end
section
/-! ### spec_ShareOf: function 23 -/
def spec_ShareOf.j0 : Nat → Int → Int → Bool → Option (Int × Int)
 | 0,_,_,_ => none
 | k + 1,x0,x1,x13 => if x13 = true then (some (0,4)) else (if x1 = 0 then (some (1000,0)) else (if x1 < 0 then ((spec_l06Floor.f (wrap64 (1000 * (wrap64 (-x0)))) (wrap64 (-x1))).bind fun t296 => (some (mx 0 (mn 1000 t296),0))) else ((spec_l06Floor.f (wrap64 (1000 * x0)) x1).bind fun t297 => (some (mx 0 (mn 1000 t297),0)))))
def spec_ShareOf.f (k : Nat) (a0 : Int) (a1 : Int) : Option (Int × Int):=(spec_l06Value.f a0).bind fun t294 => (if t294 = true then ((spec_l06Value.f a1).bind fun t295 => (spec_ShareOf.j0 k a0 a1 (!t295))) else (spec_ShareOf.j0 k a0 a1 true))
theorem spec_ShareOf.mono_l : ∀ k,(∀ y0 y1 y2,LeO (spec_ShareOf.j0 k y0 y1 y2) (spec_ShareOf.j0 (k + 1) y0 y1 y2))
 | 0 => fun _ _ _ r h => by simp [spec_ShareOf.j0] at h
 | k + 1 => by
  have ih0:=spec_ShareOf.mono_l k
  ·intro y0 y1 y2
   unfold spec_ShareOf.j0
   repeat' first
   | (with_reducible exact ih0 _ _ _)
   | (with_reducible exact LeO.refl _)
   | (with_reducible exact LeO.none _)
   | (with_reducible refine LeO.ite ?_ ?_)
   | (with_reducible refine LeO.bind ?_ (fun _ => ?_))
   | exact ih0 _ _ _
   | exact LeO.none _
   | refine LeO.ite ?_ ?_
   | refine LeO.bind ?_ (fun _ => ?_)
theorem spec_ShareOf.mono : ∀ a0 a1 k,LeO (spec_ShareOf.f k a0 a1) (spec_ShareOf.f (k + 1) a0 a1):=by
 intro a0 a1 k
 have ih0:=spec_ShareOf.mono_l k
 unfold spec_ShareOf.f
 repeat' first
   | (with_reducible exact ih0 _ _ _)
   | (with_reducible exact LeO.refl _)
   | (with_reducible exact LeO.none _)
   | (with_reducible refine LeO.ite ?_ ?_)
   | (with_reducible refine LeO.bind ?_ (fun _ => ?_))
   | exact ih0 _ _ _
   | exact LeO.none _
   | refine LeO.ite ?_ ?_
   | refine LeO.bind ?_ (fun _ => ?_)
set_option maxHeartbeats 8000000 in
set_option maxRecDepth 100000 in
theorem spec_ShareOf.calls (k : Nat) (a0 : Int) (a1 : Int) (r1 : Int) (r2 : Int) (w : World) (h : spec_ShareOf.f k a0 a1 = some (r1,r2)) :
  Calls Try.prog 23 #[.int .i64 a0,.int .i64 a1] w fun e w' => e = .returned (.tuple #[.int .i64 r1,.int .i64 r2]) ∧ Below w.heap.size w w':=by
 have HB:=aMk (Below.refl w.heap.size w)
 have H : ((spec_l06Value.f a0).bind fun t294 => (if t294 = true then ((spec_l06Value.f a1).bind fun t295 => (spec_ShareOf.j0 k a0 a1 (!t295))) else (spec_ShareOf.j0 k a0 a1 true))) = some (r1,r2):=h
 clear h
 have HC3:=aMk H
 clear H
 go_enter Try.func23,Try.ntmps23
 go_upto_region 1 with (fail)
 go_cut [13] (fun v13 wc => ∃ (kq : Nat) (x13_2 : Bool),v13 = .bool x13_2 ∧ Aside0 (spec_ShareOf.j0 kq a0 a1 x13_2 = some (r1,r2)) ∧ Aside0 (kq ≤ k) ∧ Aside0 (Below w.heap.size w wc))
 case first =>
  have H:=HC3.out
  clear HC3
  replace H:=Option.bind_eq_some_iff.mp H
  obtain ⟨t294,A40,H⟩:=H
  replace H : (if t294 = true then ((spec_l06Value.f a1).bind fun t295 => (spec_ShareOf.j0 k a0 a1 (!t295))) else (spec_ShareOf.j0 k a0 a1 true)) = some (r1,r2):=H
  have A4:=aMk A40
  clear A40
  by_cases c5 : t294 = true
  ·subst c5
   have H1 : ((spec_l06Value.f a1).bind fun t295 => (spec_ShareOf.j0 k a0 a1 (!t295))) = some (r1,r2):=by rw [if_pos rfl] at H;exact H
   clear H
   have H:=H1
   clear H1
   replace H:=Option.bind_eq_some_iff.mp H
   obtain ⟨t295,A60,H⟩:=H
   replace H : (spec_ShareOf.j0 k a0 a1 (!t295)) = some (r1,r2):=H
   have A6:=aMk A60
   clear A60
   have H':=aMk H
   clear H
   go_wp2_with (first|((with_reducible refine gate_callee (f:=35) rfl ?_);refine gLs 7 Try.func35 #[.int .i64 a0] ?_;(with_reducible refine (spec_l06Value.calls a0 true _ A4.out).mono ?_);rintro e w' ⟨rfl,⟨nd,rfl⟩⟩;refine ⟨_,rfl,?_⟩)|(go_at_call 35;(with_reducible refine (spec_l06Value.calls a1 t295 _ A6.out).mono ?_);rintro e w' ⟨rfl,⟨nd,rfl⟩⟩))
   go_meet
   case rel => exact ⟨_,(!t295),(by first | rfl|(simp;done)|(simp [*];done)|(simp [ne_nil_b];done)|(simp [ne_nil_b, *];done)),H',⟨by first | omega|exact Nat.le_refl _⟩,⟨by repeat (first|(with_reducible first|exact HB.out|apply bwA|apply bwN|apply bw1)|exact HB.out)⟩⟩
  ·replace c5:=Bool.eq_false_iff.mpr c5
   subst c5
   have H1 : (spec_ShareOf.j0 k a0 a1 true) = some (r1,r2):=by rw [if_neg (show ¬ (false = true) by decide)] at H;exact H
   clear H
   have H:=H1
   clear H1
   have H':=aMk H
   clear H
   go_wp2_with (first|((with_reducible refine gate_callee (f:=35) rfl ?_);refine gLs 7 Try.func35 #[.int .i64 a0] ?_;(with_reducible refine (spec_l06Value.calls a0 false _ A4.out).mono ?_);rintro e w' ⟨rfl,⟨nd,rfl⟩⟩;refine ⟨_,rfl,?_⟩))
   go_meet
   case rel => exact ⟨_,(true),(by first | rfl|(simp;done)|(simp [*];done)|(simp [ne_nil_b];done)|(simp [ne_nil_b, *];done)),H',⟨by first | omega|exact Nat.le_refl _⟩,⟨by repeat (first|(with_reducible first|exact HB.out|apply bwA|apply bwN|apply bw1)|exact HB.out)⟩⟩
 case rest =>
  clear HC3
  try clear c2
  try clear p2
  try clear c3
  try clear c5
  obtain ⟨kq,x13_2,rfl,HA,HJ2,HB⟩:=hcut
  cases kq with
  | zero => exact absurd HA.out (by simp [spec_ShareOf.j0])
  | succ kj2 =>
   have H:=HA.out
   clear HA
   simp only [spec_ShareOf.j0] at H
   by_cases c7 : x13_2 = true
   ·subst c7
    have H1 : (some (0,4)) = some (r1,r2):=by rw [if_pos rfl] at H;exact H
    clear H
    have H:=H1
    clear H1
    simp only [Option.some.injEq,Prod.mk.injEq] at H
    obtain ⟨rfl,rfl⟩:=H
    go_wp2
    go_ret2
    exact ⟨eRf,by repeat (first|(with_reducible first|exact HB.out|apply bwA|apply bwN|apply bw1)|exact HB.out)⟩
   ·replace c7:=Bool.eq_false_iff.mpr c7
    subst c7
    have H1 : (if a1 = 0 then (some (1000,0)) else (if a1 < 0 then ((spec_l06Floor.f (wrap64 (1000 * (wrap64 (-a0)))) (wrap64 (-a1))).bind fun t296 => (some (mx 0 (mn 1000 t296),0))) else ((spec_l06Floor.f (wrap64 (1000 * a0)) a1).bind fun t297 => (some (mx 0 (mn 1000 t297),0))))) = some (r1,r2):=by rw [if_neg (show ¬ (false = true) by decide)] at H;exact H
    clear H
    have H:=H1
    clear H1
    by_cases c8 : a1 = 0
    ·rw [if_pos c8] at H
     have c8b0 : (a1 == 0) = true:=beq_iff_eq.mpr c8
     have c8b1 : (a1 != 0) = false:=bne_eq_false_iff_eq.mpr c8
     clear c8
     simp only [Option.some.injEq,Prod.mk.injEq] at H
     obtain ⟨rfl,rfl⟩:=H
     go_wp2
     go_ret2
     exact ⟨eRf,by repeat (first|(with_reducible first|exact HB.out|apply bwA|apply bwN|apply bw1)|exact HB.out)⟩
    ·rw [if_neg c8] at H
     have c8b0 : (a1 == 0) = false:=beq_eq_false_iff_ne.mpr c8
     have c8b1 : (a1 != 0) = true:=bne_iff_ne.mpr c8
     by_cases c9 : a1 < 0
     ·rw [if_pos c9] at H
      have c9b0 : decide (a1 < 0) = true:=decide_eq_true c9
      clear c9
      replace H:=Option.bind_eq_some_iff.mp H
      obtain ⟨t296,A100,H⟩:=H
      replace H : (some (mx 0 (mn 1000 t296),0)) = some (r1,r2):=H
      have A10:=aMk A100
      clear A100
      obtain ⟨ji11,hji11⟩ : ∃ j_ : Int,(mn 1000 t296) = j_:=⟨_,rfl⟩
      replace H : (some (mx 0 (ji11),0)) = some (r1,r2):=by first|(rw [hji11] at H;exact H)|(simp only [hji11] at H ⊢;exact H)
      (try rw [hji11] at A10)
      (try (have hji11h : ji11 ≤ 1000:=by (rw [← hji11];unfold mn;(repeat' split) <;> omega)))
      (try (have hji11g : ji11 ≤ 64:=by omega))
      have hji11_ : (if t296 < 1000 then t296 else 1000) = ji11:=hji11
      obtain ⟨ji12,hji12⟩ : ∃ j_ : Int,(mx 0 (ji11)) = j_:=⟨_,rfl⟩
      replace H : (some (ji12,0)) = some (r1,r2):=by first|(rw [hji12] at H;exact H)|(simp only [hji12] at H ⊢;exact H)
      (try rw [hji12] at A10)
      have hji12_ : (if 0 < (ji11) then (ji11) else 0) = ji12:=hji12
      simp only [Option.some.injEq,Prod.mk.injEq] at H
      obtain ⟨rfl,rfl⟩:=H
      go_wp2_with (first|((with_reducible refine gate_callee (f:=36) rfl ?_);refine gLs 25 Try.func36 #[.int .i64 (wrap64 (1000 * (wrap64 (-a0)))),.int .i64 (wrap64 (-a1))] ?_;(with_reducible refine (spec_l06Floor.calls (wrap64 (1000 * (wrap64 (-a0)))) (wrap64 (-a1)) t296 _ A10.out).mono ?_);rintro e w' ⟨rfl,⟨nd,rfl⟩⟩;refine ⟨_,rfl,?_⟩))
      go_ret2
      exact ⟨by first | rfl|(simp [errW_none,errW_some] <;> rfl)|(simp only [← hji11,← hji12];first | rfl|(simp [errW_none,errW_some] <;> rfl))|(simp [*,errW_none,errW_some] <;> rfl),by repeat (first|(with_reducible first|exact HB.out|apply bwA|apply bwN|apply bw1)|exact HB.out)⟩
     ·rw [if_neg c9] at H
      have c9b0 : decide (a1 < 0) = false:=decide_eq_false c9
      clear c9
      replace H:=Option.bind_eq_some_iff.mp H
      obtain ⟨t297,A130,H⟩:=H
      replace H : (some (mx 0 (mn 1000 t297),0)) = some (r1,r2):=H
      have A13:=aMk A130
      clear A130
      obtain ⟨ji14,hji14⟩ : ∃ j_ : Int,(mn 1000 t297) = j_:=⟨_,rfl⟩
      replace H : (some (mx 0 (ji14),0)) = some (r1,r2):=by first|(rw [hji14] at H;exact H)|(simp only [hji14] at H ⊢;exact H)
      (try rw [hji14] at A13)
      (try (have hji14h : ji14 ≤ 1000:=by (rw [← hji14];unfold mn;(repeat' split) <;> omega)))
      (try (have hji14g : ji14 ≤ 64:=by omega))
      have hji14_ : (if t297 < 1000 then t297 else 1000) = ji14:=hji14
      obtain ⟨ji15,hji15⟩ : ∃ j_ : Int,(mx 0 (ji14)) = j_:=⟨_,rfl⟩
      replace H : (some (ji15,0)) = some (r1,r2):=by first|(rw [hji15] at H;exact H)|(simp only [hji15] at H ⊢;exact H)
      (try rw [hji15] at A13)
      have hji15_ : (if 0 < (ji14) then (ji14) else 0) = ji15:=hji15
      simp only [Option.some.injEq,Prod.mk.injEq] at H
      obtain ⟨rfl,rfl⟩:=H
      go_wp2_with (first|((with_reducible refine gate_callee (f:=36) rfl ?_);refine gLs 25 Try.func36 #[.int .i64 (wrap64 (1000 * a0)),.int .i64 a1] ?_;(with_reducible refine (spec_l06Floor.calls (wrap64 (1000 * a0)) a1 t297 _ A13.out).mono ?_);rintro e w' ⟨rfl,⟨nd,rfl⟩⟩;refine ⟨_,rfl,?_⟩))
      go_ret2
      exact ⟨by first | rfl|(simp [errW_none,errW_some] <;> rfl)|(simp only [← hji14,← hji15];first | rfl|(simp [errW_none,errW_some] <;> rfl))|(simp [*,errW_none,errW_some] <;> rfl),by repeat (first|(with_reducible first|exact HB.out|apply bwA|apply bwN|apply bw1)|exact HB.out)⟩
end
section
/-! ### impl_MeanOf_1: function 38 -/
def impl_MeanOf_1.f (a0 : Int) : Option (Bool):=(impl_isAmount.f a0).bind fun t112 => (some (!t112))
set_option maxHeartbeats 8000000 in
set_option maxRecDepth 100000 in
theorem impl_MeanOf_1.calls (a0 : Int) (r : Bool) (w : World) (h : impl_MeanOf_1.f a0 = some r) :
  Calls Try.prog 38 #[.int .i64 a0] w fun e w' => e = .returned (.bool r) ∧ Drawn0 w w':=by
 have H : ((impl_isAmount.f a0).bind fun t112 => (some (!t112))) = some r:=h
 clear h
 replace H:=Option.bind_eq_some_iff.mp H
 obtain ⟨t112,A20,H⟩:=H
 replace H : (some (!t112)) = some r:=H
 have A2:=aMk A20
 clear A20
 obtain rfl:=Option.some.inj H
 go_enter Try.func38,Try.ntmps38
 go_wp2_with (first|((with_reducible refine gate_callee (f:=39) rfl ?_);refine gLs 4 Try.func39 #[.int .i64 a0] ?_;(with_reducible refine (impl_isAmount.calls a0 t112 _ A2.out).mono ?_);rintro e w' ⟨rfl,⟨nd,rfl⟩⟩;refine ⟨_,rfl,?_⟩))
 go_ret
 exact ⟨by first | rfl|(simp;done)|(simp [*];done)|(simp [ne_nil_b];done)|(simp [ne_nil_b, *];done),by repeat (first|exact Drawn0.refl _|apply Drawn0.step)⟩
end
section
/-! ### slices_IndexFunc_int_int: function 58 -/
def idxP3 (p : Int → Option Bool) (l : List Int) : Nat → Int → Option Int
 | 0,_ => none
 | k + 1,i => if i < (l.length : Int) then (if 0 ≤ i then ((p (rd l i)).bind fun t => (if t = true then some i else idxP3 p l k (wrap64 (i + 1)))) else none) else some (-1)
theorem idxP3_mono (p q : Int → Option Bool) (hpq : ∀ x,LeO (p x) (q x)) (l : List Int) : ∀ k i,LeO (idxP3 p l k i) (idxP3 q l (k + 1) i)
 | 0,i => fun r h => by simp [idxP3] at h
 | k + 1,i => by
  have ih:=idxP3_mono p q hpq l k
  rw [idxP3,idxP3]
  refine LeO.ite (LeO.ite (LeO.bind (hpq _) (fun t => LeO.ite (LeO.refl _) (ih _))) (LeO.refl _)) (LeO.refl _)
set_option maxHeartbeats 8000000 in
set_option maxRecDepth 100000 in
theorem indexFunc3 (g : FuncId) (lb : Array Value) (eg : ∀ args w,(callFunc g args).run Try.prog w = .ok (.enter g args) w) (p : Int → Option Bool) (k : Nat) (A0 : Option Addr) (c0 : Nat) (l0 : List Int) (r : Int) (w : World)
  (hp : ∀ (W : World) (x : Int) (b : Bool),Below w.heap.size w W → p x = some b → Calls Try.prog g (#[.int .i64 x] ++ lb) W fun e w' => e = .returned (.bool b) ∧ Below w.heap.size w w')
  (hr0 : Kd.C (Kd.int .i64) w A0 l0.length l0) (h : idxP3 p l0 k 0 = some r) :
  Calls Try.prog 58 #[.slice A0 l0.length c0,.func (.func g) #[] lb] w fun e w' => e = .returned (.int .i64 r) ∧ Below w.heap.size w w':=by
 have HR0:=aMk hr0
 have HP:=aMk hp
 clear hr0 hp
 have HB:=aMk (Below.refl w.heap.size w)
 have H':=aMk h
 clear h
 go_enter Try.func58,Try.ntmps58
 go_wp2
 go_loopg [5,8] k (fun kq _ v8 w' => ∃ (x : Int),v8 = .int .i64 x ∧ Aside0 (idxP3 p l0 kq x = some r) ∧ Aside0 (kq ≤ k) ∧ Aside0 (Below w.heap.size w w'))
 case atStart => exact ⟨0,rfl,H',⟨Nat.le_refl _⟩,HB⟩
 case round =>
  clear H'
  obtain ⟨x,rfl,HA,HK1,HB⟩:=hrel
  cases gk with
  | zero => exact absurd HA.out (by simp [idxP3])
  | succ k1 =>
   have H:=HA.out
   clear HA
   simp only [idxP3] at H
   by_cases c2 : x < (l0.length : Int)
   ·rw [if_pos c2] at H
    have c2b0 : decide (x < (l0.length : Int)) = true:=decide_eq_true c2
    clear c2
    by_cases c3 : 0 ≤ x
    ·rw [if_pos c3] at H
     have c3b0 : decide (0 ≤ x) = true:=decide_eq_true c3
     clear c3
     replace H:=Option.bind_eq_some_iff.mp H
     obtain ⟨t,A40,H⟩:=H
     have p179 : 0 ≤ (x : Int):=of_decide_eq_true (by first|(with_reducible assumption) | assumption)
     have q179 : x < (l0.length : Int):=of_decide_eq_true (by first|(with_reducible assumption) | assumption)
     obtain ⟨ad179,e179,hx0⟩:=Kd.at_int HR0.out x p179 q179
     cases e179
     replace hx0:=bXc HB.out hx0
     replace p179:=eq_true p179
     replace q179:=eq_true q179
     have HC:=aMk (HP.out _ _ _ HB.out A40)
     clear A40
     cases t
     ·have H1 : idxP3 p l0 k1 (wrap64 (x + 1)) = some r:=by simpa using H
      clear H
      have H':=aMk H1
      clear H1
      go_wp2_with (refine HC.out.mono ?_;rintro e w6 ⟨rfl,hb⟩;clear HB;have HB:=aMk hb;clear hb)
      go_roundg k1
      case measure => have:=HK1.out;omega
      case rel => exact ⟨_,rfl,H',⟨by have:=HK1.out;omega⟩,HB⟩
     ·obtain rfl : x = r:=by simpa using H
      clear H
      go_wp2_with (refine HC.out.mono ?_;rintro e w6 ⟨rfl,hb⟩;clear HB;have HB:=aMk hb;clear hb)
      go_ret
      exact ⟨rfl,HB.out⟩
    ·rw [if_neg c3] at H
     exact absurd H (by simp)
   ·rw [if_neg c2] at H
    have c2b0 : decide (x < (l0.length : Int)) = false:=decide_eq_false c2
    clear c2
    obtain rfl:=Option.some.inj H
    go_wp2
    go_ret
    exact ⟨eRf,HB.out⟩
end
section
/-! ### slices_ContainsFunc_int_int: function 37 -/
set_option maxHeartbeats 8000000 in
set_option maxRecDepth 100000 in
theorem containsFunc3 (g : FuncId) (lb : Array Value) (eg : ∀ args w,(callFunc g args).run Try.prog w = .ok (.enter g args) w) (p : Int → Option Bool) (k : Nat) (A0 : Option Addr) (c0 : Nat) (l0 : List Int) (r : Int) (w : World)
  (hp : ∀ (W : World) (x : Int) (b : Bool),Below w.heap.size w W → p x = some b → Calls Try.prog g (#[.int .i64 x] ++ lb) W fun e w' => e = .returned (.bool b) ∧ Below w.heap.size w w')
  (hr0 : Kd.C (Kd.int .i64) w A0 l0.length l0) (h : idxP3 p l0 k 0 = some r) :
  Calls Try.prog 37 #[.slice A0 l0.length c0,.func (.func g) #[] lb] w fun e w' => e = .returned (.bool (decide (0 ≤ r))) ∧ Below w.heap.size w w':=by
 have HC:=indexFunc3 g lb eg p k A0 c0 l0 r w hp hr0 h
 clear hp hr0 h
 have ei:=enters_ Try.func58 (by kernel_rfl) rfl
 go_enter Try.func37,Try.ntmps37
 go_wp2_with (refine HC.mono ?_;rintro e w6 ⟨rfl,hb⟩)
 go_ret
 exact ⟨eRf,hb⟩
def slices_ContainsFunc_int_int.f (k : Nat) (l0 : List Int) : Option Bool:=(idxP3 (fun x => impl_MeanOf_1.f x) l0 k 0).bind fun t => some (decide (0 ≤ t))
theorem slices_ContainsFunc_int_int.mono : ∀ l0 k,LeO (slices_ContainsFunc_int_int.f k l0) (slices_ContainsFunc_int_int.f (k + 1) l0):=fun l0 k => LeO.bind (idxP3_mono _ _ (fun x => by exact LeO.refl _) l0 k 0) (fun _ => LeO.refl _)
theorem slices_ContainsFunc_int_int.calls (k : Nat) (A0 : Option Addr) (c0 : Nat) (l0 : List Int) (r : Bool) (w : World) (hr0 : Kd.C (Kd.int .i64) w A0 l0.length l0) (hc0 : l0.length ≤ c0) (h : slices_ContainsFunc_int_int.f k l0 = some r) :
  Calls Try.prog 37 #[.slice A0 l0.length c0,.func (.func 38) #[] #[]] w fun e w' => e = .returned (.bool r) ∧ Below w.heap.size w w':=by
 obtain ⟨t,h1,h2⟩:=Option.bind_eq_some_iff.mp h
 obtain rfl:=Option.some.inj h2
 exact containsFunc3 38 #[] (enters_ Try.func38 (by kernel_rfl) rfl) _ k A0 c0 l0 t w (fun W x b hb hx => (impl_MeanOf_1.calls x b W hx).mono fun e w' h => ⟨h.1,(by obtain ⟨nd,hq⟩:=h.2;rw [hq];exact bwN hb nd)⟩) hr0 h1
end
section
/-! ### impl_MeanOf: function 11 -/
def impl_MeanOf.l0 : Nat → List Int → Int → List Int → Int → Int → Option (Int × Int)
 | 0,_,_,_,_,_ => none
 | k + 1,x0,x4,x18,x19,x20 => if x20 < x19 then (if 0 ≤ x20 then (if x20 < (x18.length : Int) then (impl_MeanOf.l0 k x0 (wrap64 (x4 + (rd x18 x20))) x18 x19 (wrap64 (x20 + 1))) else (none)) else (none)) else ((impl_floor.f x4 (x0.length : Int)).bind fun t115 => (some (t115,0)))
def impl_MeanOf.f (k : Nat) (l0 : List Int) : Option (Int × Int):=if (l0.length : Int) > 4096 then (some (0,2)) else ((slices_ContainsFunc_int_int.f k l0).bind fun t113 => (if t113 = true then (some (0,1)) else (if (l0.length : Int) = 0 then (some (0,5)) else (impl_MeanOf.l0 k l0 0 l0 (l0.length : Int) 0))))
theorem impl_MeanOf.mono_l : ∀ k,(∀ y0 y1 y2 y3 y4,LeO (impl_MeanOf.l0 k y0 y1 y2 y3 y4) (impl_MeanOf.l0 (k + 1) y0 y1 y2 y3 y4))
 | 0 => fun _ _ _ _ _ r h => by simp [impl_MeanOf.l0] at h
 | k + 1 => by
  have ih0:=impl_MeanOf.mono_l k
  ·intro y0 y1 y2 y3 y4
   unfold impl_MeanOf.l0
   repeat' first
   | (with_reducible exact ih0 _ _ _ _ _)
   | (with_reducible exact slices_ContainsFunc_int_int.mono ..)
   | (with_reducible exact LeO.refl _)
   | (with_reducible exact LeO.none _)
   | (with_reducible refine LeO.ite ?_ ?_)
   | (with_reducible refine LeO.bind ?_ (fun _ => ?_))
   | exact ih0 _ _ _ _ _
   | exact slices_ContainsFunc_int_int.mono ..
   | exact LeO.none _
   | refine LeO.ite ?_ ?_
   | refine LeO.bind ?_ (fun _ => ?_)
theorem impl_MeanOf.mono : ∀ a0 k,LeO (impl_MeanOf.f k a0) (impl_MeanOf.f (k + 1) a0):=by
 intro a0 k
 have ih0:=impl_MeanOf.mono_l k
 unfold impl_MeanOf.f
 repeat' first
   | (with_reducible exact ih0 _ _ _ _ _)
   | (with_reducible exact slices_ContainsFunc_int_int.mono ..)
   | (with_reducible exact LeO.refl _)
   | (with_reducible exact LeO.none _)
   | (with_reducible refine LeO.ite ?_ ?_)
   | (with_reducible refine LeO.bind ?_ (fun _ => ?_))
   | exact ih0 _ _ _ _ _
   | exact slices_ContainsFunc_int_int.mono ..
   | exact LeO.none _
   | refine LeO.ite ?_ ?_
   | refine LeO.bind ?_ (fun _ => ?_)
set_option maxHeartbeats 8000000 in
set_option maxRecDepth 100000 in
theorem impl_MeanOf.calls (k : Nat) (A0 : Option Addr) (c0 : Nat) (l0 : List Int) (r1 : Int) (r2 : Int) (w : World) (hr0 : Kd.C (Kd.int .i64) w A0 l0.length l0) (hc0 : l0.length ≤ c0) (h : impl_MeanOf.f k l0 = some (r1,r2)) :
  Calls Try.prog 11 #[.slice A0 l0.length c0] w fun e w' => e = .returned (.tuple #[.int .i64 r1,.int .i64 r2]) ∧ Below w.heap.size w w':=by
 have HR0:=aMk hr0
 have HC0:=aMk hc0
 clear hr0 hc0
 have HB:=aMk (Below.refl w.heap.size w)
 have H : (if (l0.length : Int) > 4096 then (some (0,2)) else ((slices_ContainsFunc_int_int.f k l0).bind fun t113 => (if t113 = true then (some (0,1)) else (if (l0.length : Int) = 0 then (some (0,5)) else (impl_MeanOf.l0 k l0 0 l0 (l0.length : Int) 0))))) = some (r1,r2):=h
 clear h
 by_cases c2 : (l0.length : Int) > 4096
 ·rw [if_pos c2] at H
  have c2b0 : decide (4096 < (l0.length : Int)) = true:=decide_eq_true c2
  have c2b1 : decide (4096 < l0.length) = true:=decide_eq_true (by omega)
  clear c2
  simp only [Option.some.injEq,Prod.mk.injEq] at H
  obtain ⟨rfl,rfl⟩:=H
  go_enter Try.func11,Try.ntmps11
  go_wp2
  go_ret2
  exact ⟨eRf,by repeat (first|(with_reducible first|exact HB.out|apply bwA|apply bwN|apply bw1)|exact HB.out)⟩
 ·rw [if_neg c2] at H
  have c2b0 : decide (4096 < (l0.length : Int)) = false:=decide_eq_false c2
  have c2b1 : decide (4096 < l0.length) = false:=decide_eq_false (by omega)
  clear c2
  replace H:=Option.bind_eq_some_iff.mp H
  obtain ⟨t113,A30,H⟩:=H
  replace H : (if t113 = true then (some (0,1)) else (if (l0.length : Int) = 0 then (some (0,5)) else (impl_MeanOf.l0 k l0 0 l0 (l0.length : Int) 0))) = some (r1,r2):=H
  have A3:=aMk A30
  clear A30
  by_cases c4 : t113 = true
  ·subst c4
   have H1 : (some (0,1)) = some (r1,r2):=by rw [if_pos rfl] at H;exact H
   clear H
   have H:=H1
   clear H1
   simp only [Option.some.injEq,Prod.mk.injEq] at H
   obtain ⟨rfl,rfl⟩:=H
   go_enter Try.func11,Try.ntmps11
   go_wp2_with (first|((with_reducible refine gate_callee (f:=37) rfl ?_);refine gLs 13 Try.func37 #[.slice A0 l0.length c0,.func (.func 38) #[] #[]] ?_;(with_reducible refine (slices_ContainsFunc_int_int.calls k _ _ l0 true _ ?side1 ?side2 A3.out).mono ?_);(case side1 => repeat (first|exact HR0.out|(with_reducible refine Kd.C_alloc ?_ _)|(with_reducible refine Kd.C_drewN ?_ _)|(with_reducible refine Kd.C_drew ?_)));(case side2 => exact HC0.out);rintro e w5 ⟨rfl,hb⟩;refine ⟨_,rfl,?_⟩;have n0_:=aMk (bSt hb);clear HB;have HB:=n0_;clear n0_;(try clear hb);(try clear hb2);(try clear hk);(try clear hi)))
   go_ret2
   exact ⟨eRf,by repeat (first|(with_reducible first|exact HB.out|apply bwA|apply bwN|apply bw1)|exact HB.out)⟩
  ·replace c4:=Bool.eq_false_iff.mpr c4
   subst c4
   have H1 : (if (l0.length : Int) = 0 then (some (0,5)) else (impl_MeanOf.l0 k l0 0 l0 (l0.length : Int) 0)) = some (r1,r2):=by rw [if_neg (show ¬ (false = true) by decide)] at H;exact H
   clear H
   have H:=H1
   clear H1
   by_cases c6 : (l0.length : Int) = 0
   ·rw [if_pos c6] at H
    have c6b0 : ((l0.length : Int) == 0) = true:=beq_iff_eq.mpr c6
    have c6b1 : ((l0.length : Int) != 0) = false:=bne_eq_false_iff_eq.mpr c6
    clear c6
    simp only [Option.some.injEq,Prod.mk.injEq] at H
    obtain ⟨rfl,rfl⟩:=H
    go_enter Try.func11,Try.ntmps11
    go_wp2_with (first|((with_reducible refine gate_callee (f:=37) rfl ?_);refine gLs 13 Try.func37 #[.slice A0 l0.length c0,.func (.func 38) #[] #[]] ?_;(with_reducible refine (slices_ContainsFunc_int_int.calls k _ _ l0 false _ ?side1 ?side2 A3.out).mono ?_);(case side1 => repeat (first|exact HR0.out|(with_reducible refine Kd.C_alloc ?_ _)|(with_reducible refine Kd.C_drewN ?_ _)|(with_reducible refine Kd.C_drew ?_)));(case side2 => exact HC0.out);rintro e w7 ⟨rfl,hb⟩;refine ⟨_,rfl,?_⟩;have n0_:=aMk (bSt hb);clear HB;have HB:=n0_;clear n0_;(try clear hb);(try clear hb2);(try clear hk);(try clear hi)))
    go_ret2
    exact ⟨eRf,by repeat (first|(with_reducible first|exact HB.out|apply bwA|apply bwN|apply bw1)|exact HB.out)⟩
   ·rw [if_neg c6] at H
    have c6b0 : ((l0.length : Int) == 0) = false:=beq_eq_false_iff_ne.mpr c6
    have c6b1 : ((l0.length : Int) != 0) = true:=bne_iff_ne.mpr c6
    have c6b2 : ¬ (l0 = []):=fun h_ => c6 (by rw [h_];rfl)
    have H':=aMk H
    clear H
    go_enter Try.func11,Try.ntmps11
    go_wp2_with (first|((with_reducible refine gate_callee (f:=37) rfl ?_);refine gLs 13 Try.func37 #[.slice A0 l0.length c0,.func (.func 38) #[] #[]] ?_;(with_reducible refine (slices_ContainsFunc_int_int.calls k _ _ l0 false _ ?side1 ?side2 A3.out).mono ?_);(case side1 => repeat (first|exact HR0.out|(with_reducible refine Kd.C_alloc ?_ _)|(with_reducible refine Kd.C_drewN ?_ _)|(with_reducible refine Kd.C_drew ?_)));(case side2 => exact HC0.out);rintro e w8 ⟨rfl,hb⟩;refine ⟨_,rfl,?_⟩;have n0_:=aMk (bSt hb);clear HB;have HB:=n0_;clear n0_;(try clear hb);(try clear hb2);(try clear hk);(try clear hi)))
    go_loopg [4,20] k (fun kq v4 v20 w' => ∃ (x4_1 : Int) (x20_1 : Int),v4 = .int .i64 x4_1 ∧ v20 = .int .i64 x20_1 ∧ Aside0 (impl_MeanOf.l0 kq l0 x4_1 l0 (l0.length : Int) x20_1 = some (r1,r2)) ∧ Aside0 (kq ≤ k) ∧ Aside0 (Below w.heap.size w w'))
    case atStart => exact ⟨(0),(0),(by first | rfl|(simp;done)|(simp [*];done)|(simp [ne_nil_b];done)|(simp [ne_nil_b, *];done)),(by first | rfl|(simp;done)|(simp [*];done)|(simp [ne_nil_b];done)|(simp [ne_nil_b, *];done)),H',⟨Nat.le_refl _⟩,⟨by repeat (first|(with_reducible first|exact HB.out|apply bwA|apply bwN|apply bw1)|exact HB.out)⟩⟩
    case round =>
     clear H'
     try clear c1
     try clear c2
     try clear c2b0
     try clear c2b1
     try clear p2
     try clear c3
     try clear c4
     try clear c6
     try clear c6b0
     try clear c6b1
     try clear c6b2
     obtain ⟨x4_1,x20_1,rfl,rfl,HA,HK1,HB⟩:=hrel
     cases gk with
     | zero => exact absurd HA.out (by simp [impl_MeanOf.l0])
     | succ k1 =>
      have H:=HA.out
      clear HA
      simp only [impl_MeanOf.l0] at H
      by_cases c9 : x20_1 < (l0.length : Int)
      ·rw [if_pos c9] at H
       have c9b0 : decide (x20_1 < (l0.length : Int)) = true:=decide_eq_true c9
       clear c9
       by_cases c10 : 0 ≤ x20_1
       ·rw [if_pos c10] at H
        have c10b0 : decide (0 ≤ x20_1) = true:=decide_eq_true c10
        clear c10
        by_cases c11 : x20_1 < (l0.length : Int)
        ·rw [if_pos c11] at H
         have c11b0 : decide (x20_1 < (l0.length : Int)) = true:=decide_eq_true c11
         clear c11
         have H':=aMk H
         clear H
         have p114 : 0 ≤ (x20_1 : Int):=of_decide_eq_true (by first|(with_reducible assumption) | assumption)
         have q114 : x20_1 < (l0.length : Int):=of_decide_eq_true (by first|(with_reducible assumption) | assumption)
         obtain ⟨ad114,e114,hx114_0⟩:=Kd.at_int HR0.out x20_1 p114 q114
         cases e114
         replace hx114_0:=bXc HB.out hx114_0
         replace p114:=eq_true p114
         replace q114:=eq_true q114
         go_wp2
         go_roundg k1
         case measure => have:=HK1.out;omega
         case rel => exact ⟨(wrap64 (x4_1 + (rd l0 x20_1))),(wrap64 (x20_1 + 1)),(by first | rfl|(simp;done)|(simp [*];done)|(simp [ne_nil_b];done)|(simp [ne_nil_b, *];done)),(by first | rfl|(simp;done)|(simp [*];done)|(simp [ne_nil_b];done)|(simp [ne_nil_b, *];done)),H',⟨by have:=HK1.out;omega⟩,⟨by repeat (first|(with_reducible first|exact HB.out|apply bwA|apply bwN|apply bw1)|exact HB.out)⟩⟩
        ·rw [if_neg c11] at H
         exact absurd H (by simp)
       ·rw [if_neg c10] at H
        exact absurd H (by simp)
      ·rw [if_neg c9] at H
       have c9b0 : decide (x20_1 < (l0.length : Int)) = false:=decide_eq_false c9
       clear c9
       replace H:=Option.bind_eq_some_iff.mp H
       obtain ⟨t115,A120,H⟩:=H
       replace H : (some (t115,0)) = some (r1,r2):=H
       have A12:=aMk A120
       clear A120
       simp only [Option.some.injEq,Prod.mk.injEq] at H
       obtain ⟨rfl,rfl⟩:=H
       go_wp2_with (first|((with_reducible refine gate_callee (f:=40) rfl ?_);refine gLs 31 Try.func40 #[.int .i64 x4_1,.int .i64 (l0.length : Int)] ?_;(with_reducible refine (impl_floor.calls x4_1 (l0.length : Int) t115 _ A12.out).mono ?_);rintro e w' ⟨rfl,⟨nd,rfl⟩⟩;refine ⟨_,rfl,?_⟩))
       go_ret2
       exact ⟨eRf,by repeat (first|(with_reducible first|exact HB.out|apply bwA|apply bwN|apply bw1)|exact HB.out)⟩
end
section
/-! ### spec_MeanOf: function 9 -/
def spec_MeanOf.l0 : Nat → List Int → Int → Int → Option (Int × Int)
 | 0,_,_,_ => none
 | k + 1,x0,x4,x5 => if x5 < (x0.length : Int) then (if 0 ≤ x5 then ((spec_l06Value.f (rd x0 x5)).bind fun t103 => (if t103 = true then (spec_MeanOf.l0 k x0 (wrap64 (x4 + (rd x0 x5))) (wrap64 (x5 + 1))) else (some (0,1)))) else (none)) else (if (x0.length : Int) = 0 then (some (0,5)) else ((spec_l06Floor.f x4 (x0.length : Int)).bind fun t105 => (some (t105,0))))
def spec_MeanOf.f (k : Nat) (l0 : List Int) : Option (Int × Int):=if (l0.length : Int) > 4096 then (some (0,2)) else (spec_MeanOf.l0 k l0 0 0)
theorem spec_MeanOf.mono_l : ∀ k,(∀ y0 y1 y2,LeO (spec_MeanOf.l0 k y0 y1 y2) (spec_MeanOf.l0 (k + 1) y0 y1 y2))
 | 0 => fun _ _ _ r h => by simp [spec_MeanOf.l0] at h
 | k + 1 => by
  have ih0:=spec_MeanOf.mono_l k
  ·intro y0 y1 y2
   unfold spec_MeanOf.l0
   repeat' first
   | (with_reducible exact ih0 _ _ _)
   | (with_reducible exact LeO.refl _)
   | (with_reducible exact LeO.none _)
   | (with_reducible refine LeO.ite ?_ ?_)
   | (with_reducible refine LeO.bind ?_ (fun _ => ?_))
   | exact ih0 _ _ _
   | exact LeO.none _
   | refine LeO.ite ?_ ?_
   | refine LeO.bind ?_ (fun _ => ?_)
theorem spec_MeanOf.mono : ∀ a0 k,LeO (spec_MeanOf.f k a0) (spec_MeanOf.f (k + 1) a0):=by
 intro a0 k
 have ih0:=spec_MeanOf.mono_l k
 unfold spec_MeanOf.f
 repeat' first
   | (with_reducible exact ih0 _ _ _)
   | (with_reducible exact LeO.refl _)
   | (with_reducible exact LeO.none _)
   | (with_reducible refine LeO.ite ?_ ?_)
   | (with_reducible refine LeO.bind ?_ (fun _ => ?_))
   | exact ih0 _ _ _
   | exact LeO.none _
   | refine LeO.ite ?_ ?_
   | refine LeO.bind ?_ (fun _ => ?_)
set_option maxHeartbeats 8000000 in
set_option maxRecDepth 100000 in
theorem spec_MeanOf.calls (k : Nat) (A0 : Option Addr) (c0 : Nat) (l0 : List Int) (r1 : Int) (r2 : Int) (w : World) (hr0 : Kd.C (Kd.int .i64) w A0 l0.length l0) (hc0 : l0.length ≤ c0) (h : spec_MeanOf.f k l0 = some (r1,r2)) :
  Calls Try.prog 9 #[.slice A0 l0.length c0] w fun e w' => e = .returned (.tuple #[.int .i64 r1,.int .i64 r2]) ∧ Drawn0 w w':=by
 have HR0:=aMk hr0
 have HC0:=aMk hc0
 clear hr0 hc0
 have H : (if (l0.length : Int) > 4096 then (some (0,2)) else (spec_MeanOf.l0 k l0 0 0)) = some (r1,r2):=h
 clear h
 by_cases c2 : (l0.length : Int) > 4096
 ·rw [if_pos c2] at H
  have c2b0 : decide (4096 < (l0.length : Int)) = true:=decide_eq_true c2
  have c2b1 : decide (4096 < l0.length) = true:=decide_eq_true (by omega)
  clear c2
  simp only [Option.some.injEq,Prod.mk.injEq] at H
  obtain ⟨rfl,rfl⟩:=H
  go_enter Try.func9,Try.ntmps9
  go_wp2
  go_ret2
  exact ⟨by first | rfl|(simp;done)|(simp [*];done)|(simp [ne_nil_b];done)|(simp [ne_nil_b, *];done),by repeat (first|exact Drawn0.refl _|apply Drawn0.step)⟩
 ·rw [if_neg c2] at H
  have c2b0 : decide (4096 < (l0.length : Int)) = false:=decide_eq_false c2
  have c2b1 : decide (4096 < l0.length) = false:=decide_eq_false (by omega)
  clear c2
  have H':=aMk H
  clear H
  go_enter Try.func9,Try.ntmps9
  go_wp2
  go_loopg [4,5] k (fun kq v4 v5 w' => ∃ (x4_1 : Int) (x5_1 : Int),v4 = .int .i64 x4_1 ∧ v5 = .int .i64 x5_1 ∧ Aside0 (spec_MeanOf.l0 kq l0 x4_1 x5_1 = some (r1,r2)) ∧ Aside0 (kq ≤ k) ∧ Drawn0 w w')
  case atStart => exact ⟨(0),(0),(by first | rfl|(simp;done)|(simp [*];done)|(simp [ne_nil_b];done)|(simp [ne_nil_b, *];done)),(by first | rfl|(simp;done)|(simp [*];done)|(simp [ne_nil_b];done)|(simp [ne_nil_b, *];done)),H',⟨Nat.le_refl _⟩,by repeat (first|exact Drawn0.refl _|apply Drawn0.step)⟩
  case round =>
   clear H'
   try clear c2
   try clear c2b0
   try clear c2b1
   try clear p2
   obtain ⟨x4_1,x5_1,rfl,rfl,HA,HK1,⟨m1,rfl⟩⟩:=hrel
   cases gk with
   | zero => exact absurd HA.out (by simp [spec_MeanOf.l0])
   | succ k1 =>
    have H:=HA.out
    clear HA
    simp only [spec_MeanOf.l0] at H
    by_cases c3 : x5_1 < (l0.length : Int)
    ·rw [if_pos c3] at H
     have c3b0 : decide (x5_1 < (l0.length : Int)) = true:=decide_eq_true c3
     clear c3
     by_cases c4 : 0 ≤ x5_1
     ·rw [if_pos c4] at H
      have c4b0 : decide (0 ≤ x5_1) = true:=decide_eq_true c4
      clear c4
      replace H:=Option.bind_eq_some_iff.mp H
      obtain ⟨t103,A50,H⟩:=H
      replace H : (if t103 = true then (spec_MeanOf.l0 k1 l0 (wrap64 (x4_1 + (rd l0 x5_1))) (wrap64 (x5_1 + 1))) else (some (0,1))) = some (r1,r2):=H
      have A5:=aMk A50
      clear A50
      by_cases c6 : t103 = true
      ·subst c6
       have H1 : (spec_MeanOf.l0 k1 l0 (wrap64 (x4_1 + (rd l0 x5_1))) (wrap64 (x5_1 + 1))) = some (r1,r2):=by rw [if_pos rfl] at H;exact H
       clear H
       have H:=H1
       clear H1
       have H':=aMk H
       clear H
       have p102 : 0 ≤ (x5_1 : Int):=of_decide_eq_true (by first|(with_reducible assumption) | assumption)
       have q102 : x5_1 < (l0.length : Int):=of_decide_eq_true (by first|(with_reducible assumption) | assumption)
       obtain ⟨ad102,e102,hx102_0⟩:=Kd.at_int HR0.out x5_1 p102 q102
       cases e102
       replace p102:=eq_true p102
       replace q102:=eq_true q102
       go_wp2_with (first|((with_reducible refine gate_callee (f:=35) rfl ?_);refine gLs 19 Try.func35 #[.int .i64 (rd l0 x5_1)] ?_;(with_reducible refine (spec_l06Value.calls (rd l0 x5_1) true _ A5.out).mono ?_);rintro e w' ⟨rfl,⟨nd,rfl⟩⟩;refine ⟨_,rfl,?_⟩;have p104 : 0 ≤ (x5_1 : Int):=of_decide_eq_true (by first|(with_reducible assumption) | assumption);have q104 : x5_1 < (l0.length : Int):=of_decide_eq_true (by first|(with_reducible assumption) | assumption);obtain ⟨ad104,e104,hx104_0⟩:=Kd.at_int HR0.out x5_1 p104 q104;obtain rfl : ad102 = ad104:=(by injection e104);replace p104:=eq_true p104;replace q104:=eq_true q104))
       go_roundg k1
       case measure => have:=HK1.out;omega
       case rel => exact ⟨(wrap64 (x4_1 + (rd l0 x5_1))),(wrap64 (x5_1 + 1)),(by first | rfl|(simp;done)|(simp [*];done)|(simp [ne_nil_b];done)|(simp [ne_nil_b, *];done)),(by first | rfl|(simp;done)|(simp [*];done)|(simp [ne_nil_b];done)|(simp [ne_nil_b, *];done)),H',⟨by have:=HK1.out;omega⟩,by repeat (first|exact Drawn0.refl _|apply Drawn0.step)⟩
      ·replace c6:=Bool.eq_false_iff.mpr c6
       subst c6
       have H1 : (some (0,1)) = some (r1,r2):=by rw [if_neg (show ¬ (false = true) by decide)] at H;exact H
       clear H
       have H:=H1
       clear H1
       simp only [Option.some.injEq,Prod.mk.injEq] at H
       obtain ⟨rfl,rfl⟩:=H
       have p102 : 0 ≤ (x5_1 : Int):=of_decide_eq_true (by first|(with_reducible assumption) | assumption)
       have q102 : x5_1 < (l0.length : Int):=of_decide_eq_true (by first|(with_reducible assumption) | assumption)
       obtain ⟨ad102,e102,hx102_0⟩:=Kd.at_int HR0.out x5_1 p102 q102
       cases e102
       replace p102:=eq_true p102
       replace q102:=eq_true q102
       go_wp2_with (first|((with_reducible refine gate_callee (f:=35) rfl ?_);refine gLs 19 Try.func35 #[.int .i64 (rd l0 x5_1)] ?_;(with_reducible refine (spec_l06Value.calls (rd l0 x5_1) false _ A5.out).mono ?_);rintro e w' ⟨rfl,⟨nd,rfl⟩⟩;refine ⟨_,rfl,?_⟩))
       go_ret2
       exact ⟨by first | rfl|(simp;done)|(simp [*];done)|(simp [ne_nil_b];done)|(simp [ne_nil_b, *];done),by repeat (first|exact Drawn0.refl _|apply Drawn0.step)⟩
     ·rw [if_neg c4] at H
      exact absurd H (by simp)
    ·rw [if_neg c3] at H
     have c3b0 : decide (x5_1 < (l0.length : Int)) = false:=decide_eq_false c3
     clear c3
     by_cases c7 : (l0.length : Int) = 0
     ·rw [if_pos c7] at H
      have c7b0 : ((l0.length : Int) == 0) = true:=beq_iff_eq.mpr c7
      have c7b1 : ((l0.length : Int) != 0) = false:=bne_eq_false_iff_eq.mpr c7
      clear c7
      simp only [Option.some.injEq,Prod.mk.injEq] at H
      obtain ⟨rfl,rfl⟩:=H
      go_wp2
      go_ret2
      exact ⟨by first | rfl|(simp;done)|(simp [*];done)|(simp [ne_nil_b];done)|(simp [ne_nil_b, *];done),by repeat (first|exact Drawn0.refl _|apply Drawn0.step)⟩
     ·rw [if_neg c7] at H
      have c7b0 : ((l0.length : Int) == 0) = false:=beq_eq_false_iff_ne.mpr c7
      have c7b1 : ((l0.length : Int) != 0) = true:=bne_iff_ne.mpr c7
      have c7b2 : ¬ (l0 = []):=fun h_ => c7 (by rw [h_];rfl)
      replace H:=Option.bind_eq_some_iff.mp H
      obtain ⟨t105,A80,H⟩:=H
      replace H : (some (t105,0)) = some (r1,r2):=H
      have A8:=aMk A80
      clear A80
      simp only [Option.some.injEq,Prod.mk.injEq] at H
      obtain ⟨rfl,rfl⟩:=H
      go_wp2_with (first|((with_reducible refine gate_callee (f:=36) rfl ?_);refine gLs 33 Try.func36 #[.int .i64 x4_1,.int .i64 (l0.length : Int)] ?_;(with_reducible refine (spec_l06Floor.calls x4_1 (l0.length : Int) t105 _ A8.out).mono ?_);rintro e w' ⟨rfl,⟨nd,rfl⟩⟩;refine ⟨_,rfl,?_⟩))
      go_ret2
      exact ⟨by first | rfl|(simp;done)|(simp [*];done)|(simp [ne_nil_b];done)|(simp [ne_nil_b, *];done),by repeat (first|exact Drawn0.refl _|apply Drawn0.step)⟩
end
end Go.Proofs.Ytcakbenoaclbkaa.X
