/- Texts that the row of FnExactReadRule stands on: functions of the program and of the reference, each as a Lean function with the same answers, and the plain lemmas. Conditions: none beside those that each theorem names. -/
import Derived.Test.YtiemmhhjiplnlaaDoorCFnExactReadRule3
namespace Go.Proofs.YtiemmhhjiplnlaaDoor.X
open Go.RowKit Go.Proofs.YtiemmhhjiplnlaaDoorW.PrintWords Go.Proofs.YtiemmhhjiplnlaaDoorW.PrintLast Go.Proofs.YtiemmhhjiplnlaaDoorW.PrintMore
attribute [local go_sem] max2_int min2_int max_two min_two max_three min_three max_four min_four   -- for this text's walks alone
set_option linter.unusedVariables false
set_option linter.unusedSimpArgs false
open Go.Proofs.YtiemmhhjiplnlaaDoorW.PrintWords renaming blk_drewN -> bDn
open Go.Proofs.YtiemmhhjiplnlaaDoorW.PrintWords renaming blk_drew -> bDr
open Go.Proofs.YtiemmhhjiplnlaaDoorW.PrintWords renaming blk_alloc -> bAl
open Go.Proofs.YtiemmhhjiplnlaaDoorW.PrintWords renaming blk_frozen -> bFr
open Go.Proofs.YtiemmhhjiplnlaaDoorW.PrintWords renaming blk_cell -> bCe
open Go.Proofs.YtiemmhhjiplnlaaDoorW.PrintWords.Aside0 renaming mk -> aMk
open Go.World renaming block_lt_of_cell? -> wLt
open Go.Proofs.YtiemmhhjiplnlaaDoorW.PrintWords renaming pw_below_drewN -> bwN
open Go.Proofs.YtiemmhhjiplnlaaDoorW.PrintWords renaming below_drew1 -> bw1
open Go.Proofs.YtiemmhhjiplnlaaDoorW.PrintWords renaming below_alloc -> bwA
section
/-! ### impl_ReadRule: function 9 -/
def impl_ReadRule.j0 : Nat → List ByteArray → Bool → Option (Int × Int × Int × Int × Int × Bool × Int)
 | 0,_,_ => none
 | k + 1,x4,x34 => if x34 = true then (some (0,0,0,0,0,false,3)) else (if 1 < (x4.length : Int) then ((impl_readProto.f k (rdOf ByteArray.empty x4 1)).bind fun bt356 => (if 2 < (x4.length : Int) then ((impl_readNet.f k (rdOf ByteArray.empty x4 2)).bind fun bt359 => (if 3 < (x4.length : Int) then ((impl_number.f (rdOf ByteArray.empty x4 3)).bind fun bt364 => (if 4 < (x4.length : Int) then ((impl_number.f (rdOf ByteArray.empty x4 4)).bind fun bt367 => (if 0 < (x4.length : Int) then (if bt356.2 = true then (if bt359.2.2 = true then (if bt364.2 = true then (if bt367.2 = true then ((impl_RuleOK.f k bt356.1 bt359.1 bt359.2.1 bt364.1 bt367.1 ((rdOf ByteArray.empty x4 0).toList == ([97,108,108,111,119] : List UInt8))).bind fun t371 => (if t371 = true then (some (bt356.1,bt359.1,bt359.2.1,bt364.1,bt367.1,((rdOf ByteArray.empty x4 0).toList == ([97,108,108,111,119] : List UInt8)),0)) else (some (0,0,0,0,0,false,3)))) else (some (0,0,0,0,0,false,3))) else (some (0,0,0,0,0,false,3))) else (some (0,0,0,0,0,false,3))) else (some (0,0,0,0,0,false,3))) else (none))) else (none))) else (none))) else (none))) else (none))
def impl_ReadRule.f (k : Nat) (a0 : ByteArray) : Option (Int × Int × Int × Int × Int × Bool × Int):=if (a0.size : Int) > 65536 then (some (0,0,0,0,0,false,2)) else ((impl_lineWords.f a0).bind fun t350 => (if (t350.length : Int) = 5 then (if 0 < (t350.length : Int) then (if (rdOf ByteArray.empty t350 0).toList = ([97,108,108,111,119] : List UInt8) then (impl_ReadRule.j0 k t350 false) else (impl_ReadRule.j0 k t350 ((rdOf ByteArray.empty t350 0).toList != ([100,101,110,121] : List UInt8)))) else (none)) else (impl_ReadRule.j0 k t350 true)))
theorem impl_ReadRule.mono_l : ∀ k,(∀ y0 y1,LeO (impl_ReadRule.j0 k y0 y1) (impl_ReadRule.j0 (k + 1) y0 y1))
 | 0 => fun _ _ r h => by simp [impl_ReadRule.j0] at h
 | k + 1 => by
  have ih0:=impl_ReadRule.mono_l k
  ·intro y0 y1
   unfold impl_ReadRule.j0
   repeat' first
   | (with_reducible exact ih0 _ _)
   | (with_reducible exact impl_RuleOK.mono ..)
   | (with_reducible exact impl_readNet.mono ..)
   | (with_reducible exact impl_readProto.mono ..)
   | (with_reducible exact LeO.refl _)
   | (with_reducible exact LeO.none _)
   | (with_reducible refine LeO.ite ?_ ?_)
   | (with_reducible refine LeO.bind ?_ (fun _ => ?_))
   | exact ih0 _ _
   | exact impl_RuleOK.mono ..
   | exact impl_readNet.mono ..
   | exact impl_readProto.mono ..
   | exact LeO.none _
   | refine LeO.ite ?_ ?_
   | refine LeO.bind ?_ (fun _ => ?_)
theorem impl_ReadRule.mono : ∀ a0 k,LeO (impl_ReadRule.f k a0) (impl_ReadRule.f (k + 1) a0):=by
 intro a0 k
 have ih0:=impl_ReadRule.mono_l k
 unfold impl_ReadRule.f
 repeat' first
   | (with_reducible exact ih0 _ _)
   | (with_reducible exact impl_RuleOK.mono ..)
   | (with_reducible exact impl_readNet.mono ..)
   | (with_reducible exact impl_readProto.mono ..)
   | (with_reducible exact LeO.refl _)
   | (with_reducible exact LeO.none _)
   | (with_reducible refine LeO.ite ?_ ?_)
   | (with_reducible refine LeO.bind ?_ (fun _ => ?_))
   | exact ih0 _ _
   | exact impl_RuleOK.mono ..
   | exact impl_readNet.mono ..
   | exact impl_readProto.mono ..
   | exact LeO.none _
   | refine LeO.ite ?_ ?_
   | refine LeO.bind ?_ (fun _ => ?_)
def impl_ReadRule.T10 : Bool × List (List Nat × List Nat):=(true,[([],[]),([],[]),([],[]),([],[]),([2,3],[2,3]),([],[]),([5],[5]),([6],[6]),([7],[7]),([0,1,4,8],[0,1,4,8]),([],[]),([10,9,0,1,2,3,4,5,6,7,8,9,10],[9,10])])
def impl_ReadRule.B10 : List Nat:=[0,0,0,0,12,0,32,96,224,511,0,2047]
theorem impl_ReadRule.tab10 : rtab .any (opsOf Tryd.f9 10) = impl_ReadRule.T10:=by kernel_rfl
theorem impl_ReadRule.bits10 : waitsOk impl_ReadRule.T10.2 impl_ReadRule.B10 = true:=by kernel_rfl
set_option maxHeartbeats 8000000 in
set_option maxRecDepth 100000 in
theorem impl_ReadRule.calls (k : Nat) (a0 : ByteArray) (r1 : Int) (r2 : Int) (r3 : Int) (r4 : Int) (r5 : Int) (r6 : Bool) (r7 : Int) (w : World) (hGe : GLe w) (hGp : GLp w) (h : impl_ReadRule.f k a0 = some (r1,r2,r3,r4,r5,r6,r7)) :
  Calls Tryd.prog 9 #[.string a0] w fun e w' => e = .returned (.tuple #[.agg #[.int .i64 r1,.int .i64 r2,.int .i64 r3,.int .i64 r4,.int .i64 r5,.bool r6],.int .i64 r7]) ∧ Below w.heap.size w w':=by
 have HGe_:=aMk hGe
 have HGp_:=aMk hGp
 clear hGe hGp
 have hu33:=Tryd.underlying33
 have hu30:=Tryd.underlying30
 have hu31:=Tryd.underlying31
 have HB:=aMk (Below.refl w.heap.size w)
 have H : (if (a0.size : Int) > 65536 then (some (0,0,0,0,0,false,2)) else ((impl_lineWords.f a0).bind fun t350 => (if (t350.length : Int) = 5 then (if 0 < (t350.length : Int) then (if (rdOf ByteArray.empty t350 0).toList = ([97,108,108,111,119] : List UInt8) then (impl_ReadRule.j0 k t350 false) else (impl_ReadRule.j0 k t350 ((rdOf ByteArray.empty t350 0).toList != ([100,101,110,121] : List UInt8)))) else (none)) else (impl_ReadRule.j0 k t350 true)))) = some (r1,r2,r3,r4,r5,r6,r7):=h
 clear h
 by_cases c2 : (a0.size : Int) > 65536
 ·rw [if_pos c2] at H
  have c2b0 : decide (65536 < (a0.size : Int)) = true:=decide_eq_true c2
  have c2b1 : decide (65536 < a0.size) = true:=decide_eq_true (by omega)
  clear c2
  simp only [Option.some.injEq,Prod.mk.injEq] at H
  obtain ⟨rfl,rfl,rfl,rfl,rfl,rfl,rfl⟩:=H
  go_enter Tryd.func9,Tryd.ntmps9
  go_wp2_with (first|((with_reducible refine gate_dst (N:=2) rfl ?_);refine box_event ?hg (N:=2) ?hd (cs:=#[.int .i64 0,.int .i64 0,.int .i64 0,.int .i64 0,.int .i64 0,.bool false]) (t:=33) ?hr ?_;(case hd => rfl);(case hg => rfl);(case hr => first|(go_simp;done)|(go_simp;rfl));intro gb349 hg w3 hbox hb;have n0_:=aMk (below_step (by repeat first|exact HB.out|apply bwA|apply bwN|apply bw1) hb);have n1_:=aMk (hbox);have n2_:=aMk ((by rw [hg];exact (below_size (by repeat first|exact HB.out|apply bwA|apply bwN|apply bw1)) : w.heap.size ≤ gb349));have n3_:=aMk ((by rw [hg];exact (below_size (by repeat first|exact HB.out|apply bwA|apply bwN|apply bw1)) : w.heap.size ≤ gb349));clear HB;have HB:=n0_;have BK349:=n1_;have GW349:=n2_;have GE349:=n3_;clear n0_ n1_ n2_ n3_;clear hb hbox hg;have hcz4_0 : w3.cell? ⟨gb349,0,none⟩ = some (.int .i64 0):=(bCe BK349.out 0).trans rfl;have hcz4_1 : w3.cell? ⟨gb349,1,none⟩ = some (.int .i64 0):=(bCe BK349.out 1).trans rfl;have hcz4_2 : w3.cell? ⟨gb349,2,none⟩ = some (.int .i64 0):=(bCe BK349.out 2).trans rfl;have hcz4_3 : w3.cell? ⟨gb349,3,none⟩ = some (.int .i64 0):=(bCe BK349.out 3).trans rfl;have hcz4_4 : w3.cell? ⟨gb349,4,none⟩ = some (.int .i64 0):=(bCe BK349.out 4).trans rfl;have hcz4_5 : w3.cell? ⟨gb349,5,none⟩ = some (.bool false):=(bCe BK349.out 5).trans rfl;have hfz4_0:=bFr BK349.out 0;have hfz4_1:=bFr BK349.out 1;have hfz4_2:=bFr BK349.out 2;have hfz4_3:=bFr BK349.out 3;have hfz4_4:=bFr BK349.out 4;have hfz4_5:=bFr BK349.out 5))
  refine bodyPost_ret (results_ct rfl _ _ gb349 33 #[.int .i64 0,.int .i64 0,.int .i64 0,.int .i64 0,.int .i64 0,.bool false] (0,0) _ rfl (by (with_reducible repeat (first|refine bDn ?_ _|refine bDr ?_|refine bAl ?_ _));refine blk_put (cs:=#[.int .i64 0,.int .i64 0,.int .i64 0,.int .i64 0,.int .i64 0,.bool false]) ?_ 5 _ rfl;(with_reducible repeat (first|refine bDn ?_ _|refine bDr ?_|refine bAl ?_ _));refine blk_put (cs:=#[.int .i64 0,.int .i64 0,.int .i64 0,.int .i64 0,.int .i64 0,.bool false]) ?_ 4 _ rfl;(with_reducible repeat (first|refine bDn ?_ _|refine bDr ?_|refine bAl ?_ _));refine blk_put (cs:=#[.int .i64 0,.int .i64 0,.int .i64 0,.int .i64 0,.int .i64 0,.bool false]) ?_ 3 _ rfl;(with_reducible repeat (first|refine bDn ?_ _|refine bDr ?_|refine bAl ?_ _));refine blk_put (cs:=#[.int .i64 0,.int .i64 0,.int .i64 0,.int .i64 0,.int .i64 0,.bool false]) ?_ 2 _ rfl;(with_reducible repeat (first|refine bDn ?_ _|refine bDr ?_|refine bAl ?_ _));refine blk_put (cs:=#[.int .i64 0,.int .i64 0,.int .i64 0,.int .i64 0,.int .i64 0,.bool false]) ?_ 1 _ rfl;(with_reducible repeat (first|refine bDn ?_ _|refine bDr ?_|refine bAl ?_ _));refine blk_put (cs:=#[.int .i64 0,.int .i64 0,.int .i64 0,.int .i64 0,.int .i64 0,.bool false]) ?_ 0 _ rfl;(with_reducible repeat (first|refine bDn ?_ _|refine bDr ?_|refine bAl ?_ _));exact BK349.out) Tryd.underlying33 rfl (by kernel_rfl)) rfl ?_
  exact ⟨by first | rfl|(simp [errW_none,errW_some] <;> rfl)|(simp [*,errW_none,errW_some] <;> rfl),by repeat (first|(with_reducible first|exact HB.out|apply bwA|apply bwN|apply bw1|refine below_set ?_ GE349.out)|exact HB.out)⟩
 ·rw [if_neg c2] at H
  have c2b0 : decide (65536 < (a0.size : Int)) = false:=decide_eq_false c2
  have c2b1 : decide (65536 < a0.size) = false:=decide_eq_false (by omega)
  clear c2
  replace H:=Option.bind_eq_some_iff.mp H
  obtain ⟨t350,A50,H⟩:=H
  replace H : (if (t350.length : Int) = 5 then (if 0 < (t350.length : Int) then (if (rdOf ByteArray.empty t350 0).toList = ([97,108,108,111,119] : List UInt8) then (impl_ReadRule.j0 k t350 false) else (impl_ReadRule.j0 k t350 ((rdOf ByteArray.empty t350 0).toList != ([100,101,110,121] : List UInt8)))) else (none)) else (impl_ReadRule.j0 k t350 true)) = some (r1,r2,r3,r4,r5,r6,r7):=H
  have A5:=aMk A50
  clear A50
  have HC6:=aMk H
  clear H
  go_enter Tryd.func9,Tryd.ntmps9
  go_upto_region 4 with (first|((with_reducible refine gate_dst (N:=2) rfl ?_);refine box_event ?hg (N:=2) ?hd (cs:=#[.int .i64 0,.int .i64 0,.int .i64 0,.int .i64 0,.int .i64 0,.bool false]) (t:=33) ?hr ?_;(case hd => rfl);(case hg => rfl);(case hr => first|(go_simp;done)|(go_simp;rfl));intro gb349 hg w7 hbox hb;have n0_:=aMk (below_step (by repeat first|exact HB.out|apply bwA|apply bwN|apply bw1) hb);have n1_:=aMk (hbox);have n2_:=aMk ((by rw [hg];exact (below_size (by repeat first|exact HB.out|apply bwA|apply bwN|apply bw1)) : w.heap.size ≤ gb349));have n3_:=aMk ((by rw [hg];exact (below_size (by repeat first|exact HB.out|apply bwA|apply bwN|apply bw1)) : w.heap.size ≤ gb349));clear HB;have HB:=n0_;have BK349:=n1_;have GW349:=n2_;have GE349:=n3_;clear n0_ n1_ n2_ n3_;clear hb hbox hg)|((with_reducible refine gate_callee (f:=24) rfl ?_);refine goesL_ (some 19) rfl rfl Tryd.func24 (by kernel_rfl) rfl #[.string a0] rfl (by (try simp only [List.map_toArray,List.map_cons,List.map_nil]);first | done | rfl|(simp only [List.length_drop,List.length_take];rfl)) ?_;(with_reducible refine (impl_lineWords.calls a0 t350 _ A5.out).mono ?_);rintro e w8 ⟨v351,rfl,ho0,hb⟩;refine ⟨_,rfl,?_⟩;have n0_:=aMk (Kd.R_lower ho0 (below_size (by repeat (first|(with_reducible first|exact HB.out|apply bwA|apply bwN|apply bw1|refine below_set ?_ GE349.out)|exact HB.out))));have n1_:=aMk (blk_below (g:=gb349) (o:=.cells #[.int .i64 0,.int .i64 0,.int .i64 0,.int .i64 0,.int .i64 0,.bool false] 33 (0,0)) (by (with_reducible repeat (first|refine bDn ?_ _|refine bDr ?_|refine bAl ?_ _));exact BK349.out) hb);have n2_:=aMk (below_step (by repeat (first|(with_reducible first|exact HB.out|apply bwA|apply bwN|apply bw1|refine below_set ?_ GE349.out)|exact HB.out)) hb);clear BK349;clear HB;have HO352:=n0_;have BK349:=n1_;have HB:=n2_;clear n0_ n1_ n2_;(try clear hb);(try clear hb2);(try clear hk);(try clear hi);(try clear ho0)))
  (try simp only [Act.put,List.setIfInBounds_toArray,List.set_cons_zero,List.set_cons_succ])
  go_cut [34] (fun v34 wc => ∃ (kq : Nat) (x34_5 : Bool),v34 = .bool x34_5 ∧ Aside0 (impl_ReadRule.j0 kq t350 x34_5 = some (r1,r2,r3,r4,r5,r6,r7)) ∧ Aside0 (kq ≤ k) ∧ Aside0 (Kd.R Kd.string 9 wc w.heap.size (fun _ => True) v351 t350) ∧ Aside0 (wc.heap[gb349]? = some (.cells #[.int .i64 0,.int .i64 0,.int .i64 0,.int .i64 0,.int .i64 0,.bool false] 33 (0,0))) ∧ Aside0 (Below w.heap.size w wc))
  case first =>
   have H:=HC6.out
   clear HC6
   by_cases c9 : (t350.length : Int) = 5
   ·rw [if_pos c9] at H
    have c9b0 : ((t350.length : Int) == 5) = true:=beq_iff_eq.mpr c9
    have c9b1 : ((t350.length : Int) != 5) = false:=bne_eq_false_iff_eq.mpr c9
    clear c9
    (first|rw [c9b0]|(simp only [i64_w,i32_w];rw [c9b0]) | skip)
    by_cases c10 : 0 < (t350.length : Int)
    ·rw [if_pos c10] at H
     have c10b0 : decide (0 < (t350.length : Int)) = true:=decide_eq_true c10
     have c10b1 : decide (0 < t350.length) = true:=decide_eq_true (by omega)
     clear c10
     by_cases c11 : (rdOf ByteArray.empty t350 0).toList = ([97,108,108,111,119] : List UInt8)
     ·rw [if_pos c11] at H
      have c11b0 : ((rdOf ByteArray.empty t350 0).toList == ([97,108,108,111,119] : List UInt8)) = true:=beq_iff_eq.mpr c11
      have c11b1 : ((rdOf ByteArray.empty t350 0).toList != ([97,108,108,111,119] : List UInt8)) = false:=bne_eq_false_iff_eq.mpr c11
      clear c11
      have H':=aMk H
      clear H
      obtain ⟨Ao12,co12,eo12⟩:=Kd.R_slice HO352.out
      subst eo12
      have p353 : 0 ≤ (0 : Int):=(by omega)
      have q353 : 0 < (t350.length : Int):=of_decide_eq_true (by first|(with_reducible assumption) | assumption)
      obtain ⟨ad353,e353,hx353_0⟩:=Kd.at_string (Kd.R_reads' HO352.out).2.2 0 p353 q353
      cases e353
      have qi353 : (0 < t350.length) = True:=eq_true (by omega)
      (try rw [show ((0 : Int)).toNat = 0 from rfl] at hx353_0)
      (try rw [Addr.add_zero'] at hx353_0)
      replace p353:=eq_true p353
      replace q353:=eq_true q353
      go_wp2
      go_meet
      case rel => exact ⟨_,(false),(by first | rfl|(simp;done)|(simp [*];done)|(simp [ne_nil_b];done)|(simp [ne_nil_b, *];done)),H',⟨by first | omega|exact Nat.le_refl _⟩,⟨by (with_reducible repeat (first|apply Kd.R_alloc|apply Kd.R_drewN|apply Kd.R_drew));exact HO352.out⟩,⟨by (with_reducible repeat (first|refine bDn ?_ _|refine bDr ?_|refine bAl ?_ _));exact BK349.out⟩,⟨by repeat (first|(with_reducible first|exact HB.out|apply bwA|apply bwN|apply bw1|refine below_set ?_ GE349.out)|exact HB.out)⟩⟩
     ·rw [if_neg c11] at H
      have c11b0 : ((rdOf ByteArray.empty t350 0).toList == ([97,108,108,111,119] : List UInt8)) = false:=beq_eq_false_iff_ne.mpr c11
      have c11b1 : ((rdOf ByteArray.empty t350 0).toList != ([97,108,108,111,119] : List UInt8)) = true:=bne_iff_ne.mpr c11
      have H':=aMk H
      clear H
      obtain ⟨Ao13,co13,eo13⟩:=Kd.R_slice HO352.out
      subst eo13
      have p353 : 0 ≤ (0 : Int):=(by omega)
      have q353 : 0 < (t350.length : Int):=of_decide_eq_true (by first|(with_reducible assumption) | assumption)
      obtain ⟨ad353,e353,hx353_0⟩:=Kd.at_string (Kd.R_reads' HO352.out).2.2 0 p353 q353
      cases e353
      have qi353 : (0 < t350.length) = True:=eq_true (by omega)
      (try rw [show ((0 : Int)).toNat = 0 from rfl] at hx353_0)
      (try rw [Addr.add_zero'] at hx353_0)
      replace p353:=eq_true p353
      replace q353:=eq_true q353
      have p354 : 0 ≤ (0 : Int):=(by omega)
      have q354 : 0 < (t350.length : Int):=of_decide_eq_true (by first|(with_reducible assumption) | assumption)
      obtain ⟨ad354,e354,hx354_0⟩:=Kd.at_string (Kd.R_reads' HO352.out).2.2 0 p354 q354
      obtain rfl : ad353 = ad354:=(by injection e354)
      have qi354 : (0 < t350.length) = True:=eq_true (by omega)
      (try rw [show ((0 : Int)).toNat = 0 from rfl] at hx354_0)
      (try rw [Addr.add_zero'] at hx354_0)
      replace p354:=eq_true p354
      replace q354:=eq_true q354
      go_wp2
      go_meet
      case rel => exact ⟨_,(((rdOf ByteArray.empty t350 0).toList != ([100,101,110,121] : List UInt8))),(by first | rfl|(simp;done)|(simp [*];done)|(simp [ne_nil_b];done)|(simp [ne_nil_b, *];done)),H',⟨by first | omega|exact Nat.le_refl _⟩,⟨by (with_reducible repeat (first|apply Kd.R_alloc|apply Kd.R_drewN|apply Kd.R_drew));exact HO352.out⟩,⟨by (with_reducible repeat (first|refine bDn ?_ _|refine bDr ?_|refine bAl ?_ _));exact BK349.out⟩,⟨by repeat (first|(with_reducible first|exact HB.out|apply bwA|apply bwN|apply bw1|refine below_set ?_ GE349.out)|exact HB.out)⟩⟩
    ·rw [if_neg c10] at H
     exact absurd H (by simp)
   ·rw [if_neg c9] at H
    have c9b0 : ((t350.length : Int) == 5) = false:=beq_eq_false_iff_ne.mpr c9
    have c9b1 : ((t350.length : Int) != 5) = true:=bne_iff_ne.mpr c9
    (first|rw [c9b0]|(simp only [i64_w,i32_w];rw [c9b0]) | skip)
    have H':=aMk H
    clear H
    obtain ⟨Ao14,co14,eo14⟩:=Kd.R_slice HO352.out
    subst eo14
    go_wp2
    go_meet
    case rel => exact ⟨_,(true),(by first | rfl|(simp;done)|(simp [*];done)|(simp [ne_nil_b];done)|(simp [ne_nil_b, *];done)),H',⟨by first | omega|exact Nat.le_refl _⟩,⟨by (with_reducible repeat (first|apply Kd.R_alloc|apply Kd.R_drewN|apply Kd.R_drew));exact HO352.out⟩,⟨by (with_reducible repeat (first|refine bDn ?_ _|refine bDr ?_|refine bAl ?_ _));exact BK349.out⟩,⟨by repeat (first|(with_reducible first|exact HB.out|apply bwA|apply bwN|apply bw1|refine below_set ?_ GE349.out)|exact HB.out)⟩⟩
  case rest =>
   clear HC6
   try clear c1
   try clear c2
   try clear c2b0
   try clear c2b1
   try clear p2
   try clear p3
   try clear q3
   try clear hx3
   try clear qi3
   try clear c9
   try clear c9b0
   try clear c9b1
   try clear c10
   try clear c10b0
   try clear c10b1
   try clear c11
   try clear c11b0
   try clear c11b1
   try clear hcz4_0
   try clear hcz4_1
   try clear hcz4_2
   try clear hcz4_3
   try clear hcz4_4
   try clear hcz4_5
   try clear hfz4_0
   try clear hfz4_1
   try clear hfz4_2
   try clear hfz4_3
   try clear hfz4_4
   try clear hfz4_5
   try clear hx353_0
   try clear hx354_0
   try clear p353
   try clear p354
   try clear q353
   try clear q354
   obtain ⟨kq,x34_5,rfl,HA,HJ5,HO_4,BK349,HB⟩:=hcut
   cases kq with
   | zero => exact absurd HA.out (by simp [impl_ReadRule.j0])
   | succ kj5 =>
    have H:=HA.out
    clear HA
    simp only [impl_ReadRule.j0] at H
    by_cases c15 : x34_5 = true
    ·subst c15
     have H1 : (some (0,0,0,0,0,false,3)) = some (r1,r2,r3,r4,r5,r6,r7):=by rw [if_pos rfl] at H;exact H
     clear H
     have H:=H1
     clear H1
     simp only [Option.some.injEq,Prod.mk.injEq] at H
     obtain ⟨rfl,rfl,rfl,rfl,rfl,rfl,rfl⟩:=H
     have hcz16_0 : wc.cell? ⟨gb349,0,none⟩ = some (.int .i64 0):=(bCe BK349.out 0).trans rfl
     have hcz16_1 : wc.cell? ⟨gb349,1,none⟩ = some (.int .i64 0):=(bCe BK349.out 1).trans rfl
     have hcz16_2 : wc.cell? ⟨gb349,2,none⟩ = some (.int .i64 0):=(bCe BK349.out 2).trans rfl
     have hcz16_3 : wc.cell? ⟨gb349,3,none⟩ = some (.int .i64 0):=(bCe BK349.out 3).trans rfl
     have hcz16_4 : wc.cell? ⟨gb349,4,none⟩ = some (.int .i64 0):=(bCe BK349.out 4).trans rfl
     have hcz16_5 : wc.cell? ⟨gb349,5,none⟩ = some (.bool false):=(bCe BK349.out 5).trans rfl
     have hfz16_0:=bFr BK349.out 0
     have hfz16_1:=bFr BK349.out 1
     have hfz16_2:=bFr BK349.out 2
     have hfz16_3:=bFr BK349.out 3
     have hfz16_4:=bFr BK349.out 4
     have hfz16_5:=bFr BK349.out 5
     go_wp2
     refine bodyPost_ret (results_ct rfl _ _ gb349 33 #[.int .i64 0,.int .i64 0,.int .i64 0,.int .i64 0,.int .i64 0,.bool false] (0,0) _ rfl (by (with_reducible repeat (first|refine bDn ?_ _|refine bDr ?_|refine bAl ?_ _));refine blk_put (cs:=#[.int .i64 0,.int .i64 0,.int .i64 0,.int .i64 0,.int .i64 0,.bool false]) ?_ 5 _ rfl;(with_reducible repeat (first|refine bDn ?_ _|refine bDr ?_|refine bAl ?_ _));refine blk_put (cs:=#[.int .i64 0,.int .i64 0,.int .i64 0,.int .i64 0,.int .i64 0,.bool false]) ?_ 4 _ rfl;(with_reducible repeat (first|refine bDn ?_ _|refine bDr ?_|refine bAl ?_ _));refine blk_put (cs:=#[.int .i64 0,.int .i64 0,.int .i64 0,.int .i64 0,.int .i64 0,.bool false]) ?_ 3 _ rfl;(with_reducible repeat (first|refine bDn ?_ _|refine bDr ?_|refine bAl ?_ _));refine blk_put (cs:=#[.int .i64 0,.int .i64 0,.int .i64 0,.int .i64 0,.int .i64 0,.bool false]) ?_ 2 _ rfl;(with_reducible repeat (first|refine bDn ?_ _|refine bDr ?_|refine bAl ?_ _));refine blk_put (cs:=#[.int .i64 0,.int .i64 0,.int .i64 0,.int .i64 0,.int .i64 0,.bool false]) ?_ 1 _ rfl;(with_reducible repeat (first|refine bDn ?_ _|refine bDr ?_|refine bAl ?_ _));refine blk_put (cs:=#[.int .i64 0,.int .i64 0,.int .i64 0,.int .i64 0,.int .i64 0,.bool false]) ?_ 0 _ rfl;(with_reducible repeat (first|refine bDn ?_ _|refine bDr ?_|refine bAl ?_ _));exact BK349.out) Tryd.underlying33 rfl (by kernel_rfl)) rfl ?_
     exact ⟨by first | rfl|(simp [errW_none,errW_some] <;> rfl)|(simp [*,errW_none,errW_some] <;> rfl),by repeat (first|(with_reducible first|exact HB.out|apply bwA|apply bwN|apply bw1|refine below_set ?_ GE349.out)|exact HB.out)⟩
    ·replace c15:=Bool.eq_false_iff.mpr c15
     subst c15
     have H1 : (if 1 < (t350.length : Int) then ((impl_readProto.f kj5 (rdOf ByteArray.empty t350 1)).bind fun bt356 => (if 2 < (t350.length : Int) then ((impl_readNet.f kj5 (rdOf ByteArray.empty t350 2)).bind fun bt359 => (if 3 < (t350.length : Int) then ((impl_number.f (rdOf ByteArray.empty t350 3)).bind fun bt364 => (if 4 < (t350.length : Int) then ((impl_number.f (rdOf ByteArray.empty t350 4)).bind fun bt367 => (if 0 < (t350.length : Int) then (if bt356.2 = true then (if bt359.2.2 = true then (if bt364.2 = true then (if bt367.2 = true then ((impl_RuleOK.f kj5 bt356.1 bt359.1 bt359.2.1 bt364.1 bt367.1 ((rdOf ByteArray.empty t350 0).toList == ([97,108,108,111,119] : List UInt8))).bind fun t371 => (if t371 = true then (some (bt356.1,bt359.1,bt359.2.1,bt364.1,bt367.1,((rdOf ByteArray.empty t350 0).toList == ([97,108,108,111,119] : List UInt8)),0)) else (some (0,0,0,0,0,false,3)))) else (some (0,0,0,0,0,false,3))) else (some (0,0,0,0,0,false,3))) else (some (0,0,0,0,0,false,3))) else (some (0,0,0,0,0,false,3))) else (none))) else (none))) else (none))) else (none))) else (none)) = some (r1,r2,r3,r4,r5,r6,r7):=by rw [if_neg (show ¬ (false = true) by decide)] at H;exact H
     clear H
     have H:=H1
     clear H1
     by_cases c17 : 1 < (t350.length : Int)
     ·rw [if_pos c17] at H
      have c17b0 : decide (1 < (t350.length : Int)) = true:=decide_eq_true c17
      have c17b1 : decide (1 < t350.length) = true:=decide_eq_true (by omega)
      clear c17
      replace H:=Option.bind_eq_some_iff.mp H
      obtain ⟨⟨t356,t357⟩,A180,H⟩:=H
      replace H : (if 2 < (t350.length : Int) then ((impl_readNet.f kj5 (rdOf ByteArray.empty t350 2)).bind fun bt359 => (if 3 < (t350.length : Int) then ((impl_number.f (rdOf ByteArray.empty t350 3)).bind fun bt364 => (if 4 < (t350.length : Int) then ((impl_number.f (rdOf ByteArray.empty t350 4)).bind fun bt367 => (if 0 < (t350.length : Int) then (if t357 = true then (if bt359.2.2 = true then (if bt364.2 = true then (if bt367.2 = true then ((impl_RuleOK.f kj5 t356 bt359.1 bt359.2.1 bt364.1 bt367.1 ((rdOf ByteArray.empty t350 0).toList == ([97,108,108,111,119] : List UInt8))).bind fun t371 => (if t371 = true then (some (t356,bt359.1,bt359.2.1,bt364.1,bt367.1,((rdOf ByteArray.empty t350 0).toList == ([97,108,108,111,119] : List UInt8)),0)) else (some (0,0,0,0,0,false,3)))) else (some (0,0,0,0,0,false,3))) else (some (0,0,0,0,0,false,3))) else (some (0,0,0,0,0,false,3))) else (some (0,0,0,0,0,false,3))) else (none))) else (none))) else (none))) else (none)) = some (r1,r2,r3,r4,r5,r6,r7):=H
      have A18:=aMk A180
      clear A180
      by_cases c19 : 2 < (t350.length : Int)
      ·rw [if_pos c19] at H
       have c19b0 : decide (2 < (t350.length : Int)) = true:=decide_eq_true c19
       have c19b1 : decide (2 < t350.length) = true:=decide_eq_true (by omega)
       clear c19
       replace H:=Option.bind_eq_some_iff.mp H
       obtain ⟨⟨t359,t360,t361⟩,A200,H⟩:=H
       replace H : (if 3 < (t350.length : Int) then ((impl_number.f (rdOf ByteArray.empty t350 3)).bind fun bt364 => (if 4 < (t350.length : Int) then ((impl_number.f (rdOf ByteArray.empty t350 4)).bind fun bt367 => (if 0 < (t350.length : Int) then (if t357 = true then (if t361 = true then (if bt364.2 = true then (if bt367.2 = true then ((impl_RuleOK.f kj5 t356 t359 t360 bt364.1 bt367.1 ((rdOf ByteArray.empty t350 0).toList == ([97,108,108,111,119] : List UInt8))).bind fun t371 => (if t371 = true then (some (t356,t359,t360,bt364.1,bt367.1,((rdOf ByteArray.empty t350 0).toList == ([97,108,108,111,119] : List UInt8)),0)) else (some (0,0,0,0,0,false,3)))) else (some (0,0,0,0,0,false,3))) else (some (0,0,0,0,0,false,3))) else (some (0,0,0,0,0,false,3))) else (some (0,0,0,0,0,false,3))) else (none))) else (none))) else (none)) = some (r1,r2,r3,r4,r5,r6,r7):=H
       have A20:=aMk A200
       clear A200
       by_cases c21 : 3 < (t350.length : Int)
       ·rw [if_pos c21] at H
        have c21b0 : decide (3 < (t350.length : Int)) = true:=decide_eq_true c21
        have c21b1 : decide (3 < t350.length) = true:=decide_eq_true (by omega)
        clear c21
        replace H:=Option.bind_eq_some_iff.mp H
        obtain ⟨⟨t364,t365⟩,A220,H⟩:=H
        replace H : (if 4 < (t350.length : Int) then ((impl_number.f (rdOf ByteArray.empty t350 4)).bind fun bt367 => (if 0 < (t350.length : Int) then (if t357 = true then (if t361 = true then (if t365 = true then (if bt367.2 = true then ((impl_RuleOK.f kj5 t356 t359 t360 t364 bt367.1 ((rdOf ByteArray.empty t350 0).toList == ([97,108,108,111,119] : List UInt8))).bind fun t371 => (if t371 = true then (some (t356,t359,t360,t364,bt367.1,((rdOf ByteArray.empty t350 0).toList == ([97,108,108,111,119] : List UInt8)),0)) else (some (0,0,0,0,0,false,3)))) else (some (0,0,0,0,0,false,3))) else (some (0,0,0,0,0,false,3))) else (some (0,0,0,0,0,false,3))) else (some (0,0,0,0,0,false,3))) else (none))) else (none)) = some (r1,r2,r3,r4,r5,r6,r7):=H
        have A22:=aMk A220
        clear A220
        by_cases c23 : 4 < (t350.length : Int)
        ·rw [if_pos c23] at H
         have c23b0 : decide (4 < (t350.length : Int)) = true:=decide_eq_true c23
         have c23b1 : decide (4 < t350.length) = true:=decide_eq_true (by omega)
         clear c23
         replace H:=Option.bind_eq_some_iff.mp H
         obtain ⟨⟨t367,t368⟩,A240,H⟩:=H
         replace H : (if 0 < (t350.length : Int) then (if t357 = true then (if t361 = true then (if t365 = true then (if t368 = true then ((impl_RuleOK.f kj5 t356 t359 t360 t364 t367 ((rdOf ByteArray.empty t350 0).toList == ([97,108,108,111,119] : List UInt8))).bind fun t371 => (if t371 = true then (some (t356,t359,t360,t364,t367,((rdOf ByteArray.empty t350 0).toList == ([97,108,108,111,119] : List UInt8)),0)) else (some (0,0,0,0,0,false,3)))) else (some (0,0,0,0,0,false,3))) else (some (0,0,0,0,0,false,3))) else (some (0,0,0,0,0,false,3))) else (some (0,0,0,0,0,false,3))) else (none)) = some (r1,r2,r3,r4,r5,r6,r7):=H
         have A24:=aMk A240
         clear A240
         by_cases c25 : 0 < (t350.length : Int)
         ·rw [if_pos c25] at H
          have c25b0 : decide (0 < (t350.length : Int)) = true:=decide_eq_true c25
          have c25b1 : decide (0 < t350.length) = true:=decide_eq_true (by omega)
          clear c25
          by_cases c26 : t357 = true
          ·subst c26
           have H1 : (if t361 = true then (if t365 = true then (if t368 = true then ((impl_RuleOK.f kj5 t356 t359 t360 t364 t367 ((rdOf ByteArray.empty t350 0).toList == ([97,108,108,111,119] : List UInt8))).bind fun t371 => (if t371 = true then (some (t356,t359,t360,t364,t367,((rdOf ByteArray.empty t350 0).toList == ([97,108,108,111,119] : List UInt8)),0)) else (some (0,0,0,0,0,false,3)))) else (some (0,0,0,0,0,false,3))) else (some (0,0,0,0,0,false,3))) else (some (0,0,0,0,0,false,3))) = some (r1,r2,r3,r4,r5,r6,r7):=by rw [if_pos rfl] at H;exact H
           clear H
           have H:=H1
           clear H1
           by_cases c27 : t361 = true
           ·subst c27
            have H1 : (if t365 = true then (if t368 = true then ((impl_RuleOK.f kj5 t356 t359 t360 t364 t367 ((rdOf ByteArray.empty t350 0).toList == ([97,108,108,111,119] : List UInt8))).bind fun t371 => (if t371 = true then (some (t356,t359,t360,t364,t367,((rdOf ByteArray.empty t350 0).toList == ([97,108,108,111,119] : List UInt8)),0)) else (some (0,0,0,0,0,false,3)))) else (some (0,0,0,0,0,false,3))) else (some (0,0,0,0,0,false,3))) = some (r1,r2,r3,r4,r5,r6,r7):=by rw [if_pos rfl] at H;exact H
            clear H
            have H:=H1
            clear H1
            by_cases c28 : t365 = true
            ·subst c28
             have H1 : (if t368 = true then ((impl_RuleOK.f kj5 t356 t359 t360 t364 t367 ((rdOf ByteArray.empty t350 0).toList == ([97,108,108,111,119] : List UInt8))).bind fun t371 => (if t371 = true then (some (t356,t359,t360,t364,t367,((rdOf ByteArray.empty t350 0).toList == ([97,108,108,111,119] : List UInt8)),0)) else (some (0,0,0,0,0,false,3)))) else (some (0,0,0,0,0,false,3))) = some (r1,r2,r3,r4,r5,r6,r7):=by rw [if_pos rfl] at H;exact H
             clear H
             have H:=H1
             clear H1
             by_cases c29 : t368 = true
             ·subst c29
              have H1 : ((impl_RuleOK.f kj5 t356 t359 t360 t364 t367 ((rdOf ByteArray.empty t350 0).toList == ([97,108,108,111,119] : List UInt8))).bind fun t371 => (if t371 = true then (some (t356,t359,t360,t364,t367,((rdOf ByteArray.empty t350 0).toList == ([97,108,108,111,119] : List UInt8)),0)) else (some (0,0,0,0,0,false,3)))) = some (r1,r2,r3,r4,r5,r6,r7):=by rw [if_pos rfl] at H;exact H
              clear H
              have H:=H1
              clear H1
              replace H:=Option.bind_eq_some_iff.mp H
              obtain ⟨t371,A300,H⟩:=H
              replace H : (if t371 = true then (some (t356,t359,t360,t364,t367,((rdOf ByteArray.empty t350 0).toList == ([97,108,108,111,119] : List UInt8)),0)) else (some (0,0,0,0,0,false,3))) = some (r1,r2,r3,r4,r5,r6,r7):=H
              have A30:=aMk A300
              clear A300
              by_cases c31 : t371 = true
              ·subst c31
               have H1 : (some (t356,t359,t360,t364,t367,((rdOf ByteArray.empty t350 0).toList == ([97,108,108,111,119] : List UInt8)),0)) = some (r1,r2,r3,r4,r5,r6,r7):=by rw [if_pos rfl] at H;exact H
               clear H
               have H:=H1
               clear H1
               simp only [Option.some.injEq,Prod.mk.injEq] at H
               obtain ⟨rfl,rfl,rfl,rfl,rfl,rfl,rfl⟩:=H
               obtain ⟨Ao32,co32,eo32⟩:=Kd.R_slice HO_4.out
               subst eo32
               have p355 : 0 ≤ (1 : Int):=(by omega)
               have q355 : 1 < (t350.length : Int):=of_decide_eq_true (by first|(with_reducible assumption) | assumption)
               obtain ⟨ad355,e355,hx355_0⟩:=Kd.at_string (Kd.R_reads' HO_4.out).2.2 1 p355 q355
               cases e355
               (try simp only [show (1 : Int).toNat = 1 from rfl,Nat.reduceMul,Nat.reduceEqDiff,Go.Addr.add,↓reduceIte] at hx355_0)
               have qi355 : (1 < t350.length) = True:=eq_true (by omega)
               (try rw [show ((1 : Int)).toNat = 1 from rfl] at hx355_0)
               replace p355:=eq_true p355
               replace q355:=eq_true q355
               try go_wp2_with (first|((with_reducible refine gate_callee (f:=25) rfl ?_);refine goesL_ (some 40) rfl rfl Tryd.func25 (by kernel_rfl) rfl #[.string (rdOf ByteArray.empty t350 1)] rfl (by (try simp only [List.map_toArray,List.map_cons,List.map_nil]);first | done | rfl|(simp only [List.length_drop,List.length_take];rfl)) ?_;(with_reducible refine (impl_readProto.calls kj5 (rdOf ByteArray.empty t350 1) t356 true _ A18.out).mono ?_);rintro e w33 ⟨rfl,hb⟩;refine ⟨_,rfl,?_⟩;have n0_:=aMk (Kd.R_below (by (with_reducible repeat (first|apply Kd.R_alloc|apply Kd.R_drewN|apply Kd.R_drew));exact HO_4.out) hb);have n1_:=aMk (blk_below (g:=gb349) (o:=.cells #[.int .i64 0,.int .i64 0,.int .i64 0,.int .i64 0,.int .i64 0,.bool false] 33 (0,0)) (by (with_reducible repeat (first|refine bDn ?_ _|refine bDr ?_|refine bAl ?_ _));exact BK349.out) hb);have n2_:=aMk (below_step (by repeat (first|(with_reducible first|exact HB.out|apply bwA|apply bwN|apply bw1|refine below_set ?_ GE349.out)|exact HB.out)) hb);clear HO_4;clear BK349;clear HB;have HO_4:=n0_;have BK349:=n1_;have HB:=n2_;clear n0_ n1_ n2_;(try clear hb);(try clear hb2);(try clear hk);(try clear hi);have p358 : 0 ≤ (2 : Int):=(by omega);have q358 : 2 < (t350.length : Int):=of_decide_eq_true (by first|(with_reducible assumption) | assumption);obtain ⟨ad358,e358,hx358_0⟩:=Kd.at_string (Kd.R_reads' HO_4.out).2.2 2 p358 q358;obtain rfl : ad355 = ad358:=(by injection e358);(try simp only [show (2 : Int).toNat = 2 from rfl,Nat.reduceMul,Nat.reduceEqDiff,Go.Addr.add,↓reduceIte] at hx358_0);have qi358 : (2 < t350.length) = True:=eq_true (by omega);(try rw [show ((2 : Int)).toNat = 2 from rfl] at hx358_0);replace p358:=eq_true p358;replace q358:=eq_true q358)|((with_reducible refine gate_callee (f:=26) rfl ?_);refine goesL_ (some 47) rfl rfl Tryd.func26 (by kernel_rfl) rfl #[.string (rdOf ByteArray.empty t350 2)] rfl (by (try simp only [List.map_toArray,List.map_cons,List.map_nil]);first | done | rfl|(simp only [List.length_drop,List.length_take];rfl)) ?_;(with_reducible refine (impl_readNet.calls kj5 (rdOf ByteArray.empty t350 2) t359 t360 true _ ?sideGe ?sideGp A20.out).mono ?_);(case sideGe => exact GLe_below HGe_.out (by repeat (first|(with_reducible first|exact HB.out|apply bwA|apply bwN|apply bw1|refine below_set ?_ (Aside0.out (by assumption)))|exact HB.out)));(case sideGp => exact GLp_below HGp_.out (by repeat (first|(with_reducible first|exact HB.out|apply bwA|apply bwN|apply bw1|refine below_set ?_ (Aside0.out (by assumption)))|exact HB.out)));rintro e w34 ⟨rfl,hb⟩;refine ⟨_,rfl,?_⟩;have n0_:=aMk (Kd.R_below (by (with_reducible repeat (first|apply Kd.R_alloc|apply Kd.R_drewN|apply Kd.R_drew));exact HO_4.out) hb);have n1_:=aMk (blk_below (g:=gb349) (o:=.cells #[.int .i64 0,.int .i64 0,.int .i64 0,.int .i64 0,.int .i64 0,.bool false] 33 (0,0)) (by (with_reducible repeat (first|refine bDn ?_ _|refine bDr ?_|refine bAl ?_ _));exact BK349.out) hb);have n2_:=aMk (below_step (by repeat (first|(with_reducible first|exact HB.out|apply bwA|apply bwN|apply bw1|refine below_set ?_ GE349.out)|exact HB.out)) hb);clear HO_4;clear BK349;clear HB;have HO_4:=n0_;have BK349:=n1_;have HB:=n2_;clear n0_ n1_ n2_;(try clear hb);(try clear hb2);(try clear hk);(try clear hi))|((with_reducible refine gate_dst (N:=7) rfl ?_);refine box_event ?hg (N:=7) ?hd (cs:=#[.int .i64 0,.int .i64 0]) (t:=30) ?hr ?_;(case hd => rfl);(case hg => rfl);(case hr => first|(go_simp;done)|(go_simp;rfl));intro gb362 hg w35 hbox hb;have n0_:=aMk (Kd.R_below (by (with_reducible repeat (first|apply Kd.R_alloc|apply Kd.R_drewN|apply Kd.R_drew));exact HO_4.out) hb);have n1_:=aMk (blk_below (g:=gb349) (o:=.cells #[.int .i64 0,.int .i64 0,.int .i64 0,.int .i64 0,.int .i64 0,.bool false] 33 (0,0)) (by (with_reducible repeat (first|refine bDn ?_ _|refine bDr ?_|refine bAl ?_ _));exact BK349.out) hb);have n2_:=aMk (below_step (by repeat (first|(with_reducible first|exact HB.out|apply bwA|apply bwN|apply bw1|refine below_set ?_ GE349.out)|exact HB.out)) hb);have n3_:=aMk (hbox);have n4_:=aMk ((by rw [hg];exact (below_size (by repeat (first|(with_reducible first|exact HB.out|apply bwA|apply bwN|apply bw1|refine below_set ?_ GE349.out)|exact HB.out))) : w.heap.size ≤ gb362));have n5_:=aMk ((by rw [hg];exact (below_size (by repeat (first|(with_reducible first|exact HB.out|apply bwA|apply bwN|apply bw1|refine below_set ?_ GE349.out)|exact HB.out))) : w.heap.size ≤ gb362));have n6_:=aMk ((by rw [hg];exact Nat.ne_of_lt (blk_lt (g:=gb349) (o:=.cells #[.int .i64 0,.int .i64 0,.int .i64 0,.int .i64 0,.int .i64 0,.bool false] 33 (0,0)) (by (with_reducible repeat (first|refine bDn ?_ _|refine bDr ?_|refine bAl ?_ _));exact BK349.out)) : gb349 ≠ gb362));have n7_:=aMk ((by rw [hg];exact Nat.ne_of_gt (blk_lt (g:=gb349) (o:=.cells #[.int .i64 0,.int .i64 0,.int .i64 0,.int .i64 0,.int .i64 0,.bool false] 33 (0,0)) (by (with_reducible repeat (first|refine bDn ?_ _|refine bDr ?_|refine bAl ?_ _));exact BK349.out)) : gb362 ≠ gb349));clear HO_4;clear BK349;clear HB;have HO_4:=n0_;have BK349:=n1_;have HB:=n2_;have BK362:=n3_;have GW362:=n4_;have GE362:=n5_;have NB349_362:=n6_;have NB362_349:=n7_;clear n0_ n1_ n2_ n3_ n4_ n5_ n6_ n7_;clear hb hbox hg;have hnb36:=NB362_349.out;have hnc36:=NB349_362.out;have hcz37_0 : w35.cell? ⟨gb362,0,none⟩ = some (.int .i64 0):=(bCe BK362.out 0).trans rfl;have hcz37_1 : w35.cell? ⟨gb362,1,none⟩ = some (.int .i64 0):=(bCe BK362.out 1).trans rfl;have hfz37_0:=bFr BK362.out 0;have hfz37_1:=bFr BK362.out 1;have p363 : 0 ≤ (3 : Int):=(by omega);have q363 : 3 < (t350.length : Int):=of_decide_eq_true (by first|(with_reducible assumption) | assumption);obtain ⟨ad363,e363,hx363_0⟩:=Kd.at_string (Kd.R_reads' HO_4.out).2.2 3 p363 q363;obtain rfl : ad355 = ad363:=(by injection e363);(try simp only [show (3 : Int).toNat = 3 from rfl,Nat.reduceMul,Nat.reduceEqDiff,Go.Addr.add,↓reduceIte] at hx363_0);have qi363 : (3 < t350.length) = True:=eq_true (by omega);(try rw [show ((3 : Int)).toNat = 3 from rfl] at hx363_0);have hn363_0 : ad355.block ≠ gb362:=Kd.own_blk (Kd.R_ne HO_4.out BK362.out (by decide));have hn363_1 : ad355.block ≠ gb362:=Kd.own_blk (Kd.R_ne HO_4.out BK362.out (by decide));replace hx363_0:=(cell_far (p:=⟨gb362,0,none⟩) (by first|(rw [add_block];exact hn363_0)|(show (Addr.add _ _).block ≠ _;rw [add_block];exact hn363_0)|exact hn363_0) (.int .i64 t359)).trans hx363_0;replace hx363_0:=(cell_far (p:=⟨gb362,1,none⟩) (by first|(rw [add_block];exact hn363_1)|(show (Addr.add _ _).block ≠ _;rw [add_block];exact hn363_1)|exact hn363_1) (.int .i64 t360)).trans hx363_0;clear hn363_0;clear hn363_1;replace p363:=eq_true p363;replace q363:=eq_true q363)|((with_reducible refine gate_callee (f:=27) rfl ?_);refine goesL_ (some 54) rfl rfl Tryd.func27 (by kernel_rfl) rfl #[.string (rdOf ByteArray.empty t350 3)] rfl (by (try simp only [List.map_toArray,List.map_cons,List.map_nil]);first | done | rfl|(simp only [List.length_drop,List.length_take];rfl)) ?_;(with_reducible refine (impl_number.calls (rdOf ByteArray.empty t350 3) t364 true _ ?sideGe ?sideGp A22.out).mono ?_);(case sideGe => exact GLe_below HGe_.out (by repeat (first|(with_reducible first|exact HB.out|apply bwA|apply bwN|apply bw1|refine below_set ?_ (Aside0.out (by assumption)))|exact HB.out)));(case sideGp => exact GLp_below HGp_.out (by repeat (first|(with_reducible first|exact HB.out|apply bwA|apply bwN|apply bw1|refine below_set ?_ (Aside0.out (by assumption)))|exact HB.out)));rintro e w38 ⟨rfl,hb⟩;refine ⟨_,rfl,?_⟩;have n0_:=aMk (Kd.R_below (by (with_reducible repeat (first|apply Kd.R_alloc|apply Kd.R_drewN|apply Kd.R_drew));exact (Kd.R_mono (Kd.R_far (p:=⟨gb362,1,none⟩) (Kd.R_far (p:=⟨gb362,0,none⟩) (Kd.R_types HO_4.out BK362.out (by decide)) (fun _ hk => hk.2) (.int .i64 t359)) (fun _ hk => hk.2) (.int .i64 t360)) (fun _ h_ => h_.1))) hb);have n1_:=aMk (blk_below (g:=gb349) (o:=.cells #[.int .i64 0,.int .i64 0,.int .i64 0,.int .i64 0,.int .i64 0,.bool false] 33 (0,0)) (by (with_reducible repeat (first|refine bDn ?_ _|refine bDr ?_|refine bAl ?_ _));refine blk_far ?_ NB349_362.out _;(with_reducible repeat (first|refine bDn ?_ _|refine bDr ?_|refine bAl ?_ _));refine blk_far ?_ NB349_362.out _;(with_reducible repeat (first|refine bDn ?_ _|refine bDr ?_|refine bAl ?_ _));exact BK349.out) hb);have n2_:=aMk (blk_below (g:=gb362) (o:=.cells #[.int .i64 t359,.int .i64 t360] 30 (0,0)) (by (with_reducible repeat (first|refine bDn ?_ _|refine bDr ?_|refine bAl ?_ _));refine blk_put (cs:=#[.int .i64 t359,.int .i64 0]) ?_ 1 _ rfl;(with_reducible repeat (first|refine bDn ?_ _|refine bDr ?_|refine bAl ?_ _));refine blk_put (cs:=#[.int .i64 0,.int .i64 0]) ?_ 0 _ rfl;(with_reducible repeat (first|refine bDn ?_ _|refine bDr ?_|refine bAl ?_ _));exact BK362.out) hb);have n3_:=aMk (below_step (by repeat (first|(with_reducible first|exact HB.out|apply bwA|apply bwN|apply bw1|refine below_set ?_ GE349.out|refine below_set ?_ GE362.out)|exact HB.out)) hb);clear HO_4;clear BK349;clear BK362;clear HB;have HO_4:=n0_;have BK349:=n1_;have BK362:=n2_;have HB:=n3_;clear n0_ n1_ n2_ n3_;(try clear hb);(try clear hb2);(try clear hk);(try clear hi);have p366 : 0 ≤ (4 : Int):=(by omega);have q366 : 4 < (t350.length : Int):=of_decide_eq_true (by first|(with_reducible assumption) | assumption);obtain ⟨ad366,e366,hx366_0⟩:=Kd.at_string (Kd.R_reads' HO_4.out).2.2 4 p366 q366;obtain rfl : ad355 = ad366:=(by injection e366);(try simp only [show (4 : Int).toNat = 4 from rfl,Nat.reduceMul,Nat.reduceEqDiff,Go.Addr.add,↓reduceIte] at hx366_0);have qi366 : (4 < t350.length) = True:=eq_true (by omega);(try rw [show ((4 : Int)).toNat = 4 from rfl] at hx366_0);replace p366:=eq_true p366;replace q366:=eq_true q366)|((with_reducible refine gate_callee (f:=27) rfl ?_);refine goesL_ (some 61) rfl rfl Tryd.func27 (by kernel_rfl) rfl #[.string (rdOf ByteArray.empty t350 4)] rfl (by (try simp only [List.map_toArray,List.map_cons,List.map_nil]);first | done | rfl|(simp only [List.length_drop,List.length_take];rfl)) ?_;(with_reducible refine (impl_number.calls (rdOf ByteArray.empty t350 4) t367 true _ ?sideGe ?sideGp A24.out).mono ?_);(case sideGe => exact GLe_below HGe_.out (by repeat (first|(with_reducible first|exact HB.out|apply bwA|apply bwN|apply bw1|refine below_set ?_ (Aside0.out (by assumption)))|exact HB.out)));(case sideGp => exact GLp_below HGp_.out (by repeat (first|(with_reducible first|exact HB.out|apply bwA|apply bwN|apply bw1|refine below_set ?_ (Aside0.out (by assumption)))|exact HB.out)));rintro e w39 ⟨rfl,hb⟩;refine ⟨_,rfl,?_⟩;have n0_:=aMk (Kd.R_below (by (with_reducible repeat (first|apply Kd.R_alloc|apply Kd.R_drewN|apply Kd.R_drew));exact HO_4.out) hb);have n1_:=aMk (blk_below (g:=gb349) (o:=.cells #[.int .i64 0,.int .i64 0,.int .i64 0,.int .i64 0,.int .i64 0,.bool false] 33 (0,0)) (by (with_reducible repeat (first|refine bDn ?_ _|refine bDr ?_|refine bAl ?_ _));exact BK349.out) hb);have n2_:=aMk (blk_below (g:=gb362) (o:=.cells #[.int .i64 t359,.int .i64 t360] 30 (0,0)) (by (with_reducible repeat (first|refine bDn ?_ _|refine bDr ?_|refine bAl ?_ _));exact BK362.out) hb);have n3_:=aMk (below_step (by repeat (first|(with_reducible first|exact HB.out|apply bwA|apply bwN|apply bw1|refine below_set ?_ GE349.out|refine below_set ?_ GE362.out)|exact HB.out)) hb);clear HO_4;clear BK349;clear BK362;clear HB;have HO_4:=n0_;have BK349:=n1_;have BK362:=n2_;have HB:=n3_;clear n0_ n1_ n2_ n3_;(try clear hb);(try clear hb2);(try clear hk);(try clear hi)))
               have n0_:=aMk (Kd.R_drew HO_4.out)
               have n1_:=aMk (bDr BK349.out)
               have n2_:=aMk (bDr BK362.out)
               have n3_:=aMk (bw1 HB.out)
               clear HO_4
               clear BK349
               clear BK362
               clear HB
               have HO_4:=n0_
               have BK349:=n1_
               have BK362:=n2_
               have HB:=n3_
               clear n0_ n1_ n2_ n3_
               have p369 : 0 ≤ (0 : Int):=(by omega)
               have q369 : 0 < (t350.length : Int):=of_decide_eq_true (by first|(with_reducible assumption) | assumption)
               obtain ⟨ad369,e369,hx369_0⟩:=Kd.at_string (Kd.R_reads' HO_4.out).2.2 0 p369 q369
               obtain rfl : ad355 = ad369:=(by injection e369)
               have qi369 : (0 < t350.length) = True:=eq_true (by omega)
               (try rw [show ((0 : Int)).toNat = 0 from rfl] at hx369_0)
               (try rw [Addr.add_zero'] at hx369_0)
               replace p369:=eq_true p369
               replace q369:=eq_true q369
               refine start_ (n:=12) (S:=fun w' => w'.cell? ⟨gb362,0,none⟩ = some (.int .i64 t359) ∧ w'.cell? ⟨gb362,1,none⟩ = some (.int .i64 t360) ∧ w'.cell? ad355 = some (.string (rdOf ByteArray.empty t350 0))) (ds:=[]) #[false,false,false,false,false,false,false,false,false,false,false,false] (by kernel_rfl) rfl rfl ⟨(bCe BK362.out 0).trans rfl,(bCe BK362.out 1).trans rfl,hx369_0⟩ (fun hHeld => ?_);refine with_tabW impl_ReadRule.tab10 impl_ReadRule.bits10 (fun HT_ HW_ => ?_)
               generalize w39.drew = w40 at HO_4 BK349 BK362 HB hx369_0 hHeld ⊢
               refine pure_ (i:=0) (N:=some 64) (v:=?_) (a':=?_) #[true,false,false,false,false,false,false,false,false,false,false,false] rfl rfl (any_of HT_.out (by kernel_rfl)) (fun _ _ _ h => h) (Or.inl ⟨by rfl,?_⟩) ?_ ?_
               rotate_left
               ·intro w'
                go_simp
                with_reducible rfl
               rotate_left
               ·simp only [Act.put,List.setIfInBounds_toArray,List.set_cons_zero,List.set_cons_succ,i64_w,i32_w]
                rfl
               refine pure_ (i:=2) (N:=some 66) (v:=?_) (a':=?_) #[true,false,true,false,false,false,false,false,false,false,false,false] rfl rfl (any_of HT_.out (by kernel_rfl)) (fun _ _ _ h => h) (Or.inl ⟨by rfl,?_⟩) ?_ ?_
               rotate_left
               ·intro w'
                go_simp
                with_reducible rfl
               rotate_left
               ·simp only [Act.put,List.setIfInBounds_toArray,List.set_cons_zero,List.set_cons_succ,i64_w,i32_w]
                rfl
               refine pure_ (i:=3) (N:=some 67) (v:=?_) (a':=?_) #[true,false,true,true,false,false,false,false,false,false,false,false] rfl rfl (any_of HT_.out (by kernel_rfl)) (fun _ _ _ h => h) (Or.inl ⟨by rfl,?_⟩) ?_ ?_
               rotate_left
               ·intro w'
                go_simp
                with_reducible rfl
               rotate_left
               ·simp only [Act.put,List.setIfInBounds_toArray,List.set_cons_zero,List.set_cons_succ,i64_w,i32_w]
                rfl
               refine pure_ (i:=4) (N:=some 68) (v:=?_) (a':=?_) #[true,false,true,true,true,false,false,false,false,false,false,false] rfl rfl (any_of HT_.out (by kernel_rfl)) (fun _ _ _ h => h) (Or.inl ⟨by rfl,?_⟩) ?_ ?_
               rotate_left
               ·intro w'
                go_simp
                with_reducible rfl
               rotate_left
               ·simp only [Act.put,List.setIfInBounds_toArray,List.set_cons_zero,List.set_cons_succ,i64_w,i32_w]
                rfl
               refine pure_ (i:=5) (N:=some 69) (v:=?_) (a':=?_) #[true,false,true,true,true,true,false,false,false,false,false,false] rfl rfl (any_of HT_.out (by kernel_rfl)) (fun _ _ _ h => h) (Or.inl ⟨by rfl,?_⟩) ?_ ?_
               rotate_left
               ·intro w'
                go_simp
                with_reducible rfl
               rotate_left
               ·simp only [Act.put,List.setIfInBounds_toArray,List.set_cons_zero,List.set_cons_succ,i64_w,i32_w]
                rfl
               refine pure_ (i:=6) (N:=some 70) (v:=?_) (a':=?_) #[true,false,true,true,true,true,true,false,false,false,false,false] rfl rfl (any_of HT_.out (by kernel_rfl)) (fun _ _ _ h => h) (Or.inl ⟨by rfl,?_⟩) ?_ ?_
               rotate_left
               ·intro w'
                go_simp
                with_reducible rfl
               rotate_left
               ·simp only [Act.put,List.setIfInBounds_toArray,List.set_cons_zero,List.set_cons_succ,i64_w,i32_w]
                rfl
               refine take_ (i:=1) (N:=some 65) (v:=?_) (a':=?_) #[true,true,true,true,true,true,true,false,false,false,false,false] rfl rfl (take_ofW HT_.out HW_.out (by kernel_rfl)) (fun _ _ _ h => h) (Or.inl ⟨by rfl,?_⟩) hHeld ?_ ?_
               rotate_left
               ·rintro w' ⟨s0,s1,s2⟩
                go_simp
                with_reducible rfl
               rotate_left
               ·simp only [Act.put,List.setIfInBounds_toArray,List.set_cons_zero,List.set_cons_succ,i64_w,i32_w]
                rfl
               refine take_ (i:=7) (N:=some 71) (v:=?_) (a':=?_) #[true,true,true,true,true,true,true,true,false,false,false,false] rfl rfl (take_ofW HT_.out HW_.out (by kernel_rfl)) (fun _ _ _ h => h) (Or.inl ⟨by rfl,?_⟩) hHeld ?_ ?_
               rotate_left
               ·rintro w' ⟨s0,s1,s2⟩
                go_simp
                with_reducible rfl
               rotate_left
               ·simp only [Act.put,List.setIfInBounds_toArray,List.set_cons_zero,List.set_cons_succ,i64_w,i32_w]
                rfl
               refine pure_ (i:=8) (N:=some 72) (v:=?_) (a':=?_) #[true,true,true,true,true,true,true,true,true,false,false,false] rfl rfl (any_of HT_.out (by kernel_rfl)) (fun _ _ _ h => h) (Or.inl ⟨by rfl,?_⟩) ?_ ?_
               rotate_left
               ·intro w'
                go_simp
                with_reducible rfl
               rotate_left
               ·simp only [Act.put,List.setIfInBounds_toArray,List.set_cons_zero,List.set_cons_succ,i64_w,i32_w]
                rfl
               refine pure_ (i:=9) (N:=some 73) (v:=?_) (a':=?_) #[true,true,true,true,true,true,true,true,true,true,false,false] rfl rfl (any_of HT_.out (by kernel_rfl)) (fun _ _ _ h => h) (Or.inl ⟨by rfl,?_⟩) ?_ ?_
               rotate_left
               ·intro w'
                go_simp
                with_reducible rfl
               rotate_left
               ·simp only [Act.put,List.setIfInBounds_toArray,List.set_cons_zero,List.set_cons_succ,i64_w,i32_w]
                rfl
               refine one_ (i:=10) (N:=some 13) #[true,true,true,true,true,true,true,true,true,true,true,false] rfl rfl (one_of HT_.out (by kernel_rfl)) (by decide) (fun K hK => ?_)
               refine box_step ?hg (N:=13) ?hd (cs:=#[.int .i64 0,.int .i64 0,.int .i64 0,.int .i64 0,.int .i64 0,.bool false]) (t:=33) ?hr ?_;(case hd => rfl);(case hg => rfl);(case hr => first|(go_simp;done)|(go_simp;rfl))
               intro gb370 hg w41 hbox hb
               have HS2_:=(hb.cell (wLt _ _ (hHeld.2.2))).trans (hHeld.2.2)
               have n0_:=aMk (Kd.R_below (by (with_reducible repeat (first|apply Kd.R_alloc|apply Kd.R_drewN|apply Kd.R_drew));exact HO_4.out) hb)
               have n1_:=aMk (blk_below (g:=gb349) (o:=.cells #[.int .i64 0,.int .i64 0,.int .i64 0,.int .i64 0,.int .i64 0,.bool false] 33 (0,0)) (by (with_reducible repeat (first|refine bDn ?_ _|refine bDr ?_|refine bAl ?_ _));exact BK349.out) hb)
               have n2_:=aMk (blk_below (g:=gb362) (o:=.cells #[.int .i64 t359,.int .i64 t360] 30 (0,0)) (by (with_reducible repeat (first|refine bDn ?_ _|refine bDr ?_|refine bAl ?_ _));exact BK362.out) hb)
               have n3_:=aMk (below_step (by repeat (first|(with_reducible first|exact HB.out|apply bwA|apply bwN|apply bw1|refine below_set ?_ GE349.out|refine below_set ?_ GE362.out)|exact HB.out)) hb)
               have n4_:=aMk (hbox)
               have n5_:=aMk ((by rw [hg];exact (below_size (by repeat (first|(with_reducible first|exact HB.out|apply bwA|apply bwN|apply bw1|refine below_set ?_ GE349.out|refine below_set ?_ GE362.out)|exact HB.out))) : w.heap.size ≤ gb370))
               have n6_:=aMk ((by rw [hg];exact (below_size (by repeat (first|(with_reducible first|exact HB.out|apply bwA|apply bwN|apply bw1|refine below_set ?_ GE349.out|refine below_set ?_ GE362.out)|exact HB.out))) : w.heap.size ≤ gb370))
               have n7_:=aMk ((by rw [hg];exact Nat.ne_of_lt (blk_lt (g:=gb349) (o:=.cells #[.int .i64 0,.int .i64 0,.int .i64 0,.int .i64 0,.int .i64 0,.bool false] 33 (0,0)) (by (with_reducible repeat (first|refine bDn ?_ _|refine bDr ?_|refine bAl ?_ _));exact BK349.out)) : gb349 ≠ gb370))
               have n8_:=aMk ((by rw [hg];exact Nat.ne_of_gt (blk_lt (g:=gb349) (o:=.cells #[.int .i64 0,.int .i64 0,.int .i64 0,.int .i64 0,.int .i64 0,.bool false] 33 (0,0)) (by (with_reducible repeat (first|refine bDn ?_ _|refine bDr ?_|refine bAl ?_ _));exact BK349.out)) : gb370 ≠ gb349))
               have n9_:=aMk ((by rw [hg];exact Nat.ne_of_lt (blk_lt (g:=gb362) (o:=.cells #[.int .i64 t359,.int .i64 t360] 30 (0,0)) (by (with_reducible repeat (first|refine bDn ?_ _|refine bDr ?_|refine bAl ?_ _));exact BK362.out)) : gb362 ≠ gb370))
               have n10_:=aMk ((by rw [hg];exact Nat.ne_of_gt (blk_lt (g:=gb362) (o:=.cells #[.int .i64 t359,.int .i64 t360] 30 (0,0)) (by (with_reducible repeat (first|refine bDn ?_ _|refine bDr ?_|refine bAl ?_ _));exact BK362.out)) : gb370 ≠ gb362))
               clear HO_4
               clear BK349
               clear BK362
               clear HB
               have HO_4:=n0_
               have BK349:=n1_
               have BK362:=n2_
               have HB:=n3_
               have BK370:=n4_
               have GW370:=n5_
               have GE370:=n6_
               have NB349_370:=n7_
               have NB370_349:=n8_
               have NB362_370:=n9_
               have NB370_362:=n10_
               clear n0_ n1_ n2_ n3_ n4_ n5_ n6_ n7_ n8_ n9_ n10_
               clear hb hbox hg
               refine hK.out _ _ ⟨(bCe BK362.out 0).trans rfl,(bCe BK362.out 1).trans rfl,HS2_⟩ (fun hHeld => ?_)
               clear hK K
               refine norm_ (a':=?_) ?_ ?_
               rotate_left
               ·show Act.put _ (some 13) _ = _
                simp only [Act.put,List.setIfInBounds_toArray,List.set_cons_zero,List.set_cons_succ,i64_w,i32_w]
                rfl
               refine one_ (i:=11) (N:=none) #[true,true,true,true,true,true,true,true,true,true,true,true] rfl rfl (one_of HT_.out (by kernel_rfl)) (by decide) (fun K hK => ?_)
               have hs42 : w41.cell? ⟨gb370,0,none⟩ = some (.int .i64 0):=(bCe BK370.out 0).trans rfl
               have hfs42:=bFr BK370.out 0
               have hns42_0:=NB349_370.out
               have hns42_1:=NB362_370.out
               have hms42_0:=NB370_349.out
               have hms42_1:=NB370_362.out
               have hs43 : w41.cell? ⟨gb370,1,none⟩ = some (.int .i64 0):=(bCe BK370.out 1).trans rfl
               have hfs43:=bFr BK370.out 1
               have hns43_0:=NB349_370.out
               have hns43_1:=NB362_370.out
               have hms43_0:=NB370_349.out
               have hms43_1:=NB370_362.out
               have hs44 : w41.cell? ⟨gb370,2,none⟩ = some (.int .i64 0):=(bCe BK370.out 2).trans rfl
               have hfs44:=bFr BK370.out 2
               have hns44_0:=NB349_370.out
               have hns44_1:=NB362_370.out
               have hms44_0:=NB370_349.out
               have hms44_1:=NB370_362.out
               have hs45 : w41.cell? ⟨gb370,3,none⟩ = some (.int .i64 0):=(bCe BK370.out 3).trans rfl
               have hfs45:=bFr BK370.out 3
               have hns45_0:=NB349_370.out
               have hns45_1:=NB362_370.out
               have hms45_0:=NB370_349.out
               have hms45_1:=NB370_362.out
               have hs46 : w41.cell? ⟨gb370,4,none⟩ = some (.int .i64 0):=(bCe BK370.out 4).trans rfl
               have hfs46:=bFr BK370.out 4
               have hns46_0:=NB349_370.out
               have hns46_1:=NB362_370.out
               have hms46_0:=NB370_349.out
               have hms46_1:=NB370_362.out
               have hs47 : w41.cell? ⟨gb370,5,none⟩ = some (.bool false):=(bCe BK370.out 5).trans rfl
               have hfs47:=bFr BK370.out 5
               have hns47_0:=NB349_370.out
               have hns47_1:=NB362_370.out
               have hms47_0:=NB370_349.out
               have hms47_1:=NB370_362.out
               refine skip_ (w1:=?_) (by rfl) rfl ?_ ?_
               rotate_left
               ·go_simp
                rfl
               refine hK.out _ _ ⟨((cell_far (p:=⟨gb370,_,none⟩) NB362_370.out _).trans (((cell_far (p:=⟨gb370,_,none⟩) NB362_370.out _).trans (((cell_far (p:=⟨gb370,_,none⟩) NB362_370.out _).trans (((cell_far (p:=⟨gb370,_,none⟩) NB362_370.out _).trans (((cell_far (p:=⟨gb370,_,none⟩) NB362_370.out _).trans (((cell_far (p:=⟨gb370,_,none⟩) NB362_370.out _).trans (hHeld.1)))))))))))),((cell_far (p:=⟨gb370,_,none⟩) NB362_370.out _).trans (((cell_far (p:=⟨gb370,_,none⟩) NB362_370.out _).trans (((cell_far (p:=⟨gb370,_,none⟩) NB362_370.out _).trans (((cell_far (p:=⟨gb370,_,none⟩) NB362_370.out _).trans (((cell_far (p:=⟨gb370,_,none⟩) NB362_370.out _).trans (((cell_far (p:=⟨gb370,_,none⟩) NB362_370.out _).trans (hHeld.2.1)))))))))))),((cell_far (p:=⟨gb370,_,none⟩) (by first|exact Kd.own_blk (Kd.R_ne HO_4.out BK370.out (by decide))|(rw [add_block];exact Kd.own_blk (Kd.R_ne HO_4.out BK370.out (by decide)))|(show (Addr.add _ _).block ≠ _;rw [add_block];exact Kd.own_blk (Kd.R_ne HO_4.out BK370.out (by decide)))|(dsimp only;exact Kd.own_blk (Kd.R_ne HO_4.out BK370.out (by decide)))) _).trans (((cell_far (p:=⟨gb370,_,none⟩) (by first|exact Kd.own_blk (Kd.R_ne HO_4.out BK370.out (by decide))|(rw [add_block];exact Kd.own_blk (Kd.R_ne HO_4.out BK370.out (by decide)))|(show (Addr.add _ _).block ≠ _;rw [add_block];exact Kd.own_blk (Kd.R_ne HO_4.out BK370.out (by decide)))|(dsimp only;exact Kd.own_blk (Kd.R_ne HO_4.out BK370.out (by decide)))) _).trans (((cell_far (p:=⟨gb370,_,none⟩) (by first|exact Kd.own_blk (Kd.R_ne HO_4.out BK370.out (by decide))|(rw [add_block];exact Kd.own_blk (Kd.R_ne HO_4.out BK370.out (by decide)))|(show (Addr.add _ _).block ≠ _;rw [add_block];exact Kd.own_blk (Kd.R_ne HO_4.out BK370.out (by decide)))|(dsimp only;exact Kd.own_blk (Kd.R_ne HO_4.out BK370.out (by decide)))) _).trans (((cell_far (p:=⟨gb370,_,none⟩) (by first|exact Kd.own_blk (Kd.R_ne HO_4.out BK370.out (by decide))|(rw [add_block];exact Kd.own_blk (Kd.R_ne HO_4.out BK370.out (by decide)))|(show (Addr.add _ _).block ≠ _;rw [add_block];exact Kd.own_blk (Kd.R_ne HO_4.out BK370.out (by decide)))|(dsimp only;exact Kd.own_blk (Kd.R_ne HO_4.out BK370.out (by decide)))) _).trans (((cell_far (p:=⟨gb370,_,none⟩) (by first|exact Kd.own_blk (Kd.R_ne HO_4.out BK370.out (by decide))|(rw [add_block];exact Kd.own_blk (Kd.R_ne HO_4.out BK370.out (by decide)))|(show (Addr.add _ _).block ≠ _;rw [add_block];exact Kd.own_blk (Kd.R_ne HO_4.out BK370.out (by decide)))|(dsimp only;exact Kd.own_blk (Kd.R_ne HO_4.out BK370.out (by decide)))) _).trans (((cell_far (p:=⟨gb370,_,none⟩) (by first|exact Kd.own_blk (Kd.R_ne HO_4.out BK370.out (by decide))|(rw [add_block];exact Kd.own_blk (Kd.R_ne HO_4.out BK370.out (by decide)))|(show (Addr.add _ _).block ≠ _;rw [add_block];exact Kd.own_blk (Kd.R_ne HO_4.out BK370.out (by decide)))|(dsimp only;exact Kd.own_blk (Kd.R_ne HO_4.out BK370.out (by decide)))) _).trans (hHeld.2.2))))))))))))⟩ (fun hHeld => ?_)
               clear hK K
               refine done_ (done_of HT_.out (by kernel_rfl)) ?_
               have hnb48:=NB370_349.out
               have hnc48:=NB349_370.out
               have hnb49:=NB370_362.out
               have hnc49:=NB362_370.out
               have hcz50_0 : w41.cell? ⟨gb370,0,none⟩ = some (.int .i64 0):=(bCe BK370.out 0).trans rfl
               have hcz50_1 : w41.cell? ⟨gb370,1,none⟩ = some (.int .i64 0):=(bCe BK370.out 1).trans rfl
               have hcz50_2 : w41.cell? ⟨gb370,2,none⟩ = some (.int .i64 0):=(bCe BK370.out 2).trans rfl
               have hcz50_3 : w41.cell? ⟨gb370,3,none⟩ = some (.int .i64 0):=(bCe BK370.out 3).trans rfl
               have hcz50_4 : w41.cell? ⟨gb370,4,none⟩ = some (.int .i64 0):=(bCe BK370.out 4).trans rfl
               have hcz50_5 : w41.cell? ⟨gb370,5,none⟩ = some (.bool false):=(bCe BK370.out 5).trans rfl
               have hfz50_0:=bFr BK370.out 0
               have hfz50_1:=bFr BK370.out 1
               have hfz50_2:=bFr BK370.out 2
               have hfz50_3:=bFr BK370.out 3
               have hfz50_4:=bFr BK370.out 4
               have hfz50_5:=bFr BK370.out 5
               try go_wp2_with (first|(go_at_call 18;(with_reducible refine (impl_RuleOK.calls kj5 t356 t359 t360 t364 t367 ((rdOf ByteArray.empty t350 0).toList == ([97,108,108,111,119] : List UInt8)) true _ A30.out).mono ?_);rintro e w51 ⟨rfl,hb⟩;have n0_:=aMk (Kd.R_below (by (with_reducible repeat (first|apply Kd.R_alloc|apply Kd.R_drewN|apply Kd.R_drew));exact (Kd.R_mono (Kd.R_far (p:=⟨gb370,5,none⟩) (Kd.R_far (p:=⟨gb370,4,none⟩) (Kd.R_far (p:=⟨gb370,3,none⟩) (Kd.R_far (p:=⟨gb370,2,none⟩) (Kd.R_far (p:=⟨gb370,1,none⟩) (Kd.R_far (p:=⟨gb370,0,none⟩) (Kd.R_types HO_4.out BK370.out (by decide)) (fun _ hk => hk.2) (.int .i64 t356)) (fun _ hk => hk.2) (.int .i64 t359)) (fun _ hk => hk.2) (.int .i64 t360)) (fun _ hk => hk.2) (.int .i64 t364)) (fun _ hk => hk.2) (.int .i64 t367)) (fun _ hk => hk.2) (.bool ((rdOf ByteArray.empty t350 0).toList == ([97,108,108,111,119] : List UInt8)))) (fun _ h_ => h_.1))) hb);have n1_:=aMk (blk_below (g:=gb349) (o:=.cells #[.int .i64 0,.int .i64 0,.int .i64 0,.int .i64 0,.int .i64 0,.bool false] 33 (0,0)) (by (with_reducible repeat (first|refine bDn ?_ _|refine bDr ?_|refine bAl ?_ _));refine blk_far ?_ NB349_370.out _;(with_reducible repeat (first|refine bDn ?_ _|refine bDr ?_|refine bAl ?_ _));refine blk_far ?_ NB349_370.out _;(with_reducible repeat (first|refine bDn ?_ _|refine bDr ?_|refine bAl ?_ _));refine blk_far ?_ NB349_370.out _;(with_reducible repeat (first|refine bDn ?_ _|refine bDr ?_|refine bAl ?_ _));refine blk_far ?_ NB349_370.out _;(with_reducible repeat (first|refine bDn ?_ _|refine bDr ?_|refine bAl ?_ _));refine blk_far ?_ NB349_370.out _;(with_reducible repeat (first|refine bDn ?_ _|refine bDr ?_|refine bAl ?_ _));refine blk_far ?_ NB349_370.out _;(with_reducible repeat (first|refine bDn ?_ _|refine bDr ?_|refine bAl ?_ _));exact BK349.out) hb);have n2_:=aMk (blk_below (g:=gb362) (o:=.cells #[.int .i64 t359,.int .i64 t360] 30 (0,0)) (by (with_reducible repeat (first|refine bDn ?_ _|refine bDr ?_|refine bAl ?_ _));refine blk_far ?_ NB362_370.out _;(with_reducible repeat (first|refine bDn ?_ _|refine bDr ?_|refine bAl ?_ _));refine blk_far ?_ NB362_370.out _;(with_reducible repeat (first|refine bDn ?_ _|refine bDr ?_|refine bAl ?_ _));refine blk_far ?_ NB362_370.out _;(with_reducible repeat (first|refine bDn ?_ _|refine bDr ?_|refine bAl ?_ _));refine blk_far ?_ NB362_370.out _;(with_reducible repeat (first|refine bDn ?_ _|refine bDr ?_|refine bAl ?_ _));refine blk_far ?_ NB362_370.out _;(with_reducible repeat (first|refine bDn ?_ _|refine bDr ?_|refine bAl ?_ _));refine blk_far ?_ NB362_370.out _;(with_reducible repeat (first|refine bDn ?_ _|refine bDr ?_|refine bAl ?_ _));exact BK362.out) hb);have n3_:=aMk (blk_below (g:=gb370) (o:=.cells #[.int .i64 t356,.int .i64 t359,.int .i64 t360,.int .i64 t364,.int .i64 t367,.bool ((rdOf ByteArray.empty t350 0).toList == ([97,108,108,111,119] : List UInt8))] 33 (0,0)) (by (with_reducible repeat (first|refine bDn ?_ _|refine bDr ?_|refine bAl ?_ _));refine blk_put (cs:=#[.int .i64 t356,.int .i64 t359,.int .i64 t360,.int .i64 t364,.int .i64 t367,.bool false]) ?_ 5 _ rfl;(with_reducible repeat (first|refine bDn ?_ _|refine bDr ?_|refine bAl ?_ _));refine blk_put (cs:=#[.int .i64 t356,.int .i64 t359,.int .i64 t360,.int .i64 t364,.int .i64 0,.bool false]) ?_ 4 _ rfl;(with_reducible repeat (first|refine bDn ?_ _|refine bDr ?_|refine bAl ?_ _));refine blk_put (cs:=#[.int .i64 t356,.int .i64 t359,.int .i64 t360,.int .i64 0,.int .i64 0,.bool false]) ?_ 3 _ rfl;(with_reducible repeat (first|refine bDn ?_ _|refine bDr ?_|refine bAl ?_ _));refine blk_put (cs:=#[.int .i64 t356,.int .i64 t359,.int .i64 0,.int .i64 0,.int .i64 0,.bool false]) ?_ 2 _ rfl;(with_reducible repeat (first|refine bDn ?_ _|refine bDr ?_|refine bAl ?_ _));refine blk_put (cs:=#[.int .i64 t356,.int .i64 0,.int .i64 0,.int .i64 0,.int .i64 0,.bool false]) ?_ 1 _ rfl;(with_reducible repeat (first|refine bDn ?_ _|refine bDr ?_|refine bAl ?_ _));refine blk_put (cs:=#[.int .i64 0,.int .i64 0,.int .i64 0,.int .i64 0,.int .i64 0,.bool false]) ?_ 0 _ rfl;(with_reducible repeat (first|refine bDn ?_ _|refine bDr ?_|refine bAl ?_ _));exact BK370.out) hb);have n4_:=aMk (below_step (by repeat (first|(with_reducible first|exact HB.out|apply bwA|apply bwN|apply bw1|refine below_set ?_ GE349.out|refine below_set ?_ GE362.out|refine below_set ?_ GE370.out)|exact HB.out)) hb);clear HO_4;clear BK349;clear BK362;clear BK370;clear HB;have HO_4:=n0_;have BK349:=n1_;have BK362:=n2_;have BK370:=n3_;have HB:=n4_;clear n0_ n1_ n2_ n3_ n4_;(try clear hb);(try clear hb2);(try clear hk);(try clear hi);have hcz52_0 : w51.cell? ⟨gb370,0,none⟩ = some (.int .i64 t356):=(bCe BK370.out 0).trans rfl;have hcz52_1 : w51.cell? ⟨gb370,1,none⟩ = some (.int .i64 t359):=(bCe BK370.out 1).trans rfl;have hcz52_2 : w51.cell? ⟨gb370,2,none⟩ = some (.int .i64 t360):=(bCe BK370.out 2).trans rfl;have hcz52_3 : w51.cell? ⟨gb370,3,none⟩ = some (.int .i64 t364):=(bCe BK370.out 3).trans rfl;have hcz52_4 : w51.cell? ⟨gb370,4,none⟩ = some (.int .i64 t367):=(bCe BK370.out 4).trans rfl;have hcz52_5 : w51.cell? ⟨gb370,5,none⟩ = some (.bool ((rdOf ByteArray.empty t350 0).toList == ([97,108,108,111,119] : List UInt8))):=(bCe BK370.out 5).trans rfl;have hfz52_0:=bFr BK370.out 0;have hfz52_1:=bFr BK370.out 1;have hfz52_2:=bFr BK370.out 2;have hfz52_3:=bFr BK370.out 3;have hfz52_4:=bFr BK370.out 4;have hfz52_5:=bFr BK370.out 5;have hcz53_0 : w51.cell? ⟨gb349,0,none⟩ = some (.int .i64 0):=(bCe BK349.out 0).trans rfl;have hcz53_1 : w51.cell? ⟨gb349,1,none⟩ = some (.int .i64 0):=(bCe BK349.out 1).trans rfl;have hcz53_2 : w51.cell? ⟨gb349,2,none⟩ = some (.int .i64 0):=(bCe BK349.out 2).trans rfl;have hcz53_3 : w51.cell? ⟨gb349,3,none⟩ = some (.int .i64 0):=(bCe BK349.out 3).trans rfl;have hcz53_4 : w51.cell? ⟨gb349,4,none⟩ = some (.int .i64 0):=(bCe BK349.out 4).trans rfl;have hcz53_5 : w51.cell? ⟨gb349,5,none⟩ = some (.bool false):=(bCe BK349.out 5).trans rfl;have hfz53_0:=bFr BK349.out 0;have hfz53_1:=bFr BK349.out 1;have hfz53_2:=bFr BK349.out 2;have hfz53_3:=bFr BK349.out 3;have hfz53_4:=bFr BK349.out 4;have hfz53_5:=bFr BK349.out 5))
               refine bodyPost_ret (results_ct rfl _ _ gb349 33 #[.int .i64 t356,.int .i64 t359,.int .i64 t360,.int .i64 t364,.int .i64 t367,.bool ((rdOf ByteArray.empty t350 0).toList == ([97,108,108,111,119] : List UInt8))] (0,0) _ rfl (by (with_reducible repeat (first|refine bDn ?_ _|refine bDr ?_|refine bAl ?_ _));refine blk_put (cs:=#[.int .i64 t356,.int .i64 t359,.int .i64 t360,.int .i64 t364,.int .i64 t367,.bool false]) ?_ 5 _ rfl;(with_reducible repeat (first|refine bDn ?_ _|refine bDr ?_|refine bAl ?_ _));refine blk_put (cs:=#[.int .i64 t356,.int .i64 t359,.int .i64 t360,.int .i64 t364,.int .i64 0,.bool false]) ?_ 4 _ rfl;(with_reducible repeat (first|refine bDn ?_ _|refine bDr ?_|refine bAl ?_ _));refine blk_put (cs:=#[.int .i64 t356,.int .i64 t359,.int .i64 t360,.int .i64 0,.int .i64 0,.bool false]) ?_ 3 _ rfl;(with_reducible repeat (first|refine bDn ?_ _|refine bDr ?_|refine bAl ?_ _));refine blk_put (cs:=#[.int .i64 t356,.int .i64 t359,.int .i64 0,.int .i64 0,.int .i64 0,.bool false]) ?_ 2 _ rfl;(with_reducible repeat (first|refine bDn ?_ _|refine bDr ?_|refine bAl ?_ _));refine blk_put (cs:=#[.int .i64 t356,.int .i64 0,.int .i64 0,.int .i64 0,.int .i64 0,.bool false]) ?_ 1 _ rfl;(with_reducible repeat (first|refine bDn ?_ _|refine bDr ?_|refine bAl ?_ _));refine blk_put (cs:=#[.int .i64 0,.int .i64 0,.int .i64 0,.int .i64 0,.int .i64 0,.bool false]) ?_ 0 _ rfl;(with_reducible repeat (first|refine bDn ?_ _|refine bDr ?_|refine bAl ?_ _));exact BK349.out) Tryd.underlying33 rfl (by kernel_rfl)) rfl ?_
               exact ⟨by first | rfl|(simp [errW_none,errW_some] <;> rfl)|(simp [*,errW_none,errW_some] <;> rfl),by repeat (first|(with_reducible first|exact HB.out|apply bwA|apply bwN|apply bw1|refine below_set ?_ GE349.out|refine below_set ?_ GE362.out|refine below_set ?_ GE370.out)|exact HB.out)⟩
              ·replace c31:=Bool.eq_false_iff.mpr c31
               subst c31
               have H1 : (some (0,0,0,0,0,false,3)) = some (r1,r2,r3,r4,r5,r6,r7):=by rw [if_neg (show ¬ (false = true) by decide)] at H;exact H
               clear H
               have H:=H1
               clear H1
               simp only [Option.some.injEq,Prod.mk.injEq] at H
               obtain ⟨rfl,rfl,rfl,rfl,rfl,rfl,rfl⟩:=H
               obtain ⟨Ao54,co54,eo54⟩:=Kd.R_slice HO_4.out
               subst eo54
               have p355 : 0 ≤ (1 : Int):=(by omega)
               have q355 : 1 < (t350.length : Int):=of_decide_eq_true (by first|(with_reducible assumption) | assumption)
               obtain ⟨ad355,e355,hx355_0⟩:=Kd.at_string (Kd.R_reads' HO_4.out).2.2 1 p355 q355
               cases e355
               (try simp only [show (1 : Int).toNat = 1 from rfl,Nat.reduceMul,Nat.reduceEqDiff,Go.Addr.add,↓reduceIte] at hx355_0)
               have qi355 : (1 < t350.length) = True:=eq_true (by omega)
               (try rw [show ((1 : Int)).toNat = 1 from rfl] at hx355_0)
               replace p355:=eq_true p355
               replace q355:=eq_true q355
               try go_wp2_with (first|((with_reducible refine gate_callee (f:=25) rfl ?_);refine goesL_ (some 40) rfl rfl Tryd.func25 (by kernel_rfl) rfl #[.string (rdOf ByteArray.empty t350 1)] rfl (by (try simp only [List.map_toArray,List.map_cons,List.map_nil]);first | done | rfl|(simp only [List.length_drop,List.length_take];rfl)) ?_;(with_reducible refine (impl_readProto.calls kj5 (rdOf ByteArray.empty t350 1) t356 true _ A18.out).mono ?_);rintro e w55 ⟨rfl,hb⟩;refine ⟨_,rfl,?_⟩;have n0_:=aMk (Kd.R_below (by (with_reducible repeat (first|apply Kd.R_alloc|apply Kd.R_drewN|apply Kd.R_drew));exact HO_4.out) hb);have n1_:=aMk (blk_below (g:=gb349) (o:=.cells #[.int .i64 0,.int .i64 0,.int .i64 0,.int .i64 0,.int .i64 0,.bool false] 33 (0,0)) (by (with_reducible repeat (first|refine bDn ?_ _|refine bDr ?_|refine bAl ?_ _));exact BK349.out) hb);have n2_:=aMk (below_step (by repeat (first|(with_reducible first|exact HB.out|apply bwA|apply bwN|apply bw1|refine below_set ?_ GE349.out)|exact HB.out)) hb);clear HO_4;clear BK349;clear HB;have HO_4:=n0_;have BK349:=n1_;have HB:=n2_;clear n0_ n1_ n2_;(try clear hb);(try clear hb2);(try clear hk);(try clear hi);have p358 : 0 ≤ (2 : Int):=(by omega);have q358 : 2 < (t350.length : Int):=of_decide_eq_true (by first|(with_reducible assumption) | assumption);obtain ⟨ad358,e358,hx358_0⟩:=Kd.at_string (Kd.R_reads' HO_4.out).2.2 2 p358 q358;obtain rfl : ad355 = ad358:=(by injection e358);(try simp only [show (2 : Int).toNat = 2 from rfl,Nat.reduceMul,Nat.reduceEqDiff,Go.Addr.add,↓reduceIte] at hx358_0);have qi358 : (2 < t350.length) = True:=eq_true (by omega);(try rw [show ((2 : Int)).toNat = 2 from rfl] at hx358_0);replace p358:=eq_true p358;replace q358:=eq_true q358)|((with_reducible refine gate_callee (f:=26) rfl ?_);refine goesL_ (some 47) rfl rfl Tryd.func26 (by kernel_rfl) rfl #[.string (rdOf ByteArray.empty t350 2)] rfl (by (try simp only [List.map_toArray,List.map_cons,List.map_nil]);first | done | rfl|(simp only [List.length_drop,List.length_take];rfl)) ?_;(with_reducible refine (impl_readNet.calls kj5 (rdOf ByteArray.empty t350 2) t359 t360 true _ ?sideGe ?sideGp A20.out).mono ?_);(case sideGe => exact GLe_below HGe_.out (by repeat (first|(with_reducible first|exact HB.out|apply bwA|apply bwN|apply bw1|refine below_set ?_ (Aside0.out (by assumption)))|exact HB.out)));(case sideGp => exact GLp_below HGp_.out (by repeat (first|(with_reducible first|exact HB.out|apply bwA|apply bwN|apply bw1|refine below_set ?_ (Aside0.out (by assumption)))|exact HB.out)));rintro e w56 ⟨rfl,hb⟩;refine ⟨_,rfl,?_⟩;have n0_:=aMk (Kd.R_below (by (with_reducible repeat (first|apply Kd.R_alloc|apply Kd.R_drewN|apply Kd.R_drew));exact HO_4.out) hb);have n1_:=aMk (blk_below (g:=gb349) (o:=.cells #[.int .i64 0,.int .i64 0,.int .i64 0,.int .i64 0,.int .i64 0,.bool false] 33 (0,0)) (by (with_reducible repeat (first|refine bDn ?_ _|refine bDr ?_|refine bAl ?_ _));exact BK349.out) hb);have n2_:=aMk (below_step (by repeat (first|(with_reducible first|exact HB.out|apply bwA|apply bwN|apply bw1|refine below_set ?_ GE349.out)|exact HB.out)) hb);clear HO_4;clear BK349;clear HB;have HO_4:=n0_;have BK349:=n1_;have HB:=n2_;clear n0_ n1_ n2_;(try clear hb);(try clear hb2);(try clear hk);(try clear hi))|((with_reducible refine gate_dst (N:=7) rfl ?_);refine box_event ?hg (N:=7) ?hd (cs:=#[.int .i64 0,.int .i64 0]) (t:=30) ?hr ?_;(case hd => rfl);(case hg => rfl);(case hr => first|(go_simp;done)|(go_simp;rfl));intro gb362 hg w57 hbox hb;have n0_:=aMk (Kd.R_below (by (with_reducible repeat (first|apply Kd.R_alloc|apply Kd.R_drewN|apply Kd.R_drew));exact HO_4.out) hb);have n1_:=aMk (blk_below (g:=gb349) (o:=.cells #[.int .i64 0,.int .i64 0,.int .i64 0,.int .i64 0,.int .i64 0,.bool false] 33 (0,0)) (by (with_reducible repeat (first|refine bDn ?_ _|refine bDr ?_|refine bAl ?_ _));exact BK349.out) hb);have n2_:=aMk (below_step (by repeat (first|(with_reducible first|exact HB.out|apply bwA|apply bwN|apply bw1|refine below_set ?_ GE349.out)|exact HB.out)) hb);have n3_:=aMk (hbox);have n4_:=aMk ((by rw [hg];exact (below_size (by repeat (first|(with_reducible first|exact HB.out|apply bwA|apply bwN|apply bw1|refine below_set ?_ GE349.out)|exact HB.out))) : w.heap.size ≤ gb362));have n5_:=aMk ((by rw [hg];exact (below_size (by repeat (first|(with_reducible first|exact HB.out|apply bwA|apply bwN|apply bw1|refine below_set ?_ GE349.out)|exact HB.out))) : w.heap.size ≤ gb362));have n6_:=aMk ((by rw [hg];exact Nat.ne_of_lt (blk_lt (g:=gb349) (o:=.cells #[.int .i64 0,.int .i64 0,.int .i64 0,.int .i64 0,.int .i64 0,.bool false] 33 (0,0)) (by (with_reducible repeat (first|refine bDn ?_ _|refine bDr ?_|refine bAl ?_ _));exact BK349.out)) : gb349 ≠ gb362));have n7_:=aMk ((by rw [hg];exact Nat.ne_of_gt (blk_lt (g:=gb349) (o:=.cells #[.int .i64 0,.int .i64 0,.int .i64 0,.int .i64 0,.int .i64 0,.bool false] 33 (0,0)) (by (with_reducible repeat (first|refine bDn ?_ _|refine bDr ?_|refine bAl ?_ _));exact BK349.out)) : gb362 ≠ gb349));clear HO_4;clear BK349;clear HB;have HO_4:=n0_;have BK349:=n1_;have HB:=n2_;have BK362:=n3_;have GW362:=n4_;have GE362:=n5_;have NB349_362:=n6_;have NB362_349:=n7_;clear n0_ n1_ n2_ n3_ n4_ n5_ n6_ n7_;clear hb hbox hg;have hnb58:=NB362_349.out;have hnc58:=NB349_362.out;have hcz59_0 : w57.cell? ⟨gb362,0,none⟩ = some (.int .i64 0):=(bCe BK362.out 0).trans rfl;have hcz59_1 : w57.cell? ⟨gb362,1,none⟩ = some (.int .i64 0):=(bCe BK362.out 1).trans rfl;have hfz59_0:=bFr BK362.out 0;have hfz59_1:=bFr BK362.out 1;have p363 : 0 ≤ (3 : Int):=(by omega);have q363 : 3 < (t350.length : Int):=of_decide_eq_true (by first|(with_reducible assumption) | assumption);obtain ⟨ad363,e363,hx363_0⟩:=Kd.at_string (Kd.R_reads' HO_4.out).2.2 3 p363 q363;obtain rfl : ad355 = ad363:=(by injection e363);(try simp only [show (3 : Int).toNat = 3 from rfl,Nat.reduceMul,Nat.reduceEqDiff,Go.Addr.add,↓reduceIte] at hx363_0);have qi363 : (3 < t350.length) = True:=eq_true (by omega);(try rw [show ((3 : Int)).toNat = 3 from rfl] at hx363_0);have hn363_0 : ad355.block ≠ gb362:=Kd.own_blk (Kd.R_ne HO_4.out BK362.out (by decide));have hn363_1 : ad355.block ≠ gb362:=Kd.own_blk (Kd.R_ne HO_4.out BK362.out (by decide));replace hx363_0:=(cell_far (p:=⟨gb362,0,none⟩) (by first|(rw [add_block];exact hn363_0)|(show (Addr.add _ _).block ≠ _;rw [add_block];exact hn363_0)|exact hn363_0) (.int .i64 t359)).trans hx363_0;replace hx363_0:=(cell_far (p:=⟨gb362,1,none⟩) (by first|(rw [add_block];exact hn363_1)|(show (Addr.add _ _).block ≠ _;rw [add_block];exact hn363_1)|exact hn363_1) (.int .i64 t360)).trans hx363_0;clear hn363_0;clear hn363_1;replace p363:=eq_true p363;replace q363:=eq_true q363)|((with_reducible refine gate_callee (f:=27) rfl ?_);refine goesL_ (some 54) rfl rfl Tryd.func27 (by kernel_rfl) rfl #[.string (rdOf ByteArray.empty t350 3)] rfl (by (try simp only [List.map_toArray,List.map_cons,List.map_nil]);first | done | rfl|(simp only [List.length_drop,List.length_take];rfl)) ?_;(with_reducible refine (impl_number.calls (rdOf ByteArray.empty t350 3) t364 true _ ?sideGe ?sideGp A22.out).mono ?_);(case sideGe => exact GLe_below HGe_.out (by repeat (first|(with_reducible first|exact HB.out|apply bwA|apply bwN|apply bw1|refine below_set ?_ (Aside0.out (by assumption)))|exact HB.out)));(case sideGp => exact GLp_below HGp_.out (by repeat (first|(with_reducible first|exact HB.out|apply bwA|apply bwN|apply bw1|refine below_set ?_ (Aside0.out (by assumption)))|exact HB.out)));rintro e w60 ⟨rfl,hb⟩;refine ⟨_,rfl,?_⟩;have n0_:=aMk (Kd.R_below (by (with_reducible repeat (first|apply Kd.R_alloc|apply Kd.R_drewN|apply Kd.R_drew));exact (Kd.R_mono (Kd.R_far (p:=⟨gb362,1,none⟩) (Kd.R_far (p:=⟨gb362,0,none⟩) (Kd.R_types HO_4.out BK362.out (by decide)) (fun _ hk => hk.2) (.int .i64 t359)) (fun _ hk => hk.2) (.int .i64 t360)) (fun _ h_ => h_.1))) hb);have n1_:=aMk (blk_below (g:=gb349) (o:=.cells #[.int .i64 0,.int .i64 0,.int .i64 0,.int .i64 0,.int .i64 0,.bool false] 33 (0,0)) (by (with_reducible repeat (first|refine bDn ?_ _|refine bDr ?_|refine bAl ?_ _));refine blk_far ?_ NB349_362.out _;(with_reducible repeat (first|refine bDn ?_ _|refine bDr ?_|refine bAl ?_ _));refine blk_far ?_ NB349_362.out _;(with_reducible repeat (first|refine bDn ?_ _|refine bDr ?_|refine bAl ?_ _));exact BK349.out) hb);have n2_:=aMk (blk_below (g:=gb362) (o:=.cells #[.int .i64 t359,.int .i64 t360] 30 (0,0)) (by (with_reducible repeat (first|refine bDn ?_ _|refine bDr ?_|refine bAl ?_ _));refine blk_put (cs:=#[.int .i64 t359,.int .i64 0]) ?_ 1 _ rfl;(with_reducible repeat (first|refine bDn ?_ _|refine bDr ?_|refine bAl ?_ _));refine blk_put (cs:=#[.int .i64 0,.int .i64 0]) ?_ 0 _ rfl;(with_reducible repeat (first|refine bDn ?_ _|refine bDr ?_|refine bAl ?_ _));exact BK362.out) hb);have n3_:=aMk (below_step (by repeat (first|(with_reducible first|exact HB.out|apply bwA|apply bwN|apply bw1|refine below_set ?_ GE349.out|refine below_set ?_ GE362.out)|exact HB.out)) hb);clear HO_4;clear BK349;clear BK362;clear HB;have HO_4:=n0_;have BK349:=n1_;have BK362:=n2_;have HB:=n3_;clear n0_ n1_ n2_ n3_;(try clear hb);(try clear hb2);(try clear hk);(try clear hi);have p366 : 0 ≤ (4 : Int):=(by omega);have q366 : 4 < (t350.length : Int):=of_decide_eq_true (by first|(with_reducible assumption) | assumption);obtain ⟨ad366,e366,hx366_0⟩:=Kd.at_string (Kd.R_reads' HO_4.out).2.2 4 p366 q366;obtain rfl : ad355 = ad366:=(by injection e366);(try simp only [show (4 : Int).toNat = 4 from rfl,Nat.reduceMul,Nat.reduceEqDiff,Go.Addr.add,↓reduceIte] at hx366_0);have qi366 : (4 < t350.length) = True:=eq_true (by omega);(try rw [show ((4 : Int)).toNat = 4 from rfl] at hx366_0);replace p366:=eq_true p366;replace q366:=eq_true q366)|((with_reducible refine gate_callee (f:=27) rfl ?_);refine goesL_ (some 61) rfl rfl Tryd.func27 (by kernel_rfl) rfl #[.string (rdOf ByteArray.empty t350 4)] rfl (by (try simp only [List.map_toArray,List.map_cons,List.map_nil]);first | done | rfl|(simp only [List.length_drop,List.length_take];rfl)) ?_;(with_reducible refine (impl_number.calls (rdOf ByteArray.empty t350 4) t367 true _ ?sideGe ?sideGp A24.out).mono ?_);(case sideGe => exact GLe_below HGe_.out (by repeat (first|(with_reducible first|exact HB.out|apply bwA|apply bwN|apply bw1|refine below_set ?_ (Aside0.out (by assumption)))|exact HB.out)));(case sideGp => exact GLp_below HGp_.out (by repeat (first|(with_reducible first|exact HB.out|apply bwA|apply bwN|apply bw1|refine below_set ?_ (Aside0.out (by assumption)))|exact HB.out)));rintro e w61 ⟨rfl,hb⟩;refine ⟨_,rfl,?_⟩;have n0_:=aMk (Kd.R_below (by (with_reducible repeat (first|apply Kd.R_alloc|apply Kd.R_drewN|apply Kd.R_drew));exact HO_4.out) hb);have n1_:=aMk (blk_below (g:=gb349) (o:=.cells #[.int .i64 0,.int .i64 0,.int .i64 0,.int .i64 0,.int .i64 0,.bool false] 33 (0,0)) (by (with_reducible repeat (first|refine bDn ?_ _|refine bDr ?_|refine bAl ?_ _));exact BK349.out) hb);have n2_:=aMk (blk_below (g:=gb362) (o:=.cells #[.int .i64 t359,.int .i64 t360] 30 (0,0)) (by (with_reducible repeat (first|refine bDn ?_ _|refine bDr ?_|refine bAl ?_ _));exact BK362.out) hb);have n3_:=aMk (below_step (by repeat (first|(with_reducible first|exact HB.out|apply bwA|apply bwN|apply bw1|refine below_set ?_ GE349.out|refine below_set ?_ GE362.out)|exact HB.out)) hb);clear HO_4;clear BK349;clear BK362;clear HB;have HO_4:=n0_;have BK349:=n1_;have BK362:=n2_;have HB:=n3_;clear n0_ n1_ n2_ n3_;(try clear hb);(try clear hb2);(try clear hk);(try clear hi)))
               have n0_:=aMk (Kd.R_drew HO_4.out)
               have n1_:=aMk (bDr BK349.out)
               have n2_:=aMk (bDr BK362.out)
               have n3_:=aMk (bw1 HB.out)
               clear HO_4
               clear BK349
               clear BK362
               clear HB
               have HO_4:=n0_
               have BK349:=n1_
               have BK362:=n2_
               have HB:=n3_
               clear n0_ n1_ n2_ n3_
               have p369 : 0 ≤ (0 : Int):=(by omega)
               have q369 : 0 < (t350.length : Int):=of_decide_eq_true (by first|(with_reducible assumption) | assumption)
               obtain ⟨ad369,e369,hx369_0⟩:=Kd.at_string (Kd.R_reads' HO_4.out).2.2 0 p369 q369
               obtain rfl : ad355 = ad369:=(by injection e369)
               have qi369 : (0 < t350.length) = True:=eq_true (by omega)
               (try rw [show ((0 : Int)).toNat = 0 from rfl] at hx369_0)
               (try rw [Addr.add_zero'] at hx369_0)
               replace p369:=eq_true p369
               replace q369:=eq_true q369
               refine start_ (n:=12) (S:=fun w' => w'.cell? ⟨gb362,0,none⟩ = some (.int .i64 t359) ∧ w'.cell? ⟨gb362,1,none⟩ = some (.int .i64 t360) ∧ w'.cell? ad355 = some (.string (rdOf ByteArray.empty t350 0))) (ds:=[]) #[false,false,false,false,false,false,false,false,false,false,false,false] (by kernel_rfl) rfl rfl ⟨(bCe BK362.out 0).trans rfl,(bCe BK362.out 1).trans rfl,hx369_0⟩ (fun hHeld => ?_);refine with_tabW impl_ReadRule.tab10 impl_ReadRule.bits10 (fun HT_ HW_ => ?_)
               generalize w61.drew = w62 at HO_4 BK349 BK362 HB hx369_0 hHeld ⊢
               refine pure_ (i:=0) (N:=some 64) (v:=?_) (a':=?_) #[true,false,false,false,false,false,false,false,false,false,false,false] rfl rfl (any_of HT_.out (by kernel_rfl)) (fun _ _ _ h => h) (Or.inl ⟨by rfl,?_⟩) ?_ ?_
               rotate_left
               ·intro w'
                go_simp
                with_reducible rfl
               rotate_left
               ·simp only [Act.put,List.setIfInBounds_toArray,List.set_cons_zero,List.set_cons_succ,i64_w,i32_w]
                rfl
               refine pure_ (i:=2) (N:=some 66) (v:=?_) (a':=?_) #[true,false,true,false,false,false,false,false,false,false,false,false] rfl rfl (any_of HT_.out (by kernel_rfl)) (fun _ _ _ h => h) (Or.inl ⟨by rfl,?_⟩) ?_ ?_
               rotate_left
               ·intro w'
                go_simp
                with_reducible rfl
               rotate_left
               ·simp only [Act.put,List.setIfInBounds_toArray,List.set_cons_zero,List.set_cons_succ,i64_w,i32_w]
                rfl
               refine pure_ (i:=3) (N:=some 67) (v:=?_) (a':=?_) #[true,false,true,true,false,false,false,false,false,false,false,false] rfl rfl (any_of HT_.out (by kernel_rfl)) (fun _ _ _ h => h) (Or.inl ⟨by rfl,?_⟩) ?_ ?_
               rotate_left
               ·intro w'
                go_simp
                with_reducible rfl
               rotate_left
               ·simp only [Act.put,List.setIfInBounds_toArray,List.set_cons_zero,List.set_cons_succ,i64_w,i32_w]
                rfl
               refine pure_ (i:=4) (N:=some 68) (v:=?_) (a':=?_) #[true,false,true,true,true,false,false,false,false,false,false,false] rfl rfl (any_of HT_.out (by kernel_rfl)) (fun _ _ _ h => h) (Or.inl ⟨by rfl,?_⟩) ?_ ?_
               rotate_left
               ·intro w'
                go_simp
                with_reducible rfl
               rotate_left
               ·simp only [Act.put,List.setIfInBounds_toArray,List.set_cons_zero,List.set_cons_succ,i64_w,i32_w]
                rfl
               refine pure_ (i:=5) (N:=some 69) (v:=?_) (a':=?_) #[true,false,true,true,true,true,false,false,false,false,false,false] rfl rfl (any_of HT_.out (by kernel_rfl)) (fun _ _ _ h => h) (Or.inl ⟨by rfl,?_⟩) ?_ ?_
               rotate_left
               ·intro w'
                go_simp
                with_reducible rfl
               rotate_left
               ·simp only [Act.put,List.setIfInBounds_toArray,List.set_cons_zero,List.set_cons_succ,i64_w,i32_w]
                rfl
               refine pure_ (i:=6) (N:=some 70) (v:=?_) (a':=?_) #[true,false,true,true,true,true,true,false,false,false,false,false] rfl rfl (any_of HT_.out (by kernel_rfl)) (fun _ _ _ h => h) (Or.inl ⟨by rfl,?_⟩) ?_ ?_
               rotate_left
               ·intro w'
                go_simp
                with_reducible rfl
               rotate_left
               ·simp only [Act.put,List.setIfInBounds_toArray,List.set_cons_zero,List.set_cons_succ,i64_w,i32_w]
                rfl
               refine take_ (i:=1) (N:=some 65) (v:=?_) (a':=?_) #[true,true,true,true,true,true,true,false,false,false,false,false] rfl rfl (take_ofW HT_.out HW_.out (by kernel_rfl)) (fun _ _ _ h => h) (Or.inl ⟨by rfl,?_⟩) hHeld ?_ ?_
               rotate_left
               ·rintro w' ⟨s0,s1,s2⟩
                go_simp
                with_reducible rfl
               rotate_left
               ·simp only [Act.put,List.setIfInBounds_toArray,List.set_cons_zero,List.set_cons_succ,i64_w,i32_w]
                rfl
               refine take_ (i:=7) (N:=some 71) (v:=?_) (a':=?_) #[true,true,true,true,true,true,true,true,false,false,false,false] rfl rfl (take_ofW HT_.out HW_.out (by kernel_rfl)) (fun _ _ _ h => h) (Or.inl ⟨by rfl,?_⟩) hHeld ?_ ?_
               rotate_left
               ·rintro w' ⟨s0,s1,s2⟩
                go_simp
                with_reducible rfl
               rotate_left
               ·simp only [Act.put,List.setIfInBounds_toArray,List.set_cons_zero,List.set_cons_succ,i64_w,i32_w]
                rfl
               refine pure_ (i:=8) (N:=some 72) (v:=?_) (a':=?_) #[true,true,true,true,true,true,true,true,true,false,false,false] rfl rfl (any_of HT_.out (by kernel_rfl)) (fun _ _ _ h => h) (Or.inl ⟨by rfl,?_⟩) ?_ ?_
               rotate_left
               ·intro w'
                go_simp
                with_reducible rfl
               rotate_left
               ·simp only [Act.put,List.setIfInBounds_toArray,List.set_cons_zero,List.set_cons_succ,i64_w,i32_w]
                rfl
               refine pure_ (i:=9) (N:=some 73) (v:=?_) (a':=?_) #[true,true,true,true,true,true,true,true,true,true,false,false] rfl rfl (any_of HT_.out (by kernel_rfl)) (fun _ _ _ h => h) (Or.inl ⟨by rfl,?_⟩) ?_ ?_
               rotate_left
               ·intro w'
                go_simp
                with_reducible rfl
               rotate_left
               ·simp only [Act.put,List.setIfInBounds_toArray,List.set_cons_zero,List.set_cons_succ,i64_w,i32_w]
                rfl
               refine one_ (i:=10) (N:=some 13) #[true,true,true,true,true,true,true,true,true,true,true,false] rfl rfl (one_of HT_.out (by kernel_rfl)) (by decide) (fun K hK => ?_)
               refine box_step ?hg (N:=13) ?hd (cs:=#[.int .i64 0,.int .i64 0,.int .i64 0,.int .i64 0,.int .i64 0,.bool false]) (t:=33) ?hr ?_;(case hd => rfl);(case hg => rfl);(case hr => first|(go_simp;done)|(go_simp;rfl))
               intro gb370 hg w63 hbox hb
               have HS2_:=(hb.cell (wLt _ _ (hHeld.2.2))).trans (hHeld.2.2)
               have n0_:=aMk (Kd.R_below (by (with_reducible repeat (first|apply Kd.R_alloc|apply Kd.R_drewN|apply Kd.R_drew));exact HO_4.out) hb)
               have n1_:=aMk (blk_below (g:=gb349) (o:=.cells #[.int .i64 0,.int .i64 0,.int .i64 0,.int .i64 0,.int .i64 0,.bool false] 33 (0,0)) (by (with_reducible repeat (first|refine bDn ?_ _|refine bDr ?_|refine bAl ?_ _));exact BK349.out) hb)
               have n2_:=aMk (blk_below (g:=gb362) (o:=.cells #[.int .i64 t359,.int .i64 t360] 30 (0,0)) (by (with_reducible repeat (first|refine bDn ?_ _|refine bDr ?_|refine bAl ?_ _));exact BK362.out) hb)
               have n3_:=aMk (below_step (by repeat (first|(with_reducible first|exact HB.out|apply bwA|apply bwN|apply bw1|refine below_set ?_ GE349.out|refine below_set ?_ GE362.out)|exact HB.out)) hb)
               have n4_:=aMk (hbox)
               have n5_:=aMk ((by rw [hg];exact (below_size (by repeat (first|(with_reducible first|exact HB.out|apply bwA|apply bwN|apply bw1|refine below_set ?_ GE349.out|refine below_set ?_ GE362.out)|exact HB.out))) : w.heap.size ≤ gb370))
               have n6_:=aMk ((by rw [hg];exact (below_size (by repeat (first|(with_reducible first|exact HB.out|apply bwA|apply bwN|apply bw1|refine below_set ?_ GE349.out|refine below_set ?_ GE362.out)|exact HB.out))) : w.heap.size ≤ gb370))
               have n7_:=aMk ((by rw [hg];exact Nat.ne_of_lt (blk_lt (g:=gb349) (o:=.cells #[.int .i64 0,.int .i64 0,.int .i64 0,.int .i64 0,.int .i64 0,.bool false] 33 (0,0)) (by (with_reducible repeat (first|refine bDn ?_ _|refine bDr ?_|refine bAl ?_ _));exact BK349.out)) : gb349 ≠ gb370))
               have n8_:=aMk ((by rw [hg];exact Nat.ne_of_gt (blk_lt (g:=gb349) (o:=.cells #[.int .i64 0,.int .i64 0,.int .i64 0,.int .i64 0,.int .i64 0,.bool false] 33 (0,0)) (by (with_reducible repeat (first|refine bDn ?_ _|refine bDr ?_|refine bAl ?_ _));exact BK349.out)) : gb370 ≠ gb349))
               have n9_:=aMk ((by rw [hg];exact Nat.ne_of_lt (blk_lt (g:=gb362) (o:=.cells #[.int .i64 t359,.int .i64 t360] 30 (0,0)) (by (with_reducible repeat (first|refine bDn ?_ _|refine bDr ?_|refine bAl ?_ _));exact BK362.out)) : gb362 ≠ gb370))
               have n10_:=aMk ((by rw [hg];exact Nat.ne_of_gt (blk_lt (g:=gb362) (o:=.cells #[.int .i64 t359,.int .i64 t360] 30 (0,0)) (by (with_reducible repeat (first|refine bDn ?_ _|refine bDr ?_|refine bAl ?_ _));exact BK362.out)) : gb370 ≠ gb362))
               clear HO_4
               clear BK349
               clear BK362
               clear HB
               have HO_4:=n0_
               have BK349:=n1_
               have BK362:=n2_
               have HB:=n3_
               have BK370:=n4_
               have GW370:=n5_
               have GE370:=n6_
               have NB349_370:=n7_
               have NB370_349:=n8_
               have NB362_370:=n9_
               have NB370_362:=n10_
               clear n0_ n1_ n2_ n3_ n4_ n5_ n6_ n7_ n8_ n9_ n10_
               clear hb hbox hg
               refine hK.out _ _ ⟨(bCe BK362.out 0).trans rfl,(bCe BK362.out 1).trans rfl,HS2_⟩ (fun hHeld => ?_)
               clear hK K
               refine norm_ (a':=?_) ?_ ?_
               rotate_left
               ·show Act.put _ (some 13) _ = _
                simp only [Act.put,List.setIfInBounds_toArray,List.set_cons_zero,List.set_cons_succ,i64_w,i32_w]
                rfl
               refine one_ (i:=11) (N:=none) #[true,true,true,true,true,true,true,true,true,true,true,true] rfl rfl (one_of HT_.out (by kernel_rfl)) (by decide) (fun K hK => ?_)
               have hs64 : w63.cell? ⟨gb370,0,none⟩ = some (.int .i64 0):=(bCe BK370.out 0).trans rfl
               have hfs64:=bFr BK370.out 0
               have hns64_0:=NB349_370.out
               have hns64_1:=NB362_370.out
               have hms64_0:=NB370_349.out
               have hms64_1:=NB370_362.out
               have hs65 : w63.cell? ⟨gb370,1,none⟩ = some (.int .i64 0):=(bCe BK370.out 1).trans rfl
               have hfs65:=bFr BK370.out 1
               have hns65_0:=NB349_370.out
               have hns65_1:=NB362_370.out
               have hms65_0:=NB370_349.out
               have hms65_1:=NB370_362.out
               have hs66 : w63.cell? ⟨gb370,2,none⟩ = some (.int .i64 0):=(bCe BK370.out 2).trans rfl
               have hfs66:=bFr BK370.out 2
               have hns66_0:=NB349_370.out
               have hns66_1:=NB362_370.out
               have hms66_0:=NB370_349.out
               have hms66_1:=NB370_362.out
               have hs67 : w63.cell? ⟨gb370,3,none⟩ = some (.int .i64 0):=(bCe BK370.out 3).trans rfl
               have hfs67:=bFr BK370.out 3
               have hns67_0:=NB349_370.out
               have hns67_1:=NB362_370.out
               have hms67_0:=NB370_349.out
               have hms67_1:=NB370_362.out
               have hs68 : w63.cell? ⟨gb370,4,none⟩ = some (.int .i64 0):=(bCe BK370.out 4).trans rfl
               have hfs68:=bFr BK370.out 4
               have hns68_0:=NB349_370.out
               have hns68_1:=NB362_370.out
               have hms68_0:=NB370_349.out
               have hms68_1:=NB370_362.out
               have hs69 : w63.cell? ⟨gb370,5,none⟩ = some (.bool false):=(bCe BK370.out 5).trans rfl
               have hfs69:=bFr BK370.out 5
               have hns69_0:=NB349_370.out
               have hns69_1:=NB362_370.out
               have hms69_0:=NB370_349.out
               have hms69_1:=NB370_362.out
               refine skip_ (w1:=?_) (by rfl) rfl ?_ ?_
               rotate_left
               ·go_simp
                rfl
               refine hK.out _ _ ⟨((cell_far (p:=⟨gb370,_,none⟩) NB362_370.out _).trans (((cell_far (p:=⟨gb370,_,none⟩) NB362_370.out _).trans (((cell_far (p:=⟨gb370,_,none⟩) NB362_370.out _).trans (((cell_far (p:=⟨gb370,_,none⟩) NB362_370.out _).trans (((cell_far (p:=⟨gb370,_,none⟩) NB362_370.out _).trans (((cell_far (p:=⟨gb370,_,none⟩) NB362_370.out _).trans (hHeld.1)))))))))))),((cell_far (p:=⟨gb370,_,none⟩) NB362_370.out _).trans (((cell_far (p:=⟨gb370,_,none⟩) NB362_370.out _).trans (((cell_far (p:=⟨gb370,_,none⟩) NB362_370.out _).trans (((cell_far (p:=⟨gb370,_,none⟩) NB362_370.out _).trans (((cell_far (p:=⟨gb370,_,none⟩) NB362_370.out _).trans (((cell_far (p:=⟨gb370,_,none⟩) NB362_370.out _).trans (hHeld.2.1)))))))))))),((cell_far (p:=⟨gb370,_,none⟩) (by first|exact Kd.own_blk (Kd.R_ne HO_4.out BK370.out (by decide))|(rw [add_block];exact Kd.own_blk (Kd.R_ne HO_4.out BK370.out (by decide)))|(show (Addr.add _ _).block ≠ _;rw [add_block];exact Kd.own_blk (Kd.R_ne HO_4.out BK370.out (by decide)))|(dsimp only;exact Kd.own_blk (Kd.R_ne HO_4.out BK370.out (by decide)))) _).trans (((cell_far (p:=⟨gb370,_,none⟩) (by first|exact Kd.own_blk (Kd.R_ne HO_4.out BK370.out (by decide))|(rw [add_block];exact Kd.own_blk (Kd.R_ne HO_4.out BK370.out (by decide)))|(show (Addr.add _ _).block ≠ _;rw [add_block];exact Kd.own_blk (Kd.R_ne HO_4.out BK370.out (by decide)))|(dsimp only;exact Kd.own_blk (Kd.R_ne HO_4.out BK370.out (by decide)))) _).trans (((cell_far (p:=⟨gb370,_,none⟩) (by first|exact Kd.own_blk (Kd.R_ne HO_4.out BK370.out (by decide))|(rw [add_block];exact Kd.own_blk (Kd.R_ne HO_4.out BK370.out (by decide)))|(show (Addr.add _ _).block ≠ _;rw [add_block];exact Kd.own_blk (Kd.R_ne HO_4.out BK370.out (by decide)))|(dsimp only;exact Kd.own_blk (Kd.R_ne HO_4.out BK370.out (by decide)))) _).trans (((cell_far (p:=⟨gb370,_,none⟩) (by first|exact Kd.own_blk (Kd.R_ne HO_4.out BK370.out (by decide))|(rw [add_block];exact Kd.own_blk (Kd.R_ne HO_4.out BK370.out (by decide)))|(show (Addr.add _ _).block ≠ _;rw [add_block];exact Kd.own_blk (Kd.R_ne HO_4.out BK370.out (by decide)))|(dsimp only;exact Kd.own_blk (Kd.R_ne HO_4.out BK370.out (by decide)))) _).trans (((cell_far (p:=⟨gb370,_,none⟩) (by first|exact Kd.own_blk (Kd.R_ne HO_4.out BK370.out (by decide))|(rw [add_block];exact Kd.own_blk (Kd.R_ne HO_4.out BK370.out (by decide)))|(show (Addr.add _ _).block ≠ _;rw [add_block];exact Kd.own_blk (Kd.R_ne HO_4.out BK370.out (by decide)))|(dsimp only;exact Kd.own_blk (Kd.R_ne HO_4.out BK370.out (by decide)))) _).trans (((cell_far (p:=⟨gb370,_,none⟩) (by first|exact Kd.own_blk (Kd.R_ne HO_4.out BK370.out (by decide))|(rw [add_block];exact Kd.own_blk (Kd.R_ne HO_4.out BK370.out (by decide)))|(show (Addr.add _ _).block ≠ _;rw [add_block];exact Kd.own_blk (Kd.R_ne HO_4.out BK370.out (by decide)))|(dsimp only;exact Kd.own_blk (Kd.R_ne HO_4.out BK370.out (by decide)))) _).trans (hHeld.2.2))))))))))))⟩ (fun hHeld => ?_)
               clear hK K
               refine done_ (done_of HT_.out (by kernel_rfl)) ?_
               have hnb70:=NB370_349.out
               have hnc70:=NB349_370.out
               have hnb71:=NB370_362.out
               have hnc71:=NB362_370.out
               have hcz72_0 : w63.cell? ⟨gb370,0,none⟩ = some (.int .i64 0):=(bCe BK370.out 0).trans rfl
               have hcz72_1 : w63.cell? ⟨gb370,1,none⟩ = some (.int .i64 0):=(bCe BK370.out 1).trans rfl
               have hcz72_2 : w63.cell? ⟨gb370,2,none⟩ = some (.int .i64 0):=(bCe BK370.out 2).trans rfl
               have hcz72_3 : w63.cell? ⟨gb370,3,none⟩ = some (.int .i64 0):=(bCe BK370.out 3).trans rfl
               have hcz72_4 : w63.cell? ⟨gb370,4,none⟩ = some (.int .i64 0):=(bCe BK370.out 4).trans rfl
               have hcz72_5 : w63.cell? ⟨gb370,5,none⟩ = some (.bool false):=(bCe BK370.out 5).trans rfl
               have hfz72_0:=bFr BK370.out 0
               have hfz72_1:=bFr BK370.out 1
               have hfz72_2:=bFr BK370.out 2
               have hfz72_3:=bFr BK370.out 3
               have hfz72_4:=bFr BK370.out 4
               have hfz72_5:=bFr BK370.out 5
               try go_wp2_with (first|(go_at_call 18;(with_reducible refine (impl_RuleOK.calls kj5 t356 t359 t360 t364 t367 ((rdOf ByteArray.empty t350 0).toList == ([97,108,108,111,119] : List UInt8)) false _ A30.out).mono ?_);rintro e w73 ⟨rfl,hb⟩;have n0_:=aMk (Kd.R_below (by (with_reducible repeat (first|apply Kd.R_alloc|apply Kd.R_drewN|apply Kd.R_drew));exact (Kd.R_mono (Kd.R_far (p:=⟨gb370,5,none⟩) (Kd.R_far (p:=⟨gb370,4,none⟩) (Kd.R_far (p:=⟨gb370,3,none⟩) (Kd.R_far (p:=⟨gb370,2,none⟩) (Kd.R_far (p:=⟨gb370,1,none⟩) (Kd.R_far (p:=⟨gb370,0,none⟩) (Kd.R_types HO_4.out BK370.out (by decide)) (fun _ hk => hk.2) (.int .i64 t356)) (fun _ hk => hk.2) (.int .i64 t359)) (fun _ hk => hk.2) (.int .i64 t360)) (fun _ hk => hk.2) (.int .i64 t364)) (fun _ hk => hk.2) (.int .i64 t367)) (fun _ hk => hk.2) (.bool ((rdOf ByteArray.empty t350 0).toList == ([97,108,108,111,119] : List UInt8)))) (fun _ h_ => h_.1))) hb);have n1_:=aMk (blk_below (g:=gb349) (o:=.cells #[.int .i64 0,.int .i64 0,.int .i64 0,.int .i64 0,.int .i64 0,.bool false] 33 (0,0)) (by (with_reducible repeat (first|refine bDn ?_ _|refine bDr ?_|refine bAl ?_ _));refine blk_far ?_ NB349_370.out _;(with_reducible repeat (first|refine bDn ?_ _|refine bDr ?_|refine bAl ?_ _));refine blk_far ?_ NB349_370.out _;(with_reducible repeat (first|refine bDn ?_ _|refine bDr ?_|refine bAl ?_ _));refine blk_far ?_ NB349_370.out _;(with_reducible repeat (first|refine bDn ?_ _|refine bDr ?_|refine bAl ?_ _));refine blk_far ?_ NB349_370.out _;(with_reducible repeat (first|refine bDn ?_ _|refine bDr ?_|refine bAl ?_ _));refine blk_far ?_ NB349_370.out _;(with_reducible repeat (first|refine bDn ?_ _|refine bDr ?_|refine bAl ?_ _));refine blk_far ?_ NB349_370.out _;(with_reducible repeat (first|refine bDn ?_ _|refine bDr ?_|refine bAl ?_ _));exact BK349.out) hb);have n2_:=aMk (blk_below (g:=gb362) (o:=.cells #[.int .i64 t359,.int .i64 t360] 30 (0,0)) (by (with_reducible repeat (first|refine bDn ?_ _|refine bDr ?_|refine bAl ?_ _));refine blk_far ?_ NB362_370.out _;(with_reducible repeat (first|refine bDn ?_ _|refine bDr ?_|refine bAl ?_ _));refine blk_far ?_ NB362_370.out _;(with_reducible repeat (first|refine bDn ?_ _|refine bDr ?_|refine bAl ?_ _));refine blk_far ?_ NB362_370.out _;(with_reducible repeat (first|refine bDn ?_ _|refine bDr ?_|refine bAl ?_ _));refine blk_far ?_ NB362_370.out _;(with_reducible repeat (first|refine bDn ?_ _|refine bDr ?_|refine bAl ?_ _));refine blk_far ?_ NB362_370.out _;(with_reducible repeat (first|refine bDn ?_ _|refine bDr ?_|refine bAl ?_ _));refine blk_far ?_ NB362_370.out _;(with_reducible repeat (first|refine bDn ?_ _|refine bDr ?_|refine bAl ?_ _));exact BK362.out) hb);have n3_:=aMk (blk_below (g:=gb370) (o:=.cells #[.int .i64 t356,.int .i64 t359,.int .i64 t360,.int .i64 t364,.int .i64 t367,.bool ((rdOf ByteArray.empty t350 0).toList == ([97,108,108,111,119] : List UInt8))] 33 (0,0)) (by (with_reducible repeat (first|refine bDn ?_ _|refine bDr ?_|refine bAl ?_ _));refine blk_put (cs:=#[.int .i64 t356,.int .i64 t359,.int .i64 t360,.int .i64 t364,.int .i64 t367,.bool false]) ?_ 5 _ rfl;(with_reducible repeat (first|refine bDn ?_ _|refine bDr ?_|refine bAl ?_ _));refine blk_put (cs:=#[.int .i64 t356,.int .i64 t359,.int .i64 t360,.int .i64 t364,.int .i64 0,.bool false]) ?_ 4 _ rfl;(with_reducible repeat (first|refine bDn ?_ _|refine bDr ?_|refine bAl ?_ _));refine blk_put (cs:=#[.int .i64 t356,.int .i64 t359,.int .i64 t360,.int .i64 0,.int .i64 0,.bool false]) ?_ 3 _ rfl;(with_reducible repeat (first|refine bDn ?_ _|refine bDr ?_|refine bAl ?_ _));refine blk_put (cs:=#[.int .i64 t356,.int .i64 t359,.int .i64 0,.int .i64 0,.int .i64 0,.bool false]) ?_ 2 _ rfl;(with_reducible repeat (first|refine bDn ?_ _|refine bDr ?_|refine bAl ?_ _));refine blk_put (cs:=#[.int .i64 t356,.int .i64 0,.int .i64 0,.int .i64 0,.int .i64 0,.bool false]) ?_ 1 _ rfl;(with_reducible repeat (first|refine bDn ?_ _|refine bDr ?_|refine bAl ?_ _));refine blk_put (cs:=#[.int .i64 0,.int .i64 0,.int .i64 0,.int .i64 0,.int .i64 0,.bool false]) ?_ 0 _ rfl;(with_reducible repeat (first|refine bDn ?_ _|refine bDr ?_|refine bAl ?_ _));exact BK370.out) hb);have n4_:=aMk (below_step (by repeat (first|(with_reducible first|exact HB.out|apply bwA|apply bwN|apply bw1|refine below_set ?_ GE349.out|refine below_set ?_ GE362.out|refine below_set ?_ GE370.out)|exact HB.out)) hb);clear HO_4;clear BK349;clear BK362;clear BK370;clear HB;have HO_4:=n0_;have BK349:=n1_;have BK362:=n2_;have BK370:=n3_;have HB:=n4_;clear n0_ n1_ n2_ n3_ n4_;(try clear hb);(try clear hb2);(try clear hk);(try clear hi);have hcz74_0 : w73.cell? ⟨gb349,0,none⟩ = some (.int .i64 0):=(bCe BK349.out 0).trans rfl;have hcz74_1 : w73.cell? ⟨gb349,1,none⟩ = some (.int .i64 0):=(bCe BK349.out 1).trans rfl;have hcz74_2 : w73.cell? ⟨gb349,2,none⟩ = some (.int .i64 0):=(bCe BK349.out 2).trans rfl;have hcz74_3 : w73.cell? ⟨gb349,3,none⟩ = some (.int .i64 0):=(bCe BK349.out 3).trans rfl;have hcz74_4 : w73.cell? ⟨gb349,4,none⟩ = some (.int .i64 0):=(bCe BK349.out 4).trans rfl;have hcz74_5 : w73.cell? ⟨gb349,5,none⟩ = some (.bool false):=(bCe BK349.out 5).trans rfl;have hfz74_0:=bFr BK349.out 0;have hfz74_1:=bFr BK349.out 1;have hfz74_2:=bFr BK349.out 2;have hfz74_3:=bFr BK349.out 3;have hfz74_4:=bFr BK349.out 4;have hfz74_5:=bFr BK349.out 5))
               refine bodyPost_ret (results_ct rfl _ _ gb349 33 #[.int .i64 0,.int .i64 0,.int .i64 0,.int .i64 0,.int .i64 0,.bool false] (0,0) _ rfl (by (with_reducible repeat (first|refine bDn ?_ _|refine bDr ?_|refine bAl ?_ _));refine blk_put (cs:=#[.int .i64 0,.int .i64 0,.int .i64 0,.int .i64 0,.int .i64 0,.bool false]) ?_ 5 _ rfl;(with_reducible repeat (first|refine bDn ?_ _|refine bDr ?_|refine bAl ?_ _));refine blk_put (cs:=#[.int .i64 0,.int .i64 0,.int .i64 0,.int .i64 0,.int .i64 0,.bool false]) ?_ 4 _ rfl;(with_reducible repeat (first|refine bDn ?_ _|refine bDr ?_|refine bAl ?_ _));refine blk_put (cs:=#[.int .i64 0,.int .i64 0,.int .i64 0,.int .i64 0,.int .i64 0,.bool false]) ?_ 3 _ rfl;(with_reducible repeat (first|refine bDn ?_ _|refine bDr ?_|refine bAl ?_ _));refine blk_put (cs:=#[.int .i64 0,.int .i64 0,.int .i64 0,.int .i64 0,.int .i64 0,.bool false]) ?_ 2 _ rfl;(with_reducible repeat (first|refine bDn ?_ _|refine bDr ?_|refine bAl ?_ _));refine blk_put (cs:=#[.int .i64 0,.int .i64 0,.int .i64 0,.int .i64 0,.int .i64 0,.bool false]) ?_ 1 _ rfl;(with_reducible repeat (first|refine bDn ?_ _|refine bDr ?_|refine bAl ?_ _));refine blk_put (cs:=#[.int .i64 0,.int .i64 0,.int .i64 0,.int .i64 0,.int .i64 0,.bool false]) ?_ 0 _ rfl;(with_reducible repeat (first|refine bDn ?_ _|refine bDr ?_|refine bAl ?_ _));exact BK349.out) Tryd.underlying33 rfl (by kernel_rfl)) rfl ?_
               exact ⟨by first | rfl|(simp [errW_none,errW_some] <;> rfl)|(simp [*,errW_none,errW_some] <;> rfl),by repeat (first|(with_reducible first|exact HB.out|apply bwA|apply bwN|apply bw1|refine below_set ?_ GE349.out|refine below_set ?_ GE362.out|refine below_set ?_ GE370.out)|exact HB.out)⟩
             ·replace c29:=Bool.eq_false_iff.mpr c29
              subst c29
              have H1 : (some (0,0,0,0,0,false,3)) = some (r1,r2,r3,r4,r5,r6,r7):=by rw [if_neg (show ¬ (false = true) by decide)] at H;exact H
              clear H
              have H:=H1
              clear H1
              simp only [Option.some.injEq,Prod.mk.injEq] at H
              obtain ⟨rfl,rfl,rfl,rfl,rfl,rfl,rfl⟩:=H
              obtain ⟨Ao75,co75,eo75⟩:=Kd.R_slice HO_4.out
              subst eo75
              have p355 : 0 ≤ (1 : Int):=(by omega)
              have q355 : 1 < (t350.length : Int):=of_decide_eq_true (by first|(with_reducible assumption) | assumption)
              obtain ⟨ad355,e355,hx355_0⟩:=Kd.at_string (Kd.R_reads' HO_4.out).2.2 1 p355 q355
              cases e355
              (try simp only [show (1 : Int).toNat = 1 from rfl,Nat.reduceMul,Nat.reduceEqDiff,Go.Addr.add,↓reduceIte] at hx355_0)
              have qi355 : (1 < t350.length) = True:=eq_true (by omega)
              (try rw [show ((1 : Int)).toNat = 1 from rfl] at hx355_0)
              replace p355:=eq_true p355
              replace q355:=eq_true q355
              try go_wp2_with (first|((with_reducible refine gate_callee (f:=25) rfl ?_);refine goesL_ (some 40) rfl rfl Tryd.func25 (by kernel_rfl) rfl #[.string (rdOf ByteArray.empty t350 1)] rfl (by (try simp only [List.map_toArray,List.map_cons,List.map_nil]);first | done | rfl|(simp only [List.length_drop,List.length_take];rfl)) ?_;(with_reducible refine (impl_readProto.calls kj5 (rdOf ByteArray.empty t350 1) t356 true _ A18.out).mono ?_);rintro e w76 ⟨rfl,hb⟩;refine ⟨_,rfl,?_⟩;have n0_:=aMk (Kd.R_below (by (with_reducible repeat (first|apply Kd.R_alloc|apply Kd.R_drewN|apply Kd.R_drew));exact HO_4.out) hb);have n1_:=aMk (blk_below (g:=gb349) (o:=.cells #[.int .i64 0,.int .i64 0,.int .i64 0,.int .i64 0,.int .i64 0,.bool false] 33 (0,0)) (by (with_reducible repeat (first|refine bDn ?_ _|refine bDr ?_|refine bAl ?_ _));exact BK349.out) hb);have n2_:=aMk (below_step (by repeat (first|(with_reducible first|exact HB.out|apply bwA|apply bwN|apply bw1|refine below_set ?_ GE349.out)|exact HB.out)) hb);clear HO_4;clear BK349;clear HB;have HO_4:=n0_;have BK349:=n1_;have HB:=n2_;clear n0_ n1_ n2_;(try clear hb);(try clear hb2);(try clear hk);(try clear hi);have p358 : 0 ≤ (2 : Int):=(by omega);have q358 : 2 < (t350.length : Int):=of_decide_eq_true (by first|(with_reducible assumption) | assumption);obtain ⟨ad358,e358,hx358_0⟩:=Kd.at_string (Kd.R_reads' HO_4.out).2.2 2 p358 q358;obtain rfl : ad355 = ad358:=(by injection e358);(try simp only [show (2 : Int).toNat = 2 from rfl,Nat.reduceMul,Nat.reduceEqDiff,Go.Addr.add,↓reduceIte] at hx358_0);have qi358 : (2 < t350.length) = True:=eq_true (by omega);(try rw [show ((2 : Int)).toNat = 2 from rfl] at hx358_0);replace p358:=eq_true p358;replace q358:=eq_true q358)|((with_reducible refine gate_callee (f:=26) rfl ?_);refine goesL_ (some 47) rfl rfl Tryd.func26 (by kernel_rfl) rfl #[.string (rdOf ByteArray.empty t350 2)] rfl (by (try simp only [List.map_toArray,List.map_cons,List.map_nil]);first | done | rfl|(simp only [List.length_drop,List.length_take];rfl)) ?_;(with_reducible refine (impl_readNet.calls kj5 (rdOf ByteArray.empty t350 2) t359 t360 true _ ?sideGe ?sideGp A20.out).mono ?_);(case sideGe => exact GLe_below HGe_.out (by repeat (first|(with_reducible first|exact HB.out|apply bwA|apply bwN|apply bw1|refine below_set ?_ (Aside0.out (by assumption)))|exact HB.out)));(case sideGp => exact GLp_below HGp_.out (by repeat (first|(with_reducible first|exact HB.out|apply bwA|apply bwN|apply bw1|refine below_set ?_ (Aside0.out (by assumption)))|exact HB.out)));rintro e w77 ⟨rfl,hb⟩;refine ⟨_,rfl,?_⟩;have n0_:=aMk (Kd.R_below (by (with_reducible repeat (first|apply Kd.R_alloc|apply Kd.R_drewN|apply Kd.R_drew));exact HO_4.out) hb);have n1_:=aMk (blk_below (g:=gb349) (o:=.cells #[.int .i64 0,.int .i64 0,.int .i64 0,.int .i64 0,.int .i64 0,.bool false] 33 (0,0)) (by (with_reducible repeat (first|refine bDn ?_ _|refine bDr ?_|refine bAl ?_ _));exact BK349.out) hb);have n2_:=aMk (below_step (by repeat (first|(with_reducible first|exact HB.out|apply bwA|apply bwN|apply bw1|refine below_set ?_ GE349.out)|exact HB.out)) hb);clear HO_4;clear BK349;clear HB;have HO_4:=n0_;have BK349:=n1_;have HB:=n2_;clear n0_ n1_ n2_;(try clear hb);(try clear hb2);(try clear hk);(try clear hi))|((with_reducible refine gate_dst (N:=7) rfl ?_);refine box_event ?hg (N:=7) ?hd (cs:=#[.int .i64 0,.int .i64 0]) (t:=30) ?hr ?_;(case hd => rfl);(case hg => rfl);(case hr => first|(go_simp;done)|(go_simp;rfl));intro gb362 hg w78 hbox hb;have n0_:=aMk (Kd.R_below (by (with_reducible repeat (first|apply Kd.R_alloc|apply Kd.R_drewN|apply Kd.R_drew));exact HO_4.out) hb);have n1_:=aMk (blk_below (g:=gb349) (o:=.cells #[.int .i64 0,.int .i64 0,.int .i64 0,.int .i64 0,.int .i64 0,.bool false] 33 (0,0)) (by (with_reducible repeat (first|refine bDn ?_ _|refine bDr ?_|refine bAl ?_ _));exact BK349.out) hb);have n2_:=aMk (below_step (by repeat (first|(with_reducible first|exact HB.out|apply bwA|apply bwN|apply bw1|refine below_set ?_ GE349.out)|exact HB.out)) hb);have n3_:=aMk (hbox);have n4_:=aMk ((by rw [hg];exact (below_size (by repeat (first|(with_reducible first|exact HB.out|apply bwA|apply bwN|apply bw1|refine below_set ?_ GE349.out)|exact HB.out))) : w.heap.size ≤ gb362));have n5_:=aMk ((by rw [hg];exact (below_size (by repeat (first|(with_reducible first|exact HB.out|apply bwA|apply bwN|apply bw1|refine below_set ?_ GE349.out)|exact HB.out))) : w.heap.size ≤ gb362));have n6_:=aMk ((by rw [hg];exact Nat.ne_of_lt (blk_lt (g:=gb349) (o:=.cells #[.int .i64 0,.int .i64 0,.int .i64 0,.int .i64 0,.int .i64 0,.bool false] 33 (0,0)) (by (with_reducible repeat (first|refine bDn ?_ _|refine bDr ?_|refine bAl ?_ _));exact BK349.out)) : gb349 ≠ gb362));have n7_:=aMk ((by rw [hg];exact Nat.ne_of_gt (blk_lt (g:=gb349) (o:=.cells #[.int .i64 0,.int .i64 0,.int .i64 0,.int .i64 0,.int .i64 0,.bool false] 33 (0,0)) (by (with_reducible repeat (first|refine bDn ?_ _|refine bDr ?_|refine bAl ?_ _));exact BK349.out)) : gb362 ≠ gb349));clear HO_4;clear BK349;clear HB;have HO_4:=n0_;have BK349:=n1_;have HB:=n2_;have BK362:=n3_;have GW362:=n4_;have GE362:=n5_;have NB349_362:=n6_;have NB362_349:=n7_;clear n0_ n1_ n2_ n3_ n4_ n5_ n6_ n7_;clear hb hbox hg;have hnb79:=NB362_349.out;have hnc79:=NB349_362.out;have hcz80_0 : w78.cell? ⟨gb362,0,none⟩ = some (.int .i64 0):=(bCe BK362.out 0).trans rfl;have hcz80_1 : w78.cell? ⟨gb362,1,none⟩ = some (.int .i64 0):=(bCe BK362.out 1).trans rfl;have hfz80_0:=bFr BK362.out 0;have hfz80_1:=bFr BK362.out 1;have p363 : 0 ≤ (3 : Int):=(by omega);have q363 : 3 < (t350.length : Int):=of_decide_eq_true (by first|(with_reducible assumption) | assumption);obtain ⟨ad363,e363,hx363_0⟩:=Kd.at_string (Kd.R_reads' HO_4.out).2.2 3 p363 q363;obtain rfl : ad355 = ad363:=(by injection e363);(try simp only [show (3 : Int).toNat = 3 from rfl,Nat.reduceMul,Nat.reduceEqDiff,Go.Addr.add,↓reduceIte] at hx363_0);have qi363 : (3 < t350.length) = True:=eq_true (by omega);(try rw [show ((3 : Int)).toNat = 3 from rfl] at hx363_0);have hn363_0 : ad355.block ≠ gb362:=Kd.own_blk (Kd.R_ne HO_4.out BK362.out (by decide));have hn363_1 : ad355.block ≠ gb362:=Kd.own_blk (Kd.R_ne HO_4.out BK362.out (by decide));replace hx363_0:=(cell_far (p:=⟨gb362,0,none⟩) (by first|(rw [add_block];exact hn363_0)|(show (Addr.add _ _).block ≠ _;rw [add_block];exact hn363_0)|exact hn363_0) (.int .i64 t359)).trans hx363_0;replace hx363_0:=(cell_far (p:=⟨gb362,1,none⟩) (by first|(rw [add_block];exact hn363_1)|(show (Addr.add _ _).block ≠ _;rw [add_block];exact hn363_1)|exact hn363_1) (.int .i64 t360)).trans hx363_0;clear hn363_0;clear hn363_1;replace p363:=eq_true p363;replace q363:=eq_true q363)|((with_reducible refine gate_callee (f:=27) rfl ?_);refine goesL_ (some 54) rfl rfl Tryd.func27 (by kernel_rfl) rfl #[.string (rdOf ByteArray.empty t350 3)] rfl (by (try simp only [List.map_toArray,List.map_cons,List.map_nil]);first | done | rfl|(simp only [List.length_drop,List.length_take];rfl)) ?_;(with_reducible refine (impl_number.calls (rdOf ByteArray.empty t350 3) t364 true _ ?sideGe ?sideGp A22.out).mono ?_);(case sideGe => exact GLe_below HGe_.out (by repeat (first|(with_reducible first|exact HB.out|apply bwA|apply bwN|apply bw1|refine below_set ?_ (Aside0.out (by assumption)))|exact HB.out)));(case sideGp => exact GLp_below HGp_.out (by repeat (first|(with_reducible first|exact HB.out|apply bwA|apply bwN|apply bw1|refine below_set ?_ (Aside0.out (by assumption)))|exact HB.out)));rintro e w81 ⟨rfl,hb⟩;refine ⟨_,rfl,?_⟩;have n0_:=aMk (Kd.R_below (by (with_reducible repeat (first|apply Kd.R_alloc|apply Kd.R_drewN|apply Kd.R_drew));exact (Kd.R_mono (Kd.R_far (p:=⟨gb362,1,none⟩) (Kd.R_far (p:=⟨gb362,0,none⟩) (Kd.R_types HO_4.out BK362.out (by decide)) (fun _ hk => hk.2) (.int .i64 t359)) (fun _ hk => hk.2) (.int .i64 t360)) (fun _ h_ => h_.1))) hb);have n1_:=aMk (blk_below (g:=gb349) (o:=.cells #[.int .i64 0,.int .i64 0,.int .i64 0,.int .i64 0,.int .i64 0,.bool false] 33 (0,0)) (by (with_reducible repeat (first|refine bDn ?_ _|refine bDr ?_|refine bAl ?_ _));refine blk_far ?_ NB349_362.out _;(with_reducible repeat (first|refine bDn ?_ _|refine bDr ?_|refine bAl ?_ _));refine blk_far ?_ NB349_362.out _;(with_reducible repeat (first|refine bDn ?_ _|refine bDr ?_|refine bAl ?_ _));exact BK349.out) hb);have n2_:=aMk (blk_below (g:=gb362) (o:=.cells #[.int .i64 t359,.int .i64 t360] 30 (0,0)) (by (with_reducible repeat (first|refine bDn ?_ _|refine bDr ?_|refine bAl ?_ _));refine blk_put (cs:=#[.int .i64 t359,.int .i64 0]) ?_ 1 _ rfl;(with_reducible repeat (first|refine bDn ?_ _|refine bDr ?_|refine bAl ?_ _));refine blk_put (cs:=#[.int .i64 0,.int .i64 0]) ?_ 0 _ rfl;(with_reducible repeat (first|refine bDn ?_ _|refine bDr ?_|refine bAl ?_ _));exact BK362.out) hb);have n3_:=aMk (below_step (by repeat (first|(with_reducible first|exact HB.out|apply bwA|apply bwN|apply bw1|refine below_set ?_ GE349.out|refine below_set ?_ GE362.out)|exact HB.out)) hb);clear HO_4;clear BK349;clear BK362;clear HB;have HO_4:=n0_;have BK349:=n1_;have BK362:=n2_;have HB:=n3_;clear n0_ n1_ n2_ n3_;(try clear hb);(try clear hb2);(try clear hk);(try clear hi);have p366 : 0 ≤ (4 : Int):=(by omega);have q366 : 4 < (t350.length : Int):=of_decide_eq_true (by first|(with_reducible assumption) | assumption);obtain ⟨ad366,e366,hx366_0⟩:=Kd.at_string (Kd.R_reads' HO_4.out).2.2 4 p366 q366;obtain rfl : ad355 = ad366:=(by injection e366);(try simp only [show (4 : Int).toNat = 4 from rfl,Nat.reduceMul,Nat.reduceEqDiff,Go.Addr.add,↓reduceIte] at hx366_0);have qi366 : (4 < t350.length) = True:=eq_true (by omega);(try rw [show ((4 : Int)).toNat = 4 from rfl] at hx366_0);replace p366:=eq_true p366;replace q366:=eq_true q366)|((with_reducible refine gate_callee (f:=27) rfl ?_);refine goesL_ (some 61) rfl rfl Tryd.func27 (by kernel_rfl) rfl #[.string (rdOf ByteArray.empty t350 4)] rfl (by (try simp only [List.map_toArray,List.map_cons,List.map_nil]);first | done | rfl|(simp only [List.length_drop,List.length_take];rfl)) ?_;(with_reducible refine (impl_number.calls (rdOf ByteArray.empty t350 4) t367 false _ ?sideGe ?sideGp A24.out).mono ?_);(case sideGe => exact GLe_below HGe_.out (by repeat (first|(with_reducible first|exact HB.out|apply bwA|apply bwN|apply bw1|refine below_set ?_ (Aside0.out (by assumption)))|exact HB.out)));(case sideGp => exact GLp_below HGp_.out (by repeat (first|(with_reducible first|exact HB.out|apply bwA|apply bwN|apply bw1|refine below_set ?_ (Aside0.out (by assumption)))|exact HB.out)));rintro e w82 ⟨rfl,hb⟩;refine ⟨_,rfl,?_⟩;have n0_:=aMk (Kd.R_below (by (with_reducible repeat (first|apply Kd.R_alloc|apply Kd.R_drewN|apply Kd.R_drew));exact HO_4.out) hb);have n1_:=aMk (blk_below (g:=gb349) (o:=.cells #[.int .i64 0,.int .i64 0,.int .i64 0,.int .i64 0,.int .i64 0,.bool false] 33 (0,0)) (by (with_reducible repeat (first|refine bDn ?_ _|refine bDr ?_|refine bAl ?_ _));exact BK349.out) hb);have n2_:=aMk (blk_below (g:=gb362) (o:=.cells #[.int .i64 t359,.int .i64 t360] 30 (0,0)) (by (with_reducible repeat (first|refine bDn ?_ _|refine bDr ?_|refine bAl ?_ _));exact BK362.out) hb);have n3_:=aMk (below_step (by repeat (first|(with_reducible first|exact HB.out|apply bwA|apply bwN|apply bw1|refine below_set ?_ GE349.out|refine below_set ?_ GE362.out)|exact HB.out)) hb);clear HO_4;clear BK349;clear BK362;clear HB;have HO_4:=n0_;have BK349:=n1_;have BK362:=n2_;have HB:=n3_;clear n0_ n1_ n2_ n3_;(try clear hb);(try clear hb2);(try clear hk);(try clear hi)))
              have n0_:=aMk (Kd.R_drew HO_4.out)
              have n1_:=aMk (bDr BK349.out)
              have n2_:=aMk (bDr BK362.out)
              have n3_:=aMk (bw1 HB.out)
              clear HO_4
              clear BK349
              clear BK362
              clear HB
              have HO_4:=n0_
              have BK349:=n1_
              have BK362:=n2_
              have HB:=n3_
              clear n0_ n1_ n2_ n3_
              have p369 : 0 ≤ (0 : Int):=(by omega)
              have q369 : 0 < (t350.length : Int):=of_decide_eq_true (by first|(with_reducible assumption) | assumption)
              obtain ⟨ad369,e369,hx369_0⟩:=Kd.at_string (Kd.R_reads' HO_4.out).2.2 0 p369 q369
              obtain rfl : ad355 = ad369:=(by injection e369)
              have qi369 : (0 < t350.length) = True:=eq_true (by omega)
              (try rw [show ((0 : Int)).toNat = 0 from rfl] at hx369_0)
              (try rw [Addr.add_zero'] at hx369_0)
              replace p369:=eq_true p369
              replace q369:=eq_true q369
              refine start_ (n:=12) (S:=fun w' => w'.cell? ⟨gb362,0,none⟩ = some (.int .i64 t359) ∧ w'.cell? ⟨gb362,1,none⟩ = some (.int .i64 t360) ∧ w'.cell? ad355 = some (.string (rdOf ByteArray.empty t350 0))) (ds:=[]) #[false,false,false,false,false,false,false,false,false,false,false,false] (by kernel_rfl) rfl rfl ⟨(bCe BK362.out 0).trans rfl,(bCe BK362.out 1).trans rfl,hx369_0⟩ (fun hHeld => ?_);refine with_tabW impl_ReadRule.tab10 impl_ReadRule.bits10 (fun HT_ HW_ => ?_)
              generalize w82.drew = w83 at HO_4 BK349 BK362 HB hx369_0 hHeld ⊢
              refine pure_ (i:=0) (N:=some 64) (v:=?_) (a':=?_) #[true,false,false,false,false,false,false,false,false,false,false,false] rfl rfl (any_of HT_.out (by kernel_rfl)) (fun _ _ _ h => h) (Or.inl ⟨by rfl,?_⟩) ?_ ?_
              rotate_left
              ·intro w'
               go_simp
               with_reducible rfl
              rotate_left
              ·simp only [Act.put,List.setIfInBounds_toArray,List.set_cons_zero,List.set_cons_succ,i64_w,i32_w]
               rfl
              refine pure_ (i:=2) (N:=some 66) (v:=?_) (a':=?_) #[true,false,true,false,false,false,false,false,false,false,false,false] rfl rfl (any_of HT_.out (by kernel_rfl)) (fun _ _ _ h => h) (Or.inl ⟨by rfl,?_⟩) ?_ ?_
              rotate_left
              ·intro w'
               go_simp
               with_reducible rfl
              rotate_left
              ·simp only [Act.put,List.setIfInBounds_toArray,List.set_cons_zero,List.set_cons_succ,i64_w,i32_w]
               rfl
              refine pure_ (i:=3) (N:=some 67) (v:=?_) (a':=?_) #[true,false,true,true,false,false,false,false,false,false,false,false] rfl rfl (any_of HT_.out (by kernel_rfl)) (fun _ _ _ h => h) (Or.inl ⟨by rfl,?_⟩) ?_ ?_
              rotate_left
              ·intro w'
               go_simp
               with_reducible rfl
              rotate_left
              ·simp only [Act.put,List.setIfInBounds_toArray,List.set_cons_zero,List.set_cons_succ,i64_w,i32_w]
               rfl
              refine pure_ (i:=4) (N:=some 68) (v:=?_) (a':=?_) #[true,false,true,true,true,false,false,false,false,false,false,false] rfl rfl (any_of HT_.out (by kernel_rfl)) (fun _ _ _ h => h) (Or.inl ⟨by rfl,?_⟩) ?_ ?_
              rotate_left
              ·intro w'
               go_simp
               with_reducible rfl
              rotate_left
              ·simp only [Act.put,List.setIfInBounds_toArray,List.set_cons_zero,List.set_cons_succ,i64_w,i32_w]
               rfl
              refine pure_ (i:=5) (N:=some 69) (v:=?_) (a':=?_) #[true,false,true,true,true,true,false,false,false,false,false,false] rfl rfl (any_of HT_.out (by kernel_rfl)) (fun _ _ _ h => h) (Or.inl ⟨by rfl,?_⟩) ?_ ?_
              rotate_left
              ·intro w'
               go_simp
               with_reducible rfl
              rotate_left
              ·simp only [Act.put,List.setIfInBounds_toArray,List.set_cons_zero,List.set_cons_succ,i64_w,i32_w]
               rfl
              refine pure_ (i:=6) (N:=some 70) (v:=?_) (a':=?_) #[true,false,true,true,true,true,true,false,false,false,false,false] rfl rfl (any_of HT_.out (by kernel_rfl)) (fun _ _ _ h => h) (Or.inl ⟨by rfl,?_⟩) ?_ ?_
              rotate_left
              ·intro w'
               go_simp
               with_reducible rfl
              rotate_left
              ·simp only [Act.put,List.setIfInBounds_toArray,List.set_cons_zero,List.set_cons_succ,i64_w,i32_w]
               rfl
              refine take_ (i:=1) (N:=some 65) (v:=?_) (a':=?_) #[true,true,true,true,true,true,true,false,false,false,false,false] rfl rfl (take_ofW HT_.out HW_.out (by kernel_rfl)) (fun _ _ _ h => h) (Or.inl ⟨by rfl,?_⟩) hHeld ?_ ?_
              rotate_left
              ·rintro w' ⟨s0,s1,s2⟩
               go_simp
               with_reducible rfl
              rotate_left
              ·simp only [Act.put,List.setIfInBounds_toArray,List.set_cons_zero,List.set_cons_succ,i64_w,i32_w]
               rfl
              refine take_ (i:=7) (N:=some 71) (v:=?_) (a':=?_) #[true,true,true,true,true,true,true,true,false,false,false,false] rfl rfl (take_ofW HT_.out HW_.out (by kernel_rfl)) (fun _ _ _ h => h) (Or.inl ⟨by rfl,?_⟩) hHeld ?_ ?_
              rotate_left
              ·rintro w' ⟨s0,s1,s2⟩
               go_simp
               with_reducible rfl
              rotate_left
              ·simp only [Act.put,List.setIfInBounds_toArray,List.set_cons_zero,List.set_cons_succ,i64_w,i32_w]
               rfl
              refine pure_ (i:=8) (N:=some 72) (v:=?_) (a':=?_) #[true,true,true,true,true,true,true,true,true,false,false,false] rfl rfl (any_of HT_.out (by kernel_rfl)) (fun _ _ _ h => h) (Or.inl ⟨by rfl,?_⟩) ?_ ?_
              rotate_left
              ·intro w'
               go_simp
               with_reducible rfl
              rotate_left
              ·simp only [Act.put,List.setIfInBounds_toArray,List.set_cons_zero,List.set_cons_succ,i64_w,i32_w]
               rfl
              refine pure_ (i:=9) (N:=some 73) (v:=?_) (a':=?_) #[true,true,true,true,true,true,true,true,true,true,false,false] rfl rfl (any_of HT_.out (by kernel_rfl)) (fun _ _ _ h => h) (Or.inl ⟨by rfl,?_⟩) ?_ ?_
              rotate_left
              ·intro w'
               go_simp
               with_reducible rfl
              rotate_left
              ·simp only [Act.put,List.setIfInBounds_toArray,List.set_cons_zero,List.set_cons_succ,i64_w,i32_w]
               rfl
              refine one_ (i:=10) (N:=some 13) #[true,true,true,true,true,true,true,true,true,true,true,false] rfl rfl (one_of HT_.out (by kernel_rfl)) (by decide) (fun K hK => ?_)
              refine box_step ?hg (N:=13) ?hd (cs:=#[.int .i64 0,.int .i64 0,.int .i64 0,.int .i64 0,.int .i64 0,.bool false]) (t:=33) ?hr ?_;(case hd => rfl);(case hg => rfl);(case hr => first|(go_simp;done)|(go_simp;rfl))
              intro gb370 hg w84 hbox hb
              have HS2_:=(hb.cell (wLt _ _ (hHeld.2.2))).trans (hHeld.2.2)
              have n0_:=aMk (Kd.R_below (by (with_reducible repeat (first|apply Kd.R_alloc|apply Kd.R_drewN|apply Kd.R_drew));exact HO_4.out) hb)
              have n1_:=aMk (blk_below (g:=gb349) (o:=.cells #[.int .i64 0,.int .i64 0,.int .i64 0,.int .i64 0,.int .i64 0,.bool false] 33 (0,0)) (by (with_reducible repeat (first|refine bDn ?_ _|refine bDr ?_|refine bAl ?_ _));exact BK349.out) hb)
              have n2_:=aMk (blk_below (g:=gb362) (o:=.cells #[.int .i64 t359,.int .i64 t360] 30 (0,0)) (by (with_reducible repeat (first|refine bDn ?_ _|refine bDr ?_|refine bAl ?_ _));exact BK362.out) hb)
              have n3_:=aMk (below_step (by repeat (first|(with_reducible first|exact HB.out|apply bwA|apply bwN|apply bw1|refine below_set ?_ GE349.out|refine below_set ?_ GE362.out)|exact HB.out)) hb)
              have n4_:=aMk (hbox)
              have n5_:=aMk ((by rw [hg];exact (below_size (by repeat (first|(with_reducible first|exact HB.out|apply bwA|apply bwN|apply bw1|refine below_set ?_ GE349.out|refine below_set ?_ GE362.out)|exact HB.out))) : w.heap.size ≤ gb370))
              have n6_:=aMk ((by rw [hg];exact (below_size (by repeat (first|(with_reducible first|exact HB.out|apply bwA|apply bwN|apply bw1|refine below_set ?_ GE349.out|refine below_set ?_ GE362.out)|exact HB.out))) : w.heap.size ≤ gb370))
              have n7_:=aMk ((by rw [hg];exact Nat.ne_of_lt (blk_lt (g:=gb349) (o:=.cells #[.int .i64 0,.int .i64 0,.int .i64 0,.int .i64 0,.int .i64 0,.bool false] 33 (0,0)) (by (with_reducible repeat (first|refine bDn ?_ _|refine bDr ?_|refine bAl ?_ _));exact BK349.out)) : gb349 ≠ gb370))
              have n8_:=aMk ((by rw [hg];exact Nat.ne_of_gt (blk_lt (g:=gb349) (o:=.cells #[.int .i64 0,.int .i64 0,.int .i64 0,.int .i64 0,.int .i64 0,.bool false] 33 (0,0)) (by (with_reducible repeat (first|refine bDn ?_ _|refine bDr ?_|refine bAl ?_ _));exact BK349.out)) : gb370 ≠ gb349))
              have n9_:=aMk ((by rw [hg];exact Nat.ne_of_lt (blk_lt (g:=gb362) (o:=.cells #[.int .i64 t359,.int .i64 t360] 30 (0,0)) (by (with_reducible repeat (first|refine bDn ?_ _|refine bDr ?_|refine bAl ?_ _));exact BK362.out)) : gb362 ≠ gb370))
              have n10_:=aMk ((by rw [hg];exact Nat.ne_of_gt (blk_lt (g:=gb362) (o:=.cells #[.int .i64 t359,.int .i64 t360] 30 (0,0)) (by (with_reducible repeat (first|refine bDn ?_ _|refine bDr ?_|refine bAl ?_ _));exact BK362.out)) : gb370 ≠ gb362))
              clear HO_4
              clear BK349
              clear BK362
              clear HB
              have HO_4:=n0_
              have BK349:=n1_
              have BK362:=n2_
              have HB:=n3_
              have BK370:=n4_
              have GW370:=n5_
              have GE370:=n6_
              have NB349_370:=n7_
              have NB370_349:=n8_
              have NB362_370:=n9_
              have NB370_362:=n10_
              clear n0_ n1_ n2_ n3_ n4_ n5_ n6_ n7_ n8_ n9_ n10_
              clear hb hbox hg
              refine hK.out _ _ ⟨(bCe BK362.out 0).trans rfl,(bCe BK362.out 1).trans rfl,HS2_⟩ (fun hHeld => ?_)
              clear hK K
              refine norm_ (a':=?_) ?_ ?_
              rotate_left
              ·show Act.put _ (some 13) _ = _
               simp only [Act.put,List.setIfInBounds_toArray,List.set_cons_zero,List.set_cons_succ,i64_w,i32_w]
               rfl
              refine one_ (i:=11) (N:=none) #[true,true,true,true,true,true,true,true,true,true,true,true] rfl rfl (one_of HT_.out (by kernel_rfl)) (by decide) (fun K hK => ?_)
              have hs85 : w84.cell? ⟨gb370,0,none⟩ = some (.int .i64 0):=(bCe BK370.out 0).trans rfl
              have hfs85:=bFr BK370.out 0
              have hns85_0:=NB349_370.out
              have hns85_1:=NB362_370.out
              have hms85_0:=NB370_349.out
              have hms85_1:=NB370_362.out
              have hs86 : w84.cell? ⟨gb370,1,none⟩ = some (.int .i64 0):=(bCe BK370.out 1).trans rfl
              have hfs86:=bFr BK370.out 1
              have hns86_0:=NB349_370.out
              have hns86_1:=NB362_370.out
              have hms86_0:=NB370_349.out
              have hms86_1:=NB370_362.out
              have hs87 : w84.cell? ⟨gb370,2,none⟩ = some (.int .i64 0):=(bCe BK370.out 2).trans rfl
              have hfs87:=bFr BK370.out 2
              have hns87_0:=NB349_370.out
              have hns87_1:=NB362_370.out
              have hms87_0:=NB370_349.out
              have hms87_1:=NB370_362.out
              have hs88 : w84.cell? ⟨gb370,3,none⟩ = some (.int .i64 0):=(bCe BK370.out 3).trans rfl
              have hfs88:=bFr BK370.out 3
              have hns88_0:=NB349_370.out
              have hns88_1:=NB362_370.out
              have hms88_0:=NB370_349.out
              have hms88_1:=NB370_362.out
              have hs89 : w84.cell? ⟨gb370,4,none⟩ = some (.int .i64 0):=(bCe BK370.out 4).trans rfl
              have hfs89:=bFr BK370.out 4
              have hns89_0:=NB349_370.out
              have hns89_1:=NB362_370.out
              have hms89_0:=NB370_349.out
              have hms89_1:=NB370_362.out
              have hs90 : w84.cell? ⟨gb370,5,none⟩ = some (.bool false):=(bCe BK370.out 5).trans rfl
              have hfs90:=bFr BK370.out 5
              have hns90_0:=NB349_370.out
              have hns90_1:=NB362_370.out
              have hms90_0:=NB370_349.out
              have hms90_1:=NB370_362.out
              refine skip_ (w1:=?_) (by rfl) rfl ?_ ?_
              rotate_left
              ·go_simp
               rfl
              refine hK.out _ _ ⟨((cell_far (p:=⟨gb370,_,none⟩) NB362_370.out _).trans (((cell_far (p:=⟨gb370,_,none⟩) NB362_370.out _).trans (((cell_far (p:=⟨gb370,_,none⟩) NB362_370.out _).trans (((cell_far (p:=⟨gb370,_,none⟩) NB362_370.out _).trans (((cell_far (p:=⟨gb370,_,none⟩) NB362_370.out _).trans (((cell_far (p:=⟨gb370,_,none⟩) NB362_370.out _).trans (hHeld.1)))))))))))),((cell_far (p:=⟨gb370,_,none⟩) NB362_370.out _).trans (((cell_far (p:=⟨gb370,_,none⟩) NB362_370.out _).trans (((cell_far (p:=⟨gb370,_,none⟩) NB362_370.out _).trans (((cell_far (p:=⟨gb370,_,none⟩) NB362_370.out _).trans (((cell_far (p:=⟨gb370,_,none⟩) NB362_370.out _).trans (((cell_far (p:=⟨gb370,_,none⟩) NB362_370.out _).trans (hHeld.2.1)))))))))))),((cell_far (p:=⟨gb370,_,none⟩) (by first|exact Kd.own_blk (Kd.R_ne HO_4.out BK370.out (by decide))|(rw [add_block];exact Kd.own_blk (Kd.R_ne HO_4.out BK370.out (by decide)))|(show (Addr.add _ _).block ≠ _;rw [add_block];exact Kd.own_blk (Kd.R_ne HO_4.out BK370.out (by decide)))|(dsimp only;exact Kd.own_blk (Kd.R_ne HO_4.out BK370.out (by decide)))) _).trans (((cell_far (p:=⟨gb370,_,none⟩) (by first|exact Kd.own_blk (Kd.R_ne HO_4.out BK370.out (by decide))|(rw [add_block];exact Kd.own_blk (Kd.R_ne HO_4.out BK370.out (by decide)))|(show (Addr.add _ _).block ≠ _;rw [add_block];exact Kd.own_blk (Kd.R_ne HO_4.out BK370.out (by decide)))|(dsimp only;exact Kd.own_blk (Kd.R_ne HO_4.out BK370.out (by decide)))) _).trans (((cell_far (p:=⟨gb370,_,none⟩) (by first|exact Kd.own_blk (Kd.R_ne HO_4.out BK370.out (by decide))|(rw [add_block];exact Kd.own_blk (Kd.R_ne HO_4.out BK370.out (by decide)))|(show (Addr.add _ _).block ≠ _;rw [add_block];exact Kd.own_blk (Kd.R_ne HO_4.out BK370.out (by decide)))|(dsimp only;exact Kd.own_blk (Kd.R_ne HO_4.out BK370.out (by decide)))) _).trans (((cell_far (p:=⟨gb370,_,none⟩) (by first|exact Kd.own_blk (Kd.R_ne HO_4.out BK370.out (by decide))|(rw [add_block];exact Kd.own_blk (Kd.R_ne HO_4.out BK370.out (by decide)))|(show (Addr.add _ _).block ≠ _;rw [add_block];exact Kd.own_blk (Kd.R_ne HO_4.out BK370.out (by decide)))|(dsimp only;exact Kd.own_blk (Kd.R_ne HO_4.out BK370.out (by decide)))) _).trans (((cell_far (p:=⟨gb370,_,none⟩) (by first|exact Kd.own_blk (Kd.R_ne HO_4.out BK370.out (by decide))|(rw [add_block];exact Kd.own_blk (Kd.R_ne HO_4.out BK370.out (by decide)))|(show (Addr.add _ _).block ≠ _;rw [add_block];exact Kd.own_blk (Kd.R_ne HO_4.out BK370.out (by decide)))|(dsimp only;exact Kd.own_blk (Kd.R_ne HO_4.out BK370.out (by decide)))) _).trans (((cell_far (p:=⟨gb370,_,none⟩) (by first|exact Kd.own_blk (Kd.R_ne HO_4.out BK370.out (by decide))|(rw [add_block];exact Kd.own_blk (Kd.R_ne HO_4.out BK370.out (by decide)))|(show (Addr.add _ _).block ≠ _;rw [add_block];exact Kd.own_blk (Kd.R_ne HO_4.out BK370.out (by decide)))|(dsimp only;exact Kd.own_blk (Kd.R_ne HO_4.out BK370.out (by decide)))) _).trans (hHeld.2.2))))))))))))⟩ (fun hHeld => ?_)
              clear hK K
              refine done_ (done_of HT_.out (by kernel_rfl)) ?_
              have hnb91:=NB349_370.out
              have hnc91:=NB370_349.out
              have hcz92_0 : w84.cell? ⟨gb349,0,none⟩ = some (.int .i64 0):=(bCe BK349.out 0).trans rfl
              have hcz92_1 : w84.cell? ⟨gb349,1,none⟩ = some (.int .i64 0):=(bCe BK349.out 1).trans rfl
              have hcz92_2 : w84.cell? ⟨gb349,2,none⟩ = some (.int .i64 0):=(bCe BK349.out 2).trans rfl
              have hcz92_3 : w84.cell? ⟨gb349,3,none⟩ = some (.int .i64 0):=(bCe BK349.out 3).trans rfl
              have hcz92_4 : w84.cell? ⟨gb349,4,none⟩ = some (.int .i64 0):=(bCe BK349.out 4).trans rfl
              have hcz92_5 : w84.cell? ⟨gb349,5,none⟩ = some (.bool false):=(bCe BK349.out 5).trans rfl
              have hfz92_0:=bFr BK349.out 0
              have hfz92_1:=bFr BK349.out 1
              have hfz92_2:=bFr BK349.out 2
              have hfz92_3:=bFr BK349.out 3
              have hfz92_4:=bFr BK349.out 4
              have hfz92_5:=bFr BK349.out 5
              try go_wp2
              refine bodyPost_ret (results_ct rfl _ _ gb349 33 #[.int .i64 0,.int .i64 0,.int .i64 0,.int .i64 0,.int .i64 0,.bool false] (0,0) _ rfl (by (with_reducible repeat (first|refine bDn ?_ _|refine bDr ?_|refine bAl ?_ _));refine blk_put (cs:=#[.int .i64 0,.int .i64 0,.int .i64 0,.int .i64 0,.int .i64 0,.bool false]) ?_ 5 _ rfl;(with_reducible repeat (first|refine bDn ?_ _|refine bDr ?_|refine bAl ?_ _));refine blk_put (cs:=#[.int .i64 0,.int .i64 0,.int .i64 0,.int .i64 0,.int .i64 0,.bool false]) ?_ 4 _ rfl;(with_reducible repeat (first|refine bDn ?_ _|refine bDr ?_|refine bAl ?_ _));refine blk_put (cs:=#[.int .i64 0,.int .i64 0,.int .i64 0,.int .i64 0,.int .i64 0,.bool false]) ?_ 3 _ rfl;(with_reducible repeat (first|refine bDn ?_ _|refine bDr ?_|refine bAl ?_ _));refine blk_put (cs:=#[.int .i64 0,.int .i64 0,.int .i64 0,.int .i64 0,.int .i64 0,.bool false]) ?_ 2 _ rfl;(with_reducible repeat (first|refine bDn ?_ _|refine bDr ?_|refine bAl ?_ _));refine blk_put (cs:=#[.int .i64 0,.int .i64 0,.int .i64 0,.int .i64 0,.int .i64 0,.bool false]) ?_ 1 _ rfl;(with_reducible repeat (first|refine bDn ?_ _|refine bDr ?_|refine bAl ?_ _));refine blk_put (cs:=#[.int .i64 0,.int .i64 0,.int .i64 0,.int .i64 0,.int .i64 0,.bool false]) ?_ 0 _ rfl;(with_reducible repeat (first|refine bDn ?_ _|refine bDr ?_|refine bAl ?_ _));refine blk_far ?_ NB349_370.out _;(with_reducible repeat (first|refine bDn ?_ _|refine bDr ?_|refine bAl ?_ _));refine blk_far ?_ NB349_370.out _;(with_reducible repeat (first|refine bDn ?_ _|refine bDr ?_|refine bAl ?_ _));refine blk_far ?_ NB349_370.out _;(with_reducible repeat (first|refine bDn ?_ _|refine bDr ?_|refine bAl ?_ _));refine blk_far ?_ NB349_370.out _;(with_reducible repeat (first|refine bDn ?_ _|refine bDr ?_|refine bAl ?_ _));refine blk_far ?_ NB349_370.out _;(with_reducible repeat (first|refine bDn ?_ _|refine bDr ?_|refine bAl ?_ _));refine blk_far ?_ NB349_370.out _;(with_reducible repeat (first|refine bDn ?_ _|refine bDr ?_|refine bAl ?_ _));exact BK349.out) Tryd.underlying33 rfl (by kernel_rfl)) rfl ?_
              exact ⟨by first | rfl|(simp [errW_none,errW_some] <;> rfl)|(simp [*,errW_none,errW_some] <;> rfl),by repeat (first|(with_reducible first|exact HB.out|apply bwA|apply bwN|apply bw1|refine below_set ?_ GE349.out|refine below_set ?_ GE362.out|refine below_set ?_ GE370.out)|exact HB.out)⟩
            ·replace c28:=Bool.eq_false_iff.mpr c28
             subst c28
             have H1 : (some (0,0,0,0,0,false,3)) = some (r1,r2,r3,r4,r5,r6,r7):=by rw [if_neg (show ¬ (false = true) by decide)] at H;exact H
             clear H
             have H:=H1
             clear H1
             simp only [Option.some.injEq,Prod.mk.injEq] at H
             obtain ⟨rfl,rfl,rfl,rfl,rfl,rfl,rfl⟩:=H
             obtain ⟨Ao93,co93,eo93⟩:=Kd.R_slice HO_4.out
             subst eo93
             have p355 : 0 ≤ (1 : Int):=(by omega)
             have q355 : 1 < (t350.length : Int):=of_decide_eq_true (by first|(with_reducible assumption) | assumption)
             obtain ⟨ad355,e355,hx355_0⟩:=Kd.at_string (Kd.R_reads' HO_4.out).2.2 1 p355 q355
             cases e355
             (try simp only [show (1 : Int).toNat = 1 from rfl,Nat.reduceMul,Nat.reduceEqDiff,Go.Addr.add,↓reduceIte] at hx355_0)
             have qi355 : (1 < t350.length) = True:=eq_true (by omega)
             (try rw [show ((1 : Int)).toNat = 1 from rfl] at hx355_0)
             replace p355:=eq_true p355
             replace q355:=eq_true q355
             try go_wp2_with (first|((with_reducible refine gate_callee (f:=25) rfl ?_);refine goesL_ (some 40) rfl rfl Tryd.func25 (by kernel_rfl) rfl #[.string (rdOf ByteArray.empty t350 1)] rfl (by (try simp only [List.map_toArray,List.map_cons,List.map_nil]);first | done | rfl|(simp only [List.length_drop,List.length_take];rfl)) ?_;(with_reducible refine (impl_readProto.calls kj5 (rdOf ByteArray.empty t350 1) t356 true _ A18.out).mono ?_);rintro e w94 ⟨rfl,hb⟩;refine ⟨_,rfl,?_⟩;have n0_:=aMk (Kd.R_below (by (with_reducible repeat (first|apply Kd.R_alloc|apply Kd.R_drewN|apply Kd.R_drew));exact HO_4.out) hb);have n1_:=aMk (blk_below (g:=gb349) (o:=.cells #[.int .i64 0,.int .i64 0,.int .i64 0,.int .i64 0,.int .i64 0,.bool false] 33 (0,0)) (by (with_reducible repeat (first|refine bDn ?_ _|refine bDr ?_|refine bAl ?_ _));exact BK349.out) hb);have n2_:=aMk (below_step (by repeat (first|(with_reducible first|exact HB.out|apply bwA|apply bwN|apply bw1|refine below_set ?_ GE349.out)|exact HB.out)) hb);clear HO_4;clear BK349;clear HB;have HO_4:=n0_;have BK349:=n1_;have HB:=n2_;clear n0_ n1_ n2_;(try clear hb);(try clear hb2);(try clear hk);(try clear hi);have p358 : 0 ≤ (2 : Int):=(by omega);have q358 : 2 < (t350.length : Int):=of_decide_eq_true (by first|(with_reducible assumption) | assumption);obtain ⟨ad358,e358,hx358_0⟩:=Kd.at_string (Kd.R_reads' HO_4.out).2.2 2 p358 q358;obtain rfl : ad355 = ad358:=(by injection e358);(try simp only [show (2 : Int).toNat = 2 from rfl,Nat.reduceMul,Nat.reduceEqDiff,Go.Addr.add,↓reduceIte] at hx358_0);have qi358 : (2 < t350.length) = True:=eq_true (by omega);(try rw [show ((2 : Int)).toNat = 2 from rfl] at hx358_0);replace p358:=eq_true p358;replace q358:=eq_true q358)|((with_reducible refine gate_callee (f:=26) rfl ?_);refine goesL_ (some 47) rfl rfl Tryd.func26 (by kernel_rfl) rfl #[.string (rdOf ByteArray.empty t350 2)] rfl (by (try simp only [List.map_toArray,List.map_cons,List.map_nil]);first | done | rfl|(simp only [List.length_drop,List.length_take];rfl)) ?_;(with_reducible refine (impl_readNet.calls kj5 (rdOf ByteArray.empty t350 2) t359 t360 true _ ?sideGe ?sideGp A20.out).mono ?_);(case sideGe => exact GLe_below HGe_.out (by repeat (first|(with_reducible first|exact HB.out|apply bwA|apply bwN|apply bw1|refine below_set ?_ (Aside0.out (by assumption)))|exact HB.out)));(case sideGp => exact GLp_below HGp_.out (by repeat (first|(with_reducible first|exact HB.out|apply bwA|apply bwN|apply bw1|refine below_set ?_ (Aside0.out (by assumption)))|exact HB.out)));rintro e w95 ⟨rfl,hb⟩;refine ⟨_,rfl,?_⟩;have n0_:=aMk (Kd.R_below (by (with_reducible repeat (first|apply Kd.R_alloc|apply Kd.R_drewN|apply Kd.R_drew));exact HO_4.out) hb);have n1_:=aMk (blk_below (g:=gb349) (o:=.cells #[.int .i64 0,.int .i64 0,.int .i64 0,.int .i64 0,.int .i64 0,.bool false] 33 (0,0)) (by (with_reducible repeat (first|refine bDn ?_ _|refine bDr ?_|refine bAl ?_ _));exact BK349.out) hb);have n2_:=aMk (below_step (by repeat (first|(with_reducible first|exact HB.out|apply bwA|apply bwN|apply bw1|refine below_set ?_ GE349.out)|exact HB.out)) hb);clear HO_4;clear BK349;clear HB;have HO_4:=n0_;have BK349:=n1_;have HB:=n2_;clear n0_ n1_ n2_;(try clear hb);(try clear hb2);(try clear hk);(try clear hi))|((with_reducible refine gate_dst (N:=7) rfl ?_);refine box_event ?hg (N:=7) ?hd (cs:=#[.int .i64 0,.int .i64 0]) (t:=30) ?hr ?_;(case hd => rfl);(case hg => rfl);(case hr => first|(go_simp;done)|(go_simp;rfl));intro gb362 hg w96 hbox hb;have n0_:=aMk (Kd.R_below (by (with_reducible repeat (first|apply Kd.R_alloc|apply Kd.R_drewN|apply Kd.R_drew));exact HO_4.out) hb);have n1_:=aMk (blk_below (g:=gb349) (o:=.cells #[.int .i64 0,.int .i64 0,.int .i64 0,.int .i64 0,.int .i64 0,.bool false] 33 (0,0)) (by (with_reducible repeat (first|refine bDn ?_ _|refine bDr ?_|refine bAl ?_ _));exact BK349.out) hb);have n2_:=aMk (below_step (by repeat (first|(with_reducible first|exact HB.out|apply bwA|apply bwN|apply bw1|refine below_set ?_ GE349.out)|exact HB.out)) hb);have n3_:=aMk (hbox);have n4_:=aMk ((by rw [hg];exact (below_size (by repeat (first|(with_reducible first|exact HB.out|apply bwA|apply bwN|apply bw1|refine below_set ?_ GE349.out)|exact HB.out))) : w.heap.size ≤ gb362));have n5_:=aMk ((by rw [hg];exact (below_size (by repeat (first|(with_reducible first|exact HB.out|apply bwA|apply bwN|apply bw1|refine below_set ?_ GE349.out)|exact HB.out))) : w.heap.size ≤ gb362));have n6_:=aMk ((by rw [hg];exact Nat.ne_of_lt (blk_lt (g:=gb349) (o:=.cells #[.int .i64 0,.int .i64 0,.int .i64 0,.int .i64 0,.int .i64 0,.bool false] 33 (0,0)) (by (with_reducible repeat (first|refine bDn ?_ _|refine bDr ?_|refine bAl ?_ _));exact BK349.out)) : gb349 ≠ gb362));have n7_:=aMk ((by rw [hg];exact Nat.ne_of_gt (blk_lt (g:=gb349) (o:=.cells #[.int .i64 0,.int .i64 0,.int .i64 0,.int .i64 0,.int .i64 0,.bool false] 33 (0,0)) (by (with_reducible repeat (first|refine bDn ?_ _|refine bDr ?_|refine bAl ?_ _));exact BK349.out)) : gb362 ≠ gb349));clear HO_4;clear BK349;clear HB;have HO_4:=n0_;have BK349:=n1_;have HB:=n2_;have BK362:=n3_;have GW362:=n4_;have GE362:=n5_;have NB349_362:=n6_;have NB362_349:=n7_;clear n0_ n1_ n2_ n3_ n4_ n5_ n6_ n7_;clear hb hbox hg;have hnb97:=NB362_349.out;have hnc97:=NB349_362.out;have hcz98_0 : w96.cell? ⟨gb362,0,none⟩ = some (.int .i64 0):=(bCe BK362.out 0).trans rfl;have hcz98_1 : w96.cell? ⟨gb362,1,none⟩ = some (.int .i64 0):=(bCe BK362.out 1).trans rfl;have hfz98_0:=bFr BK362.out 0;have hfz98_1:=bFr BK362.out 1;have p363 : 0 ≤ (3 : Int):=(by omega);have q363 : 3 < (t350.length : Int):=of_decide_eq_true (by first|(with_reducible assumption) | assumption);obtain ⟨ad363,e363,hx363_0⟩:=Kd.at_string (Kd.R_reads' HO_4.out).2.2 3 p363 q363;obtain rfl : ad355 = ad363:=(by injection e363);(try simp only [show (3 : Int).toNat = 3 from rfl,Nat.reduceMul,Nat.reduceEqDiff,Go.Addr.add,↓reduceIte] at hx363_0);have qi363 : (3 < t350.length) = True:=eq_true (by omega);(try rw [show ((3 : Int)).toNat = 3 from rfl] at hx363_0);have hn363_0 : ad355.block ≠ gb362:=Kd.own_blk (Kd.R_ne HO_4.out BK362.out (by decide));have hn363_1 : ad355.block ≠ gb362:=Kd.own_blk (Kd.R_ne HO_4.out BK362.out (by decide));replace hx363_0:=(cell_far (p:=⟨gb362,0,none⟩) (by first|(rw [add_block];exact hn363_0)|(show (Addr.add _ _).block ≠ _;rw [add_block];exact hn363_0)|exact hn363_0) (.int .i64 t359)).trans hx363_0;replace hx363_0:=(cell_far (p:=⟨gb362,1,none⟩) (by first|(rw [add_block];exact hn363_1)|(show (Addr.add _ _).block ≠ _;rw [add_block];exact hn363_1)|exact hn363_1) (.int .i64 t360)).trans hx363_0;clear hn363_0;clear hn363_1;replace p363:=eq_true p363;replace q363:=eq_true q363)|((with_reducible refine gate_callee (f:=27) rfl ?_);refine goesL_ (some 54) rfl rfl Tryd.func27 (by kernel_rfl) rfl #[.string (rdOf ByteArray.empty t350 3)] rfl (by (try simp only [List.map_toArray,List.map_cons,List.map_nil]);first | done | rfl|(simp only [List.length_drop,List.length_take];rfl)) ?_;(with_reducible refine (impl_number.calls (rdOf ByteArray.empty t350 3) t364 false _ ?sideGe ?sideGp A22.out).mono ?_);(case sideGe => exact GLe_below HGe_.out (by repeat (first|(with_reducible first|exact HB.out|apply bwA|apply bwN|apply bw1|refine below_set ?_ (Aside0.out (by assumption)))|exact HB.out)));(case sideGp => exact GLp_below HGp_.out (by repeat (first|(with_reducible first|exact HB.out|apply bwA|apply bwN|apply bw1|refine below_set ?_ (Aside0.out (by assumption)))|exact HB.out)));rintro e w99 ⟨rfl,hb⟩;refine ⟨_,rfl,?_⟩;have n0_:=aMk (Kd.R_below (by (with_reducible repeat (first|apply Kd.R_alloc|apply Kd.R_drewN|apply Kd.R_drew));exact (Kd.R_mono (Kd.R_far (p:=⟨gb362,1,none⟩) (Kd.R_far (p:=⟨gb362,0,none⟩) (Kd.R_types HO_4.out BK362.out (by decide)) (fun _ hk => hk.2) (.int .i64 t359)) (fun _ hk => hk.2) (.int .i64 t360)) (fun _ h_ => h_.1))) hb);have n1_:=aMk (blk_below (g:=gb349) (o:=.cells #[.int .i64 0,.int .i64 0,.int .i64 0,.int .i64 0,.int .i64 0,.bool false] 33 (0,0)) (by (with_reducible repeat (first|refine bDn ?_ _|refine bDr ?_|refine bAl ?_ _));refine blk_far ?_ NB349_362.out _;(with_reducible repeat (first|refine bDn ?_ _|refine bDr ?_|refine bAl ?_ _));refine blk_far ?_ NB349_362.out _;(with_reducible repeat (first|refine bDn ?_ _|refine bDr ?_|refine bAl ?_ _));exact BK349.out) hb);have n2_:=aMk (blk_below (g:=gb362) (o:=.cells #[.int .i64 t359,.int .i64 t360] 30 (0,0)) (by (with_reducible repeat (first|refine bDn ?_ _|refine bDr ?_|refine bAl ?_ _));refine blk_put (cs:=#[.int .i64 t359,.int .i64 0]) ?_ 1 _ rfl;(with_reducible repeat (first|refine bDn ?_ _|refine bDr ?_|refine bAl ?_ _));refine blk_put (cs:=#[.int .i64 0,.int .i64 0]) ?_ 0 _ rfl;(with_reducible repeat (first|refine bDn ?_ _|refine bDr ?_|refine bAl ?_ _));exact BK362.out) hb);have n3_:=aMk (below_step (by repeat (first|(with_reducible first|exact HB.out|apply bwA|apply bwN|apply bw1|refine below_set ?_ GE349.out|refine below_set ?_ GE362.out)|exact HB.out)) hb);clear HO_4;clear BK349;clear BK362;clear HB;have HO_4:=n0_;have BK349:=n1_;have BK362:=n2_;have HB:=n3_;clear n0_ n1_ n2_ n3_;(try clear hb);(try clear hb2);(try clear hk);(try clear hi);have p366 : 0 ≤ (4 : Int):=(by omega);have q366 : 4 < (t350.length : Int):=of_decide_eq_true (by first|(with_reducible assumption) | assumption);obtain ⟨ad366,e366,hx366_0⟩:=Kd.at_string (Kd.R_reads' HO_4.out).2.2 4 p366 q366;obtain rfl : ad355 = ad366:=(by injection e366);(try simp only [show (4 : Int).toNat = 4 from rfl,Nat.reduceMul,Nat.reduceEqDiff,Go.Addr.add,↓reduceIte] at hx366_0);have qi366 : (4 < t350.length) = True:=eq_true (by omega);(try rw [show ((4 : Int)).toNat = 4 from rfl] at hx366_0);replace p366:=eq_true p366;replace q366:=eq_true q366)|((with_reducible refine gate_callee (f:=27) rfl ?_);refine goesL_ (some 61) rfl rfl Tryd.func27 (by kernel_rfl) rfl #[.string (rdOf ByteArray.empty t350 4)] rfl (by (try simp only [List.map_toArray,List.map_cons,List.map_nil]);first | done | rfl|(simp only [List.length_drop,List.length_take];rfl)) ?_;(with_reducible refine (impl_number.calls (rdOf ByteArray.empty t350 4) t367 t368 _ ?sideGe ?sideGp A24.out).mono ?_);(case sideGe => exact GLe_below HGe_.out (by repeat (first|(with_reducible first|exact HB.out|apply bwA|apply bwN|apply bw1|refine below_set ?_ (Aside0.out (by assumption)))|exact HB.out)));(case sideGp => exact GLp_below HGp_.out (by repeat (first|(with_reducible first|exact HB.out|apply bwA|apply bwN|apply bw1|refine below_set ?_ (Aside0.out (by assumption)))|exact HB.out)));rintro e w100 ⟨rfl,hb⟩;refine ⟨_,rfl,?_⟩;have n0_:=aMk (Kd.R_below (by (with_reducible repeat (first|apply Kd.R_alloc|apply Kd.R_drewN|apply Kd.R_drew));exact HO_4.out) hb);have n1_:=aMk (blk_below (g:=gb349) (o:=.cells #[.int .i64 0,.int .i64 0,.int .i64 0,.int .i64 0,.int .i64 0,.bool false] 33 (0,0)) (by (with_reducible repeat (first|refine bDn ?_ _|refine bDr ?_|refine bAl ?_ _));exact BK349.out) hb);have n2_:=aMk (blk_below (g:=gb362) (o:=.cells #[.int .i64 t359,.int .i64 t360] 30 (0,0)) (by (with_reducible repeat (first|refine bDn ?_ _|refine bDr ?_|refine bAl ?_ _));exact BK362.out) hb);have n3_:=aMk (below_step (by repeat (first|(with_reducible first|exact HB.out|apply bwA|apply bwN|apply bw1|refine below_set ?_ GE349.out|refine below_set ?_ GE362.out)|exact HB.out)) hb);clear HO_4;clear BK349;clear BK362;clear HB;have HO_4:=n0_;have BK349:=n1_;have BK362:=n2_;have HB:=n3_;clear n0_ n1_ n2_ n3_;(try clear hb);(try clear hb2);(try clear hk);(try clear hi)))
             have n0_:=aMk (Kd.R_drew HO_4.out)
             have n1_:=aMk (bDr BK349.out)
             have n2_:=aMk (bDr BK362.out)
             have n3_:=aMk (bw1 HB.out)
             clear HO_4
             clear BK349
             clear BK362
             clear HB
             have HO_4:=n0_
             have BK349:=n1_
             have BK362:=n2_
             have HB:=n3_
             clear n0_ n1_ n2_ n3_
             have p369 : 0 ≤ (0 : Int):=(by omega)
             have q369 : 0 < (t350.length : Int):=of_decide_eq_true (by first|(with_reducible assumption) | assumption)
             obtain ⟨ad369,e369,hx369_0⟩:=Kd.at_string (Kd.R_reads' HO_4.out).2.2 0 p369 q369
             obtain rfl : ad355 = ad369:=(by injection e369)
             have qi369 : (0 < t350.length) = True:=eq_true (by omega)
             (try rw [show ((0 : Int)).toNat = 0 from rfl] at hx369_0)
             (try rw [Addr.add_zero'] at hx369_0)
             replace p369:=eq_true p369
             replace q369:=eq_true q369
             refine start_ (n:=12) (S:=fun w' => w'.cell? ⟨gb362,0,none⟩ = some (.int .i64 t359) ∧ w'.cell? ⟨gb362,1,none⟩ = some (.int .i64 t360) ∧ w'.cell? ad355 = some (.string (rdOf ByteArray.empty t350 0))) (ds:=[]) #[false,false,false,false,false,false,false,false,false,false,false,false] (by kernel_rfl) rfl rfl ⟨(bCe BK362.out 0).trans rfl,(bCe BK362.out 1).trans rfl,hx369_0⟩ (fun hHeld => ?_);refine with_tabW impl_ReadRule.tab10 impl_ReadRule.bits10 (fun HT_ HW_ => ?_)
             generalize w100.drew = w101 at HO_4 BK349 BK362 HB hx369_0 hHeld ⊢
             refine pure_ (i:=0) (N:=some 64) (v:=?_) (a':=?_) #[true,false,false,false,false,false,false,false,false,false,false,false] rfl rfl (any_of HT_.out (by kernel_rfl)) (fun _ _ _ h => h) (Or.inl ⟨by rfl,?_⟩) ?_ ?_
             rotate_left
             ·intro w'
              go_simp
              with_reducible rfl
             rotate_left
             ·simp only [Act.put,List.setIfInBounds_toArray,List.set_cons_zero,List.set_cons_succ,i64_w,i32_w]
              rfl
             refine pure_ (i:=2) (N:=some 66) (v:=?_) (a':=?_) #[true,false,true,false,false,false,false,false,false,false,false,false] rfl rfl (any_of HT_.out (by kernel_rfl)) (fun _ _ _ h => h) (Or.inl ⟨by rfl,?_⟩) ?_ ?_
             rotate_left
             ·intro w'
              go_simp
              with_reducible rfl
             rotate_left
             ·simp only [Act.put,List.setIfInBounds_toArray,List.set_cons_zero,List.set_cons_succ,i64_w,i32_w]
              rfl
             refine pure_ (i:=3) (N:=some 67) (v:=?_) (a':=?_) #[true,false,true,true,false,false,false,false,false,false,false,false] rfl rfl (any_of HT_.out (by kernel_rfl)) (fun _ _ _ h => h) (Or.inl ⟨by rfl,?_⟩) ?_ ?_
             rotate_left
             ·intro w'
              go_simp
              with_reducible rfl
             rotate_left
             ·simp only [Act.put,List.setIfInBounds_toArray,List.set_cons_zero,List.set_cons_succ,i64_w,i32_w]
              rfl
             refine pure_ (i:=4) (N:=some 68) (v:=?_) (a':=?_) #[true,false,true,true,true,false,false,false,false,false,false,false] rfl rfl (any_of HT_.out (by kernel_rfl)) (fun _ _ _ h => h) (Or.inl ⟨by rfl,?_⟩) ?_ ?_
             rotate_left
             ·intro w'
              go_simp
              with_reducible rfl
             rotate_left
             ·simp only [Act.put,List.setIfInBounds_toArray,List.set_cons_zero,List.set_cons_succ,i64_w,i32_w]
              rfl
             refine pure_ (i:=5) (N:=some 69) (v:=?_) (a':=?_) #[true,false,true,true,true,true,false,false,false,false,false,false] rfl rfl (any_of HT_.out (by kernel_rfl)) (fun _ _ _ h => h) (Or.inl ⟨by rfl,?_⟩) ?_ ?_
             rotate_left
             ·intro w'
              go_simp
              with_reducible rfl
             rotate_left
             ·simp only [Act.put,List.setIfInBounds_toArray,List.set_cons_zero,List.set_cons_succ,i64_w,i32_w]
              rfl
             refine pure_ (i:=6) (N:=some 70) (v:=?_) (a':=?_) #[true,false,true,true,true,true,true,false,false,false,false,false] rfl rfl (any_of HT_.out (by kernel_rfl)) (fun _ _ _ h => h) (Or.inl ⟨by rfl,?_⟩) ?_ ?_
             rotate_left
             ·intro w'
              go_simp
              with_reducible rfl
             rotate_left
             ·simp only [Act.put,List.setIfInBounds_toArray,List.set_cons_zero,List.set_cons_succ,i64_w,i32_w]
              rfl
             refine take_ (i:=1) (N:=some 65) (v:=?_) (a':=?_) #[true,true,true,true,true,true,true,false,false,false,false,false] rfl rfl (take_ofW HT_.out HW_.out (by kernel_rfl)) (fun _ _ _ h => h) (Or.inl ⟨by rfl,?_⟩) hHeld ?_ ?_
             rotate_left
             ·rintro w' ⟨s0,s1,s2⟩
              go_simp
              with_reducible rfl
             rotate_left
             ·simp only [Act.put,List.setIfInBounds_toArray,List.set_cons_zero,List.set_cons_succ,i64_w,i32_w]
              rfl
             refine take_ (i:=7) (N:=some 71) (v:=?_) (a':=?_) #[true,true,true,true,true,true,true,true,false,false,false,false] rfl rfl (take_ofW HT_.out HW_.out (by kernel_rfl)) (fun _ _ _ h => h) (Or.inl ⟨by rfl,?_⟩) hHeld ?_ ?_
             rotate_left
             ·rintro w' ⟨s0,s1,s2⟩
              go_simp
              with_reducible rfl
             rotate_left
             ·simp only [Act.put,List.setIfInBounds_toArray,List.set_cons_zero,List.set_cons_succ,i64_w,i32_w]
              rfl
             refine pure_ (i:=8) (N:=some 72) (v:=?_) (a':=?_) #[true,true,true,true,true,true,true,true,true,false,false,false] rfl rfl (any_of HT_.out (by kernel_rfl)) (fun _ _ _ h => h) (Or.inl ⟨by rfl,?_⟩) ?_ ?_
             rotate_left
             ·intro w'
              go_simp
              with_reducible rfl
             rotate_left
             ·simp only [Act.put,List.setIfInBounds_toArray,List.set_cons_zero,List.set_cons_succ,i64_w,i32_w]
              rfl
             refine pure_ (i:=9) (N:=some 73) (v:=?_) (a':=?_) #[true,true,true,true,true,true,true,true,true,true,false,false] rfl rfl (any_of HT_.out (by kernel_rfl)) (fun _ _ _ h => h) (Or.inl ⟨by rfl,?_⟩) ?_ ?_
             rotate_left
             ·intro w'
              go_simp
              with_reducible rfl
             rotate_left
             ·simp only [Act.put,List.setIfInBounds_toArray,List.set_cons_zero,List.set_cons_succ,i64_w,i32_w]
              rfl
             refine one_ (i:=10) (N:=some 13) #[true,true,true,true,true,true,true,true,true,true,true,false] rfl rfl (one_of HT_.out (by kernel_rfl)) (by decide) (fun K hK => ?_)
             refine box_step ?hg (N:=13) ?hd (cs:=#[.int .i64 0,.int .i64 0,.int .i64 0,.int .i64 0,.int .i64 0,.bool false]) (t:=33) ?hr ?_;(case hd => rfl);(case hg => rfl);(case hr => first|(go_simp;done)|(go_simp;rfl))
             intro gb370 hg w102 hbox hb
             have HS2_:=(hb.cell (wLt _ _ (hHeld.2.2))).trans (hHeld.2.2)
             have n0_:=aMk (Kd.R_below (by (with_reducible repeat (first|apply Kd.R_alloc|apply Kd.R_drewN|apply Kd.R_drew));exact HO_4.out) hb)
             have n1_:=aMk (blk_below (g:=gb349) (o:=.cells #[.int .i64 0,.int .i64 0,.int .i64 0,.int .i64 0,.int .i64 0,.bool false] 33 (0,0)) (by (with_reducible repeat (first|refine bDn ?_ _|refine bDr ?_|refine bAl ?_ _));exact BK349.out) hb)
             have n2_:=aMk (blk_below (g:=gb362) (o:=.cells #[.int .i64 t359,.int .i64 t360] 30 (0,0)) (by (with_reducible repeat (first|refine bDn ?_ _|refine bDr ?_|refine bAl ?_ _));exact BK362.out) hb)
             have n3_:=aMk (below_step (by repeat (first|(with_reducible first|exact HB.out|apply bwA|apply bwN|apply bw1|refine below_set ?_ GE349.out|refine below_set ?_ GE362.out)|exact HB.out)) hb)
             have n4_:=aMk (hbox)
             have n5_:=aMk ((by rw [hg];exact (below_size (by repeat (first|(with_reducible first|exact HB.out|apply bwA|apply bwN|apply bw1|refine below_set ?_ GE349.out|refine below_set ?_ GE362.out)|exact HB.out))) : w.heap.size ≤ gb370))
             have n6_:=aMk ((by rw [hg];exact (below_size (by repeat (first|(with_reducible first|exact HB.out|apply bwA|apply bwN|apply bw1|refine below_set ?_ GE349.out|refine below_set ?_ GE362.out)|exact HB.out))) : w.heap.size ≤ gb370))
             have n7_:=aMk ((by rw [hg];exact Nat.ne_of_lt (blk_lt (g:=gb349) (o:=.cells #[.int .i64 0,.int .i64 0,.int .i64 0,.int .i64 0,.int .i64 0,.bool false] 33 (0,0)) (by (with_reducible repeat (first|refine bDn ?_ _|refine bDr ?_|refine bAl ?_ _));exact BK349.out)) : gb349 ≠ gb370))
             have n8_:=aMk ((by rw [hg];exact Nat.ne_of_gt (blk_lt (g:=gb349) (o:=.cells #[.int .i64 0,.int .i64 0,.int .i64 0,.int .i64 0,.int .i64 0,.bool false] 33 (0,0)) (by (with_reducible repeat (first|refine bDn ?_ _|refine bDr ?_|refine bAl ?_ _));exact BK349.out)) : gb370 ≠ gb349))
             have n9_:=aMk ((by rw [hg];exact Nat.ne_of_lt (blk_lt (g:=gb362) (o:=.cells #[.int .i64 t359,.int .i64 t360] 30 (0,0)) (by (with_reducible repeat (first|refine bDn ?_ _|refine bDr ?_|refine bAl ?_ _));exact BK362.out)) : gb362 ≠ gb370))
             have n10_:=aMk ((by rw [hg];exact Nat.ne_of_gt (blk_lt (g:=gb362) (o:=.cells #[.int .i64 t359,.int .i64 t360] 30 (0,0)) (by (with_reducible repeat (first|refine bDn ?_ _|refine bDr ?_|refine bAl ?_ _));exact BK362.out)) : gb370 ≠ gb362))
             clear HO_4
             clear BK349
             clear BK362
             clear HB
             have HO_4:=n0_
             have BK349:=n1_
             have BK362:=n2_
             have HB:=n3_
             have BK370:=n4_
             have GW370:=n5_
             have GE370:=n6_
             have NB349_370:=n7_
             have NB370_349:=n8_
             have NB362_370:=n9_
             have NB370_362:=n10_
             clear n0_ n1_ n2_ n3_ n4_ n5_ n6_ n7_ n8_ n9_ n10_
             clear hb hbox hg
             refine hK.out _ _ ⟨(bCe BK362.out 0).trans rfl,(bCe BK362.out 1).trans rfl,HS2_⟩ (fun hHeld => ?_)
             clear hK K
             refine norm_ (a':=?_) ?_ ?_
             rotate_left
             ·show Act.put _ (some 13) _ = _
              simp only [Act.put,List.setIfInBounds_toArray,List.set_cons_zero,List.set_cons_succ,i64_w,i32_w]
              rfl
             refine one_ (i:=11) (N:=none) #[true,true,true,true,true,true,true,true,true,true,true,true] rfl rfl (one_of HT_.out (by kernel_rfl)) (by decide) (fun K hK => ?_)
             have hs103 : w102.cell? ⟨gb370,0,none⟩ = some (.int .i64 0):=(bCe BK370.out 0).trans rfl
             have hfs103:=bFr BK370.out 0
             have hns103_0:=NB349_370.out
             have hns103_1:=NB362_370.out
             have hms103_0:=NB370_349.out
             have hms103_1:=NB370_362.out
             have hs104 : w102.cell? ⟨gb370,1,none⟩ = some (.int .i64 0):=(bCe BK370.out 1).trans rfl
             have hfs104:=bFr BK370.out 1
             have hns104_0:=NB349_370.out
             have hns104_1:=NB362_370.out
             have hms104_0:=NB370_349.out
             have hms104_1:=NB370_362.out
             have hs105 : w102.cell? ⟨gb370,2,none⟩ = some (.int .i64 0):=(bCe BK370.out 2).trans rfl
             have hfs105:=bFr BK370.out 2
             have hns105_0:=NB349_370.out
             have hns105_1:=NB362_370.out
             have hms105_0:=NB370_349.out
             have hms105_1:=NB370_362.out
             have hs106 : w102.cell? ⟨gb370,3,none⟩ = some (.int .i64 0):=(bCe BK370.out 3).trans rfl
             have hfs106:=bFr BK370.out 3
             have hns106_0:=NB349_370.out
             have hns106_1:=NB362_370.out
             have hms106_0:=NB370_349.out
             have hms106_1:=NB370_362.out
             have hs107 : w102.cell? ⟨gb370,4,none⟩ = some (.int .i64 0):=(bCe BK370.out 4).trans rfl
             have hfs107:=bFr BK370.out 4
             have hns107_0:=NB349_370.out
             have hns107_1:=NB362_370.out
             have hms107_0:=NB370_349.out
             have hms107_1:=NB370_362.out
             have hs108 : w102.cell? ⟨gb370,5,none⟩ = some (.bool false):=(bCe BK370.out 5).trans rfl
             have hfs108:=bFr BK370.out 5
             have hns108_0:=NB349_370.out
             have hns108_1:=NB362_370.out
             have hms108_0:=NB370_349.out
             have hms108_1:=NB370_362.out
             refine skip_ (w1:=?_) (by rfl) rfl ?_ ?_
             rotate_left
             ·go_simp
              rfl
             refine hK.out _ _ ⟨((cell_far (p:=⟨gb370,_,none⟩) NB362_370.out _).trans (((cell_far (p:=⟨gb370,_,none⟩) NB362_370.out _).trans (((cell_far (p:=⟨gb370,_,none⟩) NB362_370.out _).trans (((cell_far (p:=⟨gb370,_,none⟩) NB362_370.out _).trans (((cell_far (p:=⟨gb370,_,none⟩) NB362_370.out _).trans (((cell_far (p:=⟨gb370,_,none⟩) NB362_370.out _).trans (hHeld.1)))))))))))),((cell_far (p:=⟨gb370,_,none⟩) NB362_370.out _).trans (((cell_far (p:=⟨gb370,_,none⟩) NB362_370.out _).trans (((cell_far (p:=⟨gb370,_,none⟩) NB362_370.out _).trans (((cell_far (p:=⟨gb370,_,none⟩) NB362_370.out _).trans (((cell_far (p:=⟨gb370,_,none⟩) NB362_370.out _).trans (((cell_far (p:=⟨gb370,_,none⟩) NB362_370.out _).trans (hHeld.2.1)))))))))))),((cell_far (p:=⟨gb370,_,none⟩) (by first|exact Kd.own_blk (Kd.R_ne HO_4.out BK370.out (by decide))|(rw [add_block];exact Kd.own_blk (Kd.R_ne HO_4.out BK370.out (by decide)))|(show (Addr.add _ _).block ≠ _;rw [add_block];exact Kd.own_blk (Kd.R_ne HO_4.out BK370.out (by decide)))|(dsimp only;exact Kd.own_blk (Kd.R_ne HO_4.out BK370.out (by decide)))) _).trans (((cell_far (p:=⟨gb370,_,none⟩) (by first|exact Kd.own_blk (Kd.R_ne HO_4.out BK370.out (by decide))|(rw [add_block];exact Kd.own_blk (Kd.R_ne HO_4.out BK370.out (by decide)))|(show (Addr.add _ _).block ≠ _;rw [add_block];exact Kd.own_blk (Kd.R_ne HO_4.out BK370.out (by decide)))|(dsimp only;exact Kd.own_blk (Kd.R_ne HO_4.out BK370.out (by decide)))) _).trans (((cell_far (p:=⟨gb370,_,none⟩) (by first|exact Kd.own_blk (Kd.R_ne HO_4.out BK370.out (by decide))|(rw [add_block];exact Kd.own_blk (Kd.R_ne HO_4.out BK370.out (by decide)))|(show (Addr.add _ _).block ≠ _;rw [add_block];exact Kd.own_blk (Kd.R_ne HO_4.out BK370.out (by decide)))|(dsimp only;exact Kd.own_blk (Kd.R_ne HO_4.out BK370.out (by decide)))) _).trans (((cell_far (p:=⟨gb370,_,none⟩) (by first|exact Kd.own_blk (Kd.R_ne HO_4.out BK370.out (by decide))|(rw [add_block];exact Kd.own_blk (Kd.R_ne HO_4.out BK370.out (by decide)))|(show (Addr.add _ _).block ≠ _;rw [add_block];exact Kd.own_blk (Kd.R_ne HO_4.out BK370.out (by decide)))|(dsimp only;exact Kd.own_blk (Kd.R_ne HO_4.out BK370.out (by decide)))) _).trans (((cell_far (p:=⟨gb370,_,none⟩) (by first|exact Kd.own_blk (Kd.R_ne HO_4.out BK370.out (by decide))|(rw [add_block];exact Kd.own_blk (Kd.R_ne HO_4.out BK370.out (by decide)))|(show (Addr.add _ _).block ≠ _;rw [add_block];exact Kd.own_blk (Kd.R_ne HO_4.out BK370.out (by decide)))|(dsimp only;exact Kd.own_blk (Kd.R_ne HO_4.out BK370.out (by decide)))) _).trans (((cell_far (p:=⟨gb370,_,none⟩) (by first|exact Kd.own_blk (Kd.R_ne HO_4.out BK370.out (by decide))|(rw [add_block];exact Kd.own_blk (Kd.R_ne HO_4.out BK370.out (by decide)))|(show (Addr.add _ _).block ≠ _;rw [add_block];exact Kd.own_blk (Kd.R_ne HO_4.out BK370.out (by decide)))|(dsimp only;exact Kd.own_blk (Kd.R_ne HO_4.out BK370.out (by decide)))) _).trans (hHeld.2.2))))))))))))⟩ (fun hHeld => ?_)
             clear hK K
             refine done_ (done_of HT_.out (by kernel_rfl)) ?_
             have hnb109:=NB349_370.out
             have hnc109:=NB370_349.out
             have hcz110_0 : w102.cell? ⟨gb349,0,none⟩ = some (.int .i64 0):=(bCe BK349.out 0).trans rfl
             have hcz110_1 : w102.cell? ⟨gb349,1,none⟩ = some (.int .i64 0):=(bCe BK349.out 1).trans rfl
             have hcz110_2 : w102.cell? ⟨gb349,2,none⟩ = some (.int .i64 0):=(bCe BK349.out 2).trans rfl
             have hcz110_3 : w102.cell? ⟨gb349,3,none⟩ = some (.int .i64 0):=(bCe BK349.out 3).trans rfl
             have hcz110_4 : w102.cell? ⟨gb349,4,none⟩ = some (.int .i64 0):=(bCe BK349.out 4).trans rfl
             have hcz110_5 : w102.cell? ⟨gb349,5,none⟩ = some (.bool false):=(bCe BK349.out 5).trans rfl
             have hfz110_0:=bFr BK349.out 0
             have hfz110_1:=bFr BK349.out 1
             have hfz110_2:=bFr BK349.out 2
             have hfz110_3:=bFr BK349.out 3
             have hfz110_4:=bFr BK349.out 4
             have hfz110_5:=bFr BK349.out 5
             try go_wp2
             refine bodyPost_ret (results_ct rfl _ _ gb349 33 #[.int .i64 0,.int .i64 0,.int .i64 0,.int .i64 0,.int .i64 0,.bool false] (0,0) _ rfl (by (with_reducible repeat (first|refine bDn ?_ _|refine bDr ?_|refine bAl ?_ _));refine blk_put (cs:=#[.int .i64 0,.int .i64 0,.int .i64 0,.int .i64 0,.int .i64 0,.bool false]) ?_ 5 _ rfl;(with_reducible repeat (first|refine bDn ?_ _|refine bDr ?_|refine bAl ?_ _));refine blk_put (cs:=#[.int .i64 0,.int .i64 0,.int .i64 0,.int .i64 0,.int .i64 0,.bool false]) ?_ 4 _ rfl;(with_reducible repeat (first|refine bDn ?_ _|refine bDr ?_|refine bAl ?_ _));refine blk_put (cs:=#[.int .i64 0,.int .i64 0,.int .i64 0,.int .i64 0,.int .i64 0,.bool false]) ?_ 3 _ rfl;(with_reducible repeat (first|refine bDn ?_ _|refine bDr ?_|refine bAl ?_ _));refine blk_put (cs:=#[.int .i64 0,.int .i64 0,.int .i64 0,.int .i64 0,.int .i64 0,.bool false]) ?_ 2 _ rfl;(with_reducible repeat (first|refine bDn ?_ _|refine bDr ?_|refine bAl ?_ _));refine blk_put (cs:=#[.int .i64 0,.int .i64 0,.int .i64 0,.int .i64 0,.int .i64 0,.bool false]) ?_ 1 _ rfl;(with_reducible repeat (first|refine bDn ?_ _|refine bDr ?_|refine bAl ?_ _));refine blk_put (cs:=#[.int .i64 0,.int .i64 0,.int .i64 0,.int .i64 0,.int .i64 0,.bool false]) ?_ 0 _ rfl;(with_reducible repeat (first|refine bDn ?_ _|refine bDr ?_|refine bAl ?_ _));refine blk_far ?_ NB349_370.out _;(with_reducible repeat (first|refine bDn ?_ _|refine bDr ?_|refine bAl ?_ _));refine blk_far ?_ NB349_370.out _;(with_reducible repeat (first|refine bDn ?_ _|refine bDr ?_|refine bAl ?_ _));refine blk_far ?_ NB349_370.out _;(with_reducible repeat (first|refine bDn ?_ _|refine bDr ?_|refine bAl ?_ _));refine blk_far ?_ NB349_370.out _;(with_reducible repeat (first|refine bDn ?_ _|refine bDr ?_|refine bAl ?_ _));refine blk_far ?_ NB349_370.out _;(with_reducible repeat (first|refine bDn ?_ _|refine bDr ?_|refine bAl ?_ _));refine blk_far ?_ NB349_370.out _;(with_reducible repeat (first|refine bDn ?_ _|refine bDr ?_|refine bAl ?_ _));exact BK349.out) Tryd.underlying33 rfl (by kernel_rfl)) rfl ?_
             exact ⟨by first | rfl|(simp [errW_none,errW_some] <;> rfl)|(simp [*,errW_none,errW_some] <;> rfl),by repeat (first|(with_reducible first|exact HB.out|apply bwA|apply bwN|apply bw1|refine below_set ?_ GE349.out|refine below_set ?_ GE362.out|refine below_set ?_ GE370.out)|exact HB.out)⟩
           ·replace c27:=Bool.eq_false_iff.mpr c27
            subst c27
            have H1 : (some (0,0,0,0,0,false,3)) = some (r1,r2,r3,r4,r5,r6,r7):=by rw [if_neg (show ¬ (false = true) by decide)] at H;exact H
            clear H
            have H:=H1
            clear H1
            simp only [Option.some.injEq,Prod.mk.injEq] at H
            obtain ⟨rfl,rfl,rfl,rfl,rfl,rfl,rfl⟩:=H
            obtain ⟨Ao111,co111,eo111⟩:=Kd.R_slice HO_4.out
            subst eo111
            have p355 : 0 ≤ (1 : Int):=(by omega)
            have q355 : 1 < (t350.length : Int):=of_decide_eq_true (by first|(with_reducible assumption) | assumption)
            obtain ⟨ad355,e355,hx355_0⟩:=Kd.at_string (Kd.R_reads' HO_4.out).2.2 1 p355 q355
            cases e355
            (try simp only [show (1 : Int).toNat = 1 from rfl,Nat.reduceMul,Nat.reduceEqDiff,Go.Addr.add,↓reduceIte] at hx355_0)
            have qi355 : (1 < t350.length) = True:=eq_true (by omega)
            (try rw [show ((1 : Int)).toNat = 1 from rfl] at hx355_0)
            replace p355:=eq_true p355
            replace q355:=eq_true q355
            try go_wp2_with (first|((with_reducible refine gate_callee (f:=25) rfl ?_);refine goesL_ (some 40) rfl rfl Tryd.func25 (by kernel_rfl) rfl #[.string (rdOf ByteArray.empty t350 1)] rfl (by (try simp only [List.map_toArray,List.map_cons,List.map_nil]);first | done | rfl|(simp only [List.length_drop,List.length_take];rfl)) ?_;(with_reducible refine (impl_readProto.calls kj5 (rdOf ByteArray.empty t350 1) t356 true _ A18.out).mono ?_);rintro e w112 ⟨rfl,hb⟩;refine ⟨_,rfl,?_⟩;have n0_:=aMk (Kd.R_below (by (with_reducible repeat (first|apply Kd.R_alloc|apply Kd.R_drewN|apply Kd.R_drew));exact HO_4.out) hb);have n1_:=aMk (blk_below (g:=gb349) (o:=.cells #[.int .i64 0,.int .i64 0,.int .i64 0,.int .i64 0,.int .i64 0,.bool false] 33 (0,0)) (by (with_reducible repeat (first|refine bDn ?_ _|refine bDr ?_|refine bAl ?_ _));exact BK349.out) hb);have n2_:=aMk (below_step (by repeat (first|(with_reducible first|exact HB.out|apply bwA|apply bwN|apply bw1|refine below_set ?_ GE349.out)|exact HB.out)) hb);clear HO_4;clear BK349;clear HB;have HO_4:=n0_;have BK349:=n1_;have HB:=n2_;clear n0_ n1_ n2_;(try clear hb);(try clear hb2);(try clear hk);(try clear hi);have p358 : 0 ≤ (2 : Int):=(by omega);have q358 : 2 < (t350.length : Int):=of_decide_eq_true (by first|(with_reducible assumption) | assumption);obtain ⟨ad358,e358,hx358_0⟩:=Kd.at_string (Kd.R_reads' HO_4.out).2.2 2 p358 q358;obtain rfl : ad355 = ad358:=(by injection e358);(try simp only [show (2 : Int).toNat = 2 from rfl,Nat.reduceMul,Nat.reduceEqDiff,Go.Addr.add,↓reduceIte] at hx358_0);have qi358 : (2 < t350.length) = True:=eq_true (by omega);(try rw [show ((2 : Int)).toNat = 2 from rfl] at hx358_0);replace p358:=eq_true p358;replace q358:=eq_true q358)|((with_reducible refine gate_callee (f:=26) rfl ?_);refine goesL_ (some 47) rfl rfl Tryd.func26 (by kernel_rfl) rfl #[.string (rdOf ByteArray.empty t350 2)] rfl (by (try simp only [List.map_toArray,List.map_cons,List.map_nil]);first | done | rfl|(simp only [List.length_drop,List.length_take];rfl)) ?_;(with_reducible refine (impl_readNet.calls kj5 (rdOf ByteArray.empty t350 2) t359 t360 false _ ?sideGe ?sideGp A20.out).mono ?_);(case sideGe => exact GLe_below HGe_.out (by repeat (first|(with_reducible first|exact HB.out|apply bwA|apply bwN|apply bw1|refine below_set ?_ (Aside0.out (by assumption)))|exact HB.out)));(case sideGp => exact GLp_below HGp_.out (by repeat (first|(with_reducible first|exact HB.out|apply bwA|apply bwN|apply bw1|refine below_set ?_ (Aside0.out (by assumption)))|exact HB.out)));rintro e w113 ⟨rfl,hb⟩;refine ⟨_,rfl,?_⟩;have n0_:=aMk (Kd.R_below (by (with_reducible repeat (first|apply Kd.R_alloc|apply Kd.R_drewN|apply Kd.R_drew));exact HO_4.out) hb);have n1_:=aMk (blk_below (g:=gb349) (o:=.cells #[.int .i64 0,.int .i64 0,.int .i64 0,.int .i64 0,.int .i64 0,.bool false] 33 (0,0)) (by (with_reducible repeat (first|refine bDn ?_ _|refine bDr ?_|refine bAl ?_ _));exact BK349.out) hb);have n2_:=aMk (below_step (by repeat (first|(with_reducible first|exact HB.out|apply bwA|apply bwN|apply bw1|refine below_set ?_ GE349.out)|exact HB.out)) hb);clear HO_4;clear BK349;clear HB;have HO_4:=n0_;have BK349:=n1_;have HB:=n2_;clear n0_ n1_ n2_;(try clear hb);(try clear hb2);(try clear hk);(try clear hi))|((with_reducible refine gate_dst (N:=7) rfl ?_);refine box_event ?hg (N:=7) ?hd (cs:=#[.int .i64 0,.int .i64 0]) (t:=30) ?hr ?_;(case hd => rfl);(case hg => rfl);(case hr => first|(go_simp;done)|(go_simp;rfl));intro gb362 hg w114 hbox hb;have n0_:=aMk (Kd.R_below (by (with_reducible repeat (first|apply Kd.R_alloc|apply Kd.R_drewN|apply Kd.R_drew));exact HO_4.out) hb);have n1_:=aMk (blk_below (g:=gb349) (o:=.cells #[.int .i64 0,.int .i64 0,.int .i64 0,.int .i64 0,.int .i64 0,.bool false] 33 (0,0)) (by (with_reducible repeat (first|refine bDn ?_ _|refine bDr ?_|refine bAl ?_ _));exact BK349.out) hb);have n2_:=aMk (below_step (by repeat (first|(with_reducible first|exact HB.out|apply bwA|apply bwN|apply bw1|refine below_set ?_ GE349.out)|exact HB.out)) hb);have n3_:=aMk (hbox);have n4_:=aMk ((by rw [hg];exact (below_size (by repeat (first|(with_reducible first|exact HB.out|apply bwA|apply bwN|apply bw1|refine below_set ?_ GE349.out)|exact HB.out))) : w.heap.size ≤ gb362));have n5_:=aMk ((by rw [hg];exact (below_size (by repeat (first|(with_reducible first|exact HB.out|apply bwA|apply bwN|apply bw1|refine below_set ?_ GE349.out)|exact HB.out))) : w.heap.size ≤ gb362));have n6_:=aMk ((by rw [hg];exact Nat.ne_of_lt (blk_lt (g:=gb349) (o:=.cells #[.int .i64 0,.int .i64 0,.int .i64 0,.int .i64 0,.int .i64 0,.bool false] 33 (0,0)) (by (with_reducible repeat (first|refine bDn ?_ _|refine bDr ?_|refine bAl ?_ _));exact BK349.out)) : gb349 ≠ gb362));have n7_:=aMk ((by rw [hg];exact Nat.ne_of_gt (blk_lt (g:=gb349) (o:=.cells #[.int .i64 0,.int .i64 0,.int .i64 0,.int .i64 0,.int .i64 0,.bool false] 33 (0,0)) (by (with_reducible repeat (first|refine bDn ?_ _|refine bDr ?_|refine bAl ?_ _));exact BK349.out)) : gb362 ≠ gb349));clear HO_4;clear BK349;clear HB;have HO_4:=n0_;have BK349:=n1_;have HB:=n2_;have BK362:=n3_;have GW362:=n4_;have GE362:=n5_;have NB349_362:=n6_;have NB362_349:=n7_;clear n0_ n1_ n2_ n3_ n4_ n5_ n6_ n7_;clear hb hbox hg;have hnb115:=NB362_349.out;have hnc115:=NB349_362.out;have hcz116_0 : w114.cell? ⟨gb362,0,none⟩ = some (.int .i64 0):=(bCe BK362.out 0).trans rfl;have hcz116_1 : w114.cell? ⟨gb362,1,none⟩ = some (.int .i64 0):=(bCe BK362.out 1).trans rfl;have hfz116_0:=bFr BK362.out 0;have hfz116_1:=bFr BK362.out 1;have p363 : 0 ≤ (3 : Int):=(by omega);have q363 : 3 < (t350.length : Int):=of_decide_eq_true (by first|(with_reducible assumption) | assumption);obtain ⟨ad363,e363,hx363_0⟩:=Kd.at_string (Kd.R_reads' HO_4.out).2.2 3 p363 q363;obtain rfl : ad355 = ad363:=(by injection e363);(try simp only [show (3 : Int).toNat = 3 from rfl,Nat.reduceMul,Nat.reduceEqDiff,Go.Addr.add,↓reduceIte] at hx363_0);have qi363 : (3 < t350.length) = True:=eq_true (by omega);(try rw [show ((3 : Int)).toNat = 3 from rfl] at hx363_0);have hn363_0 : ad355.block ≠ gb362:=Kd.own_blk (Kd.R_ne HO_4.out BK362.out (by decide));have hn363_1 : ad355.block ≠ gb362:=Kd.own_blk (Kd.R_ne HO_4.out BK362.out (by decide));replace hx363_0:=(cell_far (p:=⟨gb362,0,none⟩) (by first|(rw [add_block];exact hn363_0)|(show (Addr.add _ _).block ≠ _;rw [add_block];exact hn363_0)|exact hn363_0) (.int .i64 t359)).trans hx363_0;replace hx363_0:=(cell_far (p:=⟨gb362,1,none⟩) (by first|(rw [add_block];exact hn363_1)|(show (Addr.add _ _).block ≠ _;rw [add_block];exact hn363_1)|exact hn363_1) (.int .i64 t360)).trans hx363_0;clear hn363_0;clear hn363_1;replace p363:=eq_true p363;replace q363:=eq_true q363)|((with_reducible refine gate_callee (f:=27) rfl ?_);refine goesL_ (some 54) rfl rfl Tryd.func27 (by kernel_rfl) rfl #[.string (rdOf ByteArray.empty t350 3)] rfl (by (try simp only [List.map_toArray,List.map_cons,List.map_nil]);first | done | rfl|(simp only [List.length_drop,List.length_take];rfl)) ?_;(with_reducible refine (impl_number.calls (rdOf ByteArray.empty t350 3) t364 t365 _ ?sideGe ?sideGp A22.out).mono ?_);(case sideGe => exact GLe_below HGe_.out (by repeat (first|(with_reducible first|exact HB.out|apply bwA|apply bwN|apply bw1|refine below_set ?_ (Aside0.out (by assumption)))|exact HB.out)));(case sideGp => exact GLp_below HGp_.out (by repeat (first|(with_reducible first|exact HB.out|apply bwA|apply bwN|apply bw1|refine below_set ?_ (Aside0.out (by assumption)))|exact HB.out)));rintro e w117 ⟨rfl,hb⟩;refine ⟨_,rfl,?_⟩;have n0_:=aMk (Kd.R_below (by (with_reducible repeat (first|apply Kd.R_alloc|apply Kd.R_drewN|apply Kd.R_drew));exact (Kd.R_mono (Kd.R_far (p:=⟨gb362,1,none⟩) (Kd.R_far (p:=⟨gb362,0,none⟩) (Kd.R_types HO_4.out BK362.out (by decide)) (fun _ hk => hk.2) (.int .i64 t359)) (fun _ hk => hk.2) (.int .i64 t360)) (fun _ h_ => h_.1))) hb);have n1_:=aMk (blk_below (g:=gb349) (o:=.cells #[.int .i64 0,.int .i64 0,.int .i64 0,.int .i64 0,.int .i64 0,.bool false] 33 (0,0)) (by (with_reducible repeat (first|refine bDn ?_ _|refine bDr ?_|refine bAl ?_ _));refine blk_far ?_ NB349_362.out _;(with_reducible repeat (first|refine bDn ?_ _|refine bDr ?_|refine bAl ?_ _));refine blk_far ?_ NB349_362.out _;(with_reducible repeat (first|refine bDn ?_ _|refine bDr ?_|refine bAl ?_ _));exact BK349.out) hb);have n2_:=aMk (blk_below (g:=gb362) (o:=.cells #[.int .i64 t359,.int .i64 t360] 30 (0,0)) (by (with_reducible repeat (first|refine bDn ?_ _|refine bDr ?_|refine bAl ?_ _));refine blk_put (cs:=#[.int .i64 t359,.int .i64 0]) ?_ 1 _ rfl;(with_reducible repeat (first|refine bDn ?_ _|refine bDr ?_|refine bAl ?_ _));refine blk_put (cs:=#[.int .i64 0,.int .i64 0]) ?_ 0 _ rfl;(with_reducible repeat (first|refine bDn ?_ _|refine bDr ?_|refine bAl ?_ _));exact BK362.out) hb);have n3_:=aMk (below_step (by repeat (first|(with_reducible first|exact HB.out|apply bwA|apply bwN|apply bw1|refine below_set ?_ GE349.out|refine below_set ?_ GE362.out)|exact HB.out)) hb);clear HO_4;clear BK349;clear BK362;clear HB;have HO_4:=n0_;have BK349:=n1_;have BK362:=n2_;have HB:=n3_;clear n0_ n1_ n2_ n3_;(try clear hb);(try clear hb2);(try clear hk);(try clear hi);have p366 : 0 ≤ (4 : Int):=(by omega);have q366 : 4 < (t350.length : Int):=of_decide_eq_true (by first|(with_reducible assumption) | assumption);obtain ⟨ad366,e366,hx366_0⟩:=Kd.at_string (Kd.R_reads' HO_4.out).2.2 4 p366 q366;obtain rfl : ad355 = ad366:=(by injection e366);(try simp only [show (4 : Int).toNat = 4 from rfl,Nat.reduceMul,Nat.reduceEqDiff,Go.Addr.add,↓reduceIte] at hx366_0);have qi366 : (4 < t350.length) = True:=eq_true (by omega);(try rw [show ((4 : Int)).toNat = 4 from rfl] at hx366_0);replace p366:=eq_true p366;replace q366:=eq_true q366)|((with_reducible refine gate_callee (f:=27) rfl ?_);refine goesL_ (some 61) rfl rfl Tryd.func27 (by kernel_rfl) rfl #[.string (rdOf ByteArray.empty t350 4)] rfl (by (try simp only [List.map_toArray,List.map_cons,List.map_nil]);first | done | rfl|(simp only [List.length_drop,List.length_take];rfl)) ?_;(with_reducible refine (impl_number.calls (rdOf ByteArray.empty t350 4) t367 t368 _ ?sideGe ?sideGp A24.out).mono ?_);(case sideGe => exact GLe_below HGe_.out (by repeat (first|(with_reducible first|exact HB.out|apply bwA|apply bwN|apply bw1|refine below_set ?_ (Aside0.out (by assumption)))|exact HB.out)));(case sideGp => exact GLp_below HGp_.out (by repeat (first|(with_reducible first|exact HB.out|apply bwA|apply bwN|apply bw1|refine below_set ?_ (Aside0.out (by assumption)))|exact HB.out)));rintro e w118 ⟨rfl,hb⟩;refine ⟨_,rfl,?_⟩;have n0_:=aMk (Kd.R_below (by (with_reducible repeat (first|apply Kd.R_alloc|apply Kd.R_drewN|apply Kd.R_drew));exact HO_4.out) hb);have n1_:=aMk (blk_below (g:=gb349) (o:=.cells #[.int .i64 0,.int .i64 0,.int .i64 0,.int .i64 0,.int .i64 0,.bool false] 33 (0,0)) (by (with_reducible repeat (first|refine bDn ?_ _|refine bDr ?_|refine bAl ?_ _));exact BK349.out) hb);have n2_:=aMk (blk_below (g:=gb362) (o:=.cells #[.int .i64 t359,.int .i64 t360] 30 (0,0)) (by (with_reducible repeat (first|refine bDn ?_ _|refine bDr ?_|refine bAl ?_ _));exact BK362.out) hb);have n3_:=aMk (below_step (by repeat (first|(with_reducible first|exact HB.out|apply bwA|apply bwN|apply bw1|refine below_set ?_ GE349.out|refine below_set ?_ GE362.out)|exact HB.out)) hb);clear HO_4;clear BK349;clear BK362;clear HB;have HO_4:=n0_;have BK349:=n1_;have BK362:=n2_;have HB:=n3_;clear n0_ n1_ n2_ n3_;(try clear hb);(try clear hb2);(try clear hk);(try clear hi)))
            have n0_:=aMk (Kd.R_drew HO_4.out)
            have n1_:=aMk (bDr BK349.out)
            have n2_:=aMk (bDr BK362.out)
            have n3_:=aMk (bw1 HB.out)
            clear HO_4
            clear BK349
            clear BK362
            clear HB
            have HO_4:=n0_
            have BK349:=n1_
            have BK362:=n2_
            have HB:=n3_
            clear n0_ n1_ n2_ n3_
            have p369 : 0 ≤ (0 : Int):=(by omega)
            have q369 : 0 < (t350.length : Int):=of_decide_eq_true (by first|(with_reducible assumption) | assumption)
            obtain ⟨ad369,e369,hx369_0⟩:=Kd.at_string (Kd.R_reads' HO_4.out).2.2 0 p369 q369
            obtain rfl : ad355 = ad369:=(by injection e369)
            have qi369 : (0 < t350.length) = True:=eq_true (by omega)
            (try rw [show ((0 : Int)).toNat = 0 from rfl] at hx369_0)
            (try rw [Addr.add_zero'] at hx369_0)
            replace p369:=eq_true p369
            replace q369:=eq_true q369
            refine start_ (n:=12) (S:=fun w' => w'.cell? ⟨gb362,0,none⟩ = some (.int .i64 t359) ∧ w'.cell? ⟨gb362,1,none⟩ = some (.int .i64 t360) ∧ w'.cell? ad355 = some (.string (rdOf ByteArray.empty t350 0))) (ds:=[]) #[false,false,false,false,false,false,false,false,false,false,false,false] (by kernel_rfl) rfl rfl ⟨(bCe BK362.out 0).trans rfl,(bCe BK362.out 1).trans rfl,hx369_0⟩ (fun hHeld => ?_);refine with_tabW impl_ReadRule.tab10 impl_ReadRule.bits10 (fun HT_ HW_ => ?_)
            generalize w118.drew = w119 at HO_4 BK349 BK362 HB hx369_0 hHeld ⊢
            refine pure_ (i:=0) (N:=some 64) (v:=?_) (a':=?_) #[true,false,false,false,false,false,false,false,false,false,false,false] rfl rfl (any_of HT_.out (by kernel_rfl)) (fun _ _ _ h => h) (Or.inl ⟨by rfl,?_⟩) ?_ ?_
            rotate_left
            ·intro w'
             go_simp
             with_reducible rfl
            rotate_left
            ·simp only [Act.put,List.setIfInBounds_toArray,List.set_cons_zero,List.set_cons_succ,i64_w,i32_w]
             rfl
            refine pure_ (i:=2) (N:=some 66) (v:=?_) (a':=?_) #[true,false,true,false,false,false,false,false,false,false,false,false] rfl rfl (any_of HT_.out (by kernel_rfl)) (fun _ _ _ h => h) (Or.inl ⟨by rfl,?_⟩) ?_ ?_
            rotate_left
            ·intro w'
             go_simp
             with_reducible rfl
            rotate_left
            ·simp only [Act.put,List.setIfInBounds_toArray,List.set_cons_zero,List.set_cons_succ,i64_w,i32_w]
             rfl
            refine pure_ (i:=3) (N:=some 67) (v:=?_) (a':=?_) #[true,false,true,true,false,false,false,false,false,false,false,false] rfl rfl (any_of HT_.out (by kernel_rfl)) (fun _ _ _ h => h) (Or.inl ⟨by rfl,?_⟩) ?_ ?_
            rotate_left
            ·intro w'
             go_simp
             with_reducible rfl
            rotate_left
            ·simp only [Act.put,List.setIfInBounds_toArray,List.set_cons_zero,List.set_cons_succ,i64_w,i32_w]
             rfl
            refine pure_ (i:=4) (N:=some 68) (v:=?_) (a':=?_) #[true,false,true,true,true,false,false,false,false,false,false,false] rfl rfl (any_of HT_.out (by kernel_rfl)) (fun _ _ _ h => h) (Or.inl ⟨by rfl,?_⟩) ?_ ?_
            rotate_left
            ·intro w'
             go_simp
             with_reducible rfl
            rotate_left
            ·simp only [Act.put,List.setIfInBounds_toArray,List.set_cons_zero,List.set_cons_succ,i64_w,i32_w]
             rfl
            refine pure_ (i:=5) (N:=some 69) (v:=?_) (a':=?_) #[true,false,true,true,true,true,false,false,false,false,false,false] rfl rfl (any_of HT_.out (by kernel_rfl)) (fun _ _ _ h => h) (Or.inl ⟨by rfl,?_⟩) ?_ ?_
            rotate_left
            ·intro w'
             go_simp
             with_reducible rfl
            rotate_left
            ·simp only [Act.put,List.setIfInBounds_toArray,List.set_cons_zero,List.set_cons_succ,i64_w,i32_w]
             rfl
            refine pure_ (i:=6) (N:=some 70) (v:=?_) (a':=?_) #[true,false,true,true,true,true,true,false,false,false,false,false] rfl rfl (any_of HT_.out (by kernel_rfl)) (fun _ _ _ h => h) (Or.inl ⟨by rfl,?_⟩) ?_ ?_
            rotate_left
            ·intro w'
             go_simp
             with_reducible rfl
            rotate_left
            ·simp only [Act.put,List.setIfInBounds_toArray,List.set_cons_zero,List.set_cons_succ,i64_w,i32_w]
             rfl
            refine take_ (i:=1) (N:=some 65) (v:=?_) (a':=?_) #[true,true,true,true,true,true,true,false,false,false,false,false] rfl rfl (take_ofW HT_.out HW_.out (by kernel_rfl)) (fun _ _ _ h => h) (Or.inl ⟨by rfl,?_⟩) hHeld ?_ ?_
            rotate_left
            ·rintro w' ⟨s0,s1,s2⟩
             go_simp
             with_reducible rfl
            rotate_left
            ·simp only [Act.put,List.setIfInBounds_toArray,List.set_cons_zero,List.set_cons_succ,i64_w,i32_w]
             rfl
            refine take_ (i:=7) (N:=some 71) (v:=?_) (a':=?_) #[true,true,true,true,true,true,true,true,false,false,false,false] rfl rfl (take_ofW HT_.out HW_.out (by kernel_rfl)) (fun _ _ _ h => h) (Or.inl ⟨by rfl,?_⟩) hHeld ?_ ?_
            rotate_left
            ·rintro w' ⟨s0,s1,s2⟩
             go_simp
             with_reducible rfl
            rotate_left
            ·simp only [Act.put,List.setIfInBounds_toArray,List.set_cons_zero,List.set_cons_succ,i64_w,i32_w]
             rfl
            refine pure_ (i:=8) (N:=some 72) (v:=?_) (a':=?_) #[true,true,true,true,true,true,true,true,true,false,false,false] rfl rfl (any_of HT_.out (by kernel_rfl)) (fun _ _ _ h => h) (Or.inl ⟨by rfl,?_⟩) ?_ ?_
            rotate_left
            ·intro w'
             go_simp
             with_reducible rfl
            rotate_left
            ·simp only [Act.put,List.setIfInBounds_toArray,List.set_cons_zero,List.set_cons_succ,i64_w,i32_w]
             rfl
            refine pure_ (i:=9) (N:=some 73) (v:=?_) (a':=?_) #[true,true,true,true,true,true,true,true,true,true,false,false] rfl rfl (any_of HT_.out (by kernel_rfl)) (fun _ _ _ h => h) (Or.inl ⟨by rfl,?_⟩) ?_ ?_
            rotate_left
            ·intro w'
             go_simp
             with_reducible rfl
            rotate_left
            ·simp only [Act.put,List.setIfInBounds_toArray,List.set_cons_zero,List.set_cons_succ,i64_w,i32_w]
             rfl
            refine one_ (i:=10) (N:=some 13) #[true,true,true,true,true,true,true,true,true,true,true,false] rfl rfl (one_of HT_.out (by kernel_rfl)) (by decide) (fun K hK => ?_)
            refine box_step ?hg (N:=13) ?hd (cs:=#[.int .i64 0,.int .i64 0,.int .i64 0,.int .i64 0,.int .i64 0,.bool false]) (t:=33) ?hr ?_;(case hd => rfl);(case hg => rfl);(case hr => first|(go_simp;done)|(go_simp;rfl))
            intro gb370 hg w120 hbox hb
            have HS2_:=(hb.cell (wLt _ _ (hHeld.2.2))).trans (hHeld.2.2)
            have n0_:=aMk (Kd.R_below (by (with_reducible repeat (first|apply Kd.R_alloc|apply Kd.R_drewN|apply Kd.R_drew));exact HO_4.out) hb)
            have n1_:=aMk (blk_below (g:=gb349) (o:=.cells #[.int .i64 0,.int .i64 0,.int .i64 0,.int .i64 0,.int .i64 0,.bool false] 33 (0,0)) (by (with_reducible repeat (first|refine bDn ?_ _|refine bDr ?_|refine bAl ?_ _));exact BK349.out) hb)
            have n2_:=aMk (blk_below (g:=gb362) (o:=.cells #[.int .i64 t359,.int .i64 t360] 30 (0,0)) (by (with_reducible repeat (first|refine bDn ?_ _|refine bDr ?_|refine bAl ?_ _));exact BK362.out) hb)
            have n3_:=aMk (below_step (by repeat (first|(with_reducible first|exact HB.out|apply bwA|apply bwN|apply bw1|refine below_set ?_ GE349.out|refine below_set ?_ GE362.out)|exact HB.out)) hb)
            have n4_:=aMk (hbox)
            have n5_:=aMk ((by rw [hg];exact (below_size (by repeat (first|(with_reducible first|exact HB.out|apply bwA|apply bwN|apply bw1|refine below_set ?_ GE349.out|refine below_set ?_ GE362.out)|exact HB.out))) : w.heap.size ≤ gb370))
            have n6_:=aMk ((by rw [hg];exact (below_size (by repeat (first|(with_reducible first|exact HB.out|apply bwA|apply bwN|apply bw1|refine below_set ?_ GE349.out|refine below_set ?_ GE362.out)|exact HB.out))) : w.heap.size ≤ gb370))
            have n7_:=aMk ((by rw [hg];exact Nat.ne_of_lt (blk_lt (g:=gb349) (o:=.cells #[.int .i64 0,.int .i64 0,.int .i64 0,.int .i64 0,.int .i64 0,.bool false] 33 (0,0)) (by (with_reducible repeat (first|refine bDn ?_ _|refine bDr ?_|refine bAl ?_ _));exact BK349.out)) : gb349 ≠ gb370))
            have n8_:=aMk ((by rw [hg];exact Nat.ne_of_gt (blk_lt (g:=gb349) (o:=.cells #[.int .i64 0,.int .i64 0,.int .i64 0,.int .i64 0,.int .i64 0,.bool false] 33 (0,0)) (by (with_reducible repeat (first|refine bDn ?_ _|refine bDr ?_|refine bAl ?_ _));exact BK349.out)) : gb370 ≠ gb349))
            have n9_:=aMk ((by rw [hg];exact Nat.ne_of_lt (blk_lt (g:=gb362) (o:=.cells #[.int .i64 t359,.int .i64 t360] 30 (0,0)) (by (with_reducible repeat (first|refine bDn ?_ _|refine bDr ?_|refine bAl ?_ _));exact BK362.out)) : gb362 ≠ gb370))
            have n10_:=aMk ((by rw [hg];exact Nat.ne_of_gt (blk_lt (g:=gb362) (o:=.cells #[.int .i64 t359,.int .i64 t360] 30 (0,0)) (by (with_reducible repeat (first|refine bDn ?_ _|refine bDr ?_|refine bAl ?_ _));exact BK362.out)) : gb370 ≠ gb362))
            clear HO_4
            clear BK349
            clear BK362
            clear HB
            have HO_4:=n0_
            have BK349:=n1_
            have BK362:=n2_
            have HB:=n3_
            have BK370:=n4_
            have GW370:=n5_
            have GE370:=n6_
            have NB349_370:=n7_
            have NB370_349:=n8_
            have NB362_370:=n9_
            have NB370_362:=n10_
            clear n0_ n1_ n2_ n3_ n4_ n5_ n6_ n7_ n8_ n9_ n10_
            clear hb hbox hg
            refine hK.out _ _ ⟨(bCe BK362.out 0).trans rfl,(bCe BK362.out 1).trans rfl,HS2_⟩ (fun hHeld => ?_)
            clear hK K
            refine norm_ (a':=?_) ?_ ?_
            rotate_left
            ·show Act.put _ (some 13) _ = _
             simp only [Act.put,List.setIfInBounds_toArray,List.set_cons_zero,List.set_cons_succ,i64_w,i32_w]
             rfl
            refine one_ (i:=11) (N:=none) #[true,true,true,true,true,true,true,true,true,true,true,true] rfl rfl (one_of HT_.out (by kernel_rfl)) (by decide) (fun K hK => ?_)
            have hs121 : w120.cell? ⟨gb370,0,none⟩ = some (.int .i64 0):=(bCe BK370.out 0).trans rfl
            have hfs121:=bFr BK370.out 0
            have hns121_0:=NB349_370.out
            have hns121_1:=NB362_370.out
            have hms121_0:=NB370_349.out
            have hms121_1:=NB370_362.out
            have hs122 : w120.cell? ⟨gb370,1,none⟩ = some (.int .i64 0):=(bCe BK370.out 1).trans rfl
            have hfs122:=bFr BK370.out 1
            have hns122_0:=NB349_370.out
            have hns122_1:=NB362_370.out
            have hms122_0:=NB370_349.out
            have hms122_1:=NB370_362.out
            have hs123 : w120.cell? ⟨gb370,2,none⟩ = some (.int .i64 0):=(bCe BK370.out 2).trans rfl
            have hfs123:=bFr BK370.out 2
            have hns123_0:=NB349_370.out
            have hns123_1:=NB362_370.out
            have hms123_0:=NB370_349.out
            have hms123_1:=NB370_362.out
            have hs124 : w120.cell? ⟨gb370,3,none⟩ = some (.int .i64 0):=(bCe BK370.out 3).trans rfl
            have hfs124:=bFr BK370.out 3
            have hns124_0:=NB349_370.out
            have hns124_1:=NB362_370.out
            have hms124_0:=NB370_349.out
            have hms124_1:=NB370_362.out
            have hs125 : w120.cell? ⟨gb370,4,none⟩ = some (.int .i64 0):=(bCe BK370.out 4).trans rfl
            have hfs125:=bFr BK370.out 4
            have hns125_0:=NB349_370.out
            have hns125_1:=NB362_370.out
            have hms125_0:=NB370_349.out
            have hms125_1:=NB370_362.out
            have hs126 : w120.cell? ⟨gb370,5,none⟩ = some (.bool false):=(bCe BK370.out 5).trans rfl
            have hfs126:=bFr BK370.out 5
            have hns126_0:=NB349_370.out
            have hns126_1:=NB362_370.out
            have hms126_0:=NB370_349.out
            have hms126_1:=NB370_362.out
            refine skip_ (w1:=?_) (by rfl) rfl ?_ ?_
            rotate_left
            ·go_simp
             rfl
            refine hK.out _ _ ⟨((cell_far (p:=⟨gb370,_,none⟩) NB362_370.out _).trans (((cell_far (p:=⟨gb370,_,none⟩) NB362_370.out _).trans (((cell_far (p:=⟨gb370,_,none⟩) NB362_370.out _).trans (((cell_far (p:=⟨gb370,_,none⟩) NB362_370.out _).trans (((cell_far (p:=⟨gb370,_,none⟩) NB362_370.out _).trans (((cell_far (p:=⟨gb370,_,none⟩) NB362_370.out _).trans (hHeld.1)))))))))))),((cell_far (p:=⟨gb370,_,none⟩) NB362_370.out _).trans (((cell_far (p:=⟨gb370,_,none⟩) NB362_370.out _).trans (((cell_far (p:=⟨gb370,_,none⟩) NB362_370.out _).trans (((cell_far (p:=⟨gb370,_,none⟩) NB362_370.out _).trans (((cell_far (p:=⟨gb370,_,none⟩) NB362_370.out _).trans (((cell_far (p:=⟨gb370,_,none⟩) NB362_370.out _).trans (hHeld.2.1)))))))))))),((cell_far (p:=⟨gb370,_,none⟩) (by first|exact Kd.own_blk (Kd.R_ne HO_4.out BK370.out (by decide))|(rw [add_block];exact Kd.own_blk (Kd.R_ne HO_4.out BK370.out (by decide)))|(show (Addr.add _ _).block ≠ _;rw [add_block];exact Kd.own_blk (Kd.R_ne HO_4.out BK370.out (by decide)))|(dsimp only;exact Kd.own_blk (Kd.R_ne HO_4.out BK370.out (by decide)))) _).trans (((cell_far (p:=⟨gb370,_,none⟩) (by first|exact Kd.own_blk (Kd.R_ne HO_4.out BK370.out (by decide))|(rw [add_block];exact Kd.own_blk (Kd.R_ne HO_4.out BK370.out (by decide)))|(show (Addr.add _ _).block ≠ _;rw [add_block];exact Kd.own_blk (Kd.R_ne HO_4.out BK370.out (by decide)))|(dsimp only;exact Kd.own_blk (Kd.R_ne HO_4.out BK370.out (by decide)))) _).trans (((cell_far (p:=⟨gb370,_,none⟩) (by first|exact Kd.own_blk (Kd.R_ne HO_4.out BK370.out (by decide))|(rw [add_block];exact Kd.own_blk (Kd.R_ne HO_4.out BK370.out (by decide)))|(show (Addr.add _ _).block ≠ _;rw [add_block];exact Kd.own_blk (Kd.R_ne HO_4.out BK370.out (by decide)))|(dsimp only;exact Kd.own_blk (Kd.R_ne HO_4.out BK370.out (by decide)))) _).trans (((cell_far (p:=⟨gb370,_,none⟩) (by first|exact Kd.own_blk (Kd.R_ne HO_4.out BK370.out (by decide))|(rw [add_block];exact Kd.own_blk (Kd.R_ne HO_4.out BK370.out (by decide)))|(show (Addr.add _ _).block ≠ _;rw [add_block];exact Kd.own_blk (Kd.R_ne HO_4.out BK370.out (by decide)))|(dsimp only;exact Kd.own_blk (Kd.R_ne HO_4.out BK370.out (by decide)))) _).trans (((cell_far (p:=⟨gb370,_,none⟩) (by first|exact Kd.own_blk (Kd.R_ne HO_4.out BK370.out (by decide))|(rw [add_block];exact Kd.own_blk (Kd.R_ne HO_4.out BK370.out (by decide)))|(show (Addr.add _ _).block ≠ _;rw [add_block];exact Kd.own_blk (Kd.R_ne HO_4.out BK370.out (by decide)))|(dsimp only;exact Kd.own_blk (Kd.R_ne HO_4.out BK370.out (by decide)))) _).trans (((cell_far (p:=⟨gb370,_,none⟩) (by first|exact Kd.own_blk (Kd.R_ne HO_4.out BK370.out (by decide))|(rw [add_block];exact Kd.own_blk (Kd.R_ne HO_4.out BK370.out (by decide)))|(show (Addr.add _ _).block ≠ _;rw [add_block];exact Kd.own_blk (Kd.R_ne HO_4.out BK370.out (by decide)))|(dsimp only;exact Kd.own_blk (Kd.R_ne HO_4.out BK370.out (by decide)))) _).trans (hHeld.2.2))))))))))))⟩ (fun hHeld => ?_)
            clear hK K
            refine done_ (done_of HT_.out (by kernel_rfl)) ?_
            have hnb127:=NB349_370.out
            have hnc127:=NB370_349.out
            have hcz128_0 : w120.cell? ⟨gb349,0,none⟩ = some (.int .i64 0):=(bCe BK349.out 0).trans rfl
            have hcz128_1 : w120.cell? ⟨gb349,1,none⟩ = some (.int .i64 0):=(bCe BK349.out 1).trans rfl
            have hcz128_2 : w120.cell? ⟨gb349,2,none⟩ = some (.int .i64 0):=(bCe BK349.out 2).trans rfl
            have hcz128_3 : w120.cell? ⟨gb349,3,none⟩ = some (.int .i64 0):=(bCe BK349.out 3).trans rfl
            have hcz128_4 : w120.cell? ⟨gb349,4,none⟩ = some (.int .i64 0):=(bCe BK349.out 4).trans rfl
            have hcz128_5 : w120.cell? ⟨gb349,5,none⟩ = some (.bool false):=(bCe BK349.out 5).trans rfl
            have hfz128_0:=bFr BK349.out 0
            have hfz128_1:=bFr BK349.out 1
            have hfz128_2:=bFr BK349.out 2
            have hfz128_3:=bFr BK349.out 3
            have hfz128_4:=bFr BK349.out 4
            have hfz128_5:=bFr BK349.out 5
            try go_wp2
            refine bodyPost_ret (results_ct rfl _ _ gb349 33 #[.int .i64 0,.int .i64 0,.int .i64 0,.int .i64 0,.int .i64 0,.bool false] (0,0) _ rfl (by (with_reducible repeat (first|refine bDn ?_ _|refine bDr ?_|refine bAl ?_ _));refine blk_put (cs:=#[.int .i64 0,.int .i64 0,.int .i64 0,.int .i64 0,.int .i64 0,.bool false]) ?_ 5 _ rfl;(with_reducible repeat (first|refine bDn ?_ _|refine bDr ?_|refine bAl ?_ _));refine blk_put (cs:=#[.int .i64 0,.int .i64 0,.int .i64 0,.int .i64 0,.int .i64 0,.bool false]) ?_ 4 _ rfl;(with_reducible repeat (first|refine bDn ?_ _|refine bDr ?_|refine bAl ?_ _));refine blk_put (cs:=#[.int .i64 0,.int .i64 0,.int .i64 0,.int .i64 0,.int .i64 0,.bool false]) ?_ 3 _ rfl;(with_reducible repeat (first|refine bDn ?_ _|refine bDr ?_|refine bAl ?_ _));refine blk_put (cs:=#[.int .i64 0,.int .i64 0,.int .i64 0,.int .i64 0,.int .i64 0,.bool false]) ?_ 2 _ rfl;(with_reducible repeat (first|refine bDn ?_ _|refine bDr ?_|refine bAl ?_ _));refine blk_put (cs:=#[.int .i64 0,.int .i64 0,.int .i64 0,.int .i64 0,.int .i64 0,.bool false]) ?_ 1 _ rfl;(with_reducible repeat (first|refine bDn ?_ _|refine bDr ?_|refine bAl ?_ _));refine blk_put (cs:=#[.int .i64 0,.int .i64 0,.int .i64 0,.int .i64 0,.int .i64 0,.bool false]) ?_ 0 _ rfl;(with_reducible repeat (first|refine bDn ?_ _|refine bDr ?_|refine bAl ?_ _));refine blk_far ?_ NB349_370.out _;(with_reducible repeat (first|refine bDn ?_ _|refine bDr ?_|refine bAl ?_ _));refine blk_far ?_ NB349_370.out _;(with_reducible repeat (first|refine bDn ?_ _|refine bDr ?_|refine bAl ?_ _));refine blk_far ?_ NB349_370.out _;(with_reducible repeat (first|refine bDn ?_ _|refine bDr ?_|refine bAl ?_ _));refine blk_far ?_ NB349_370.out _;(with_reducible repeat (first|refine bDn ?_ _|refine bDr ?_|refine bAl ?_ _));refine blk_far ?_ NB349_370.out _;(with_reducible repeat (first|refine bDn ?_ _|refine bDr ?_|refine bAl ?_ _));refine blk_far ?_ NB349_370.out _;(with_reducible repeat (first|refine bDn ?_ _|refine bDr ?_|refine bAl ?_ _));exact BK349.out) Tryd.underlying33 rfl (by kernel_rfl)) rfl ?_
            exact ⟨by first | rfl|(simp [errW_none,errW_some] <;> rfl)|(simp [*,errW_none,errW_some] <;> rfl),by repeat (first|(with_reducible first|exact HB.out|apply bwA|apply bwN|apply bw1|refine below_set ?_ GE349.out|refine below_set ?_ GE362.out|refine below_set ?_ GE370.out)|exact HB.out)⟩
          ·replace c26:=Bool.eq_false_iff.mpr c26
           subst c26
           have H1 : (some (0,0,0,0,0,false,3)) = some (r1,r2,r3,r4,r5,r6,r7):=by rw [if_neg (show ¬ (false = true) by decide)] at H;exact H
           clear H
           have H:=H1
           clear H1
           simp only [Option.some.injEq,Prod.mk.injEq] at H
           obtain ⟨rfl,rfl,rfl,rfl,rfl,rfl,rfl⟩:=H
           obtain ⟨Ao129,co129,eo129⟩:=Kd.R_slice HO_4.out
           subst eo129
           have p355 : 0 ≤ (1 : Int):=(by omega)
           have q355 : 1 < (t350.length : Int):=of_decide_eq_true (by first|(with_reducible assumption) | assumption)
           obtain ⟨ad355,e355,hx355_0⟩:=Kd.at_string (Kd.R_reads' HO_4.out).2.2 1 p355 q355
           cases e355
           (try simp only [show (1 : Int).toNat = 1 from rfl,Nat.reduceMul,Nat.reduceEqDiff,Go.Addr.add,↓reduceIte] at hx355_0)
           have qi355 : (1 < t350.length) = True:=eq_true (by omega)
           (try rw [show ((1 : Int)).toNat = 1 from rfl] at hx355_0)
           replace p355:=eq_true p355
           replace q355:=eq_true q355
           try go_wp2_with (first|((with_reducible refine gate_callee (f:=25) rfl ?_);refine goesL_ (some 40) rfl rfl Tryd.func25 (by kernel_rfl) rfl #[.string (rdOf ByteArray.empty t350 1)] rfl (by (try simp only [List.map_toArray,List.map_cons,List.map_nil]);first | done | rfl|(simp only [List.length_drop,List.length_take];rfl)) ?_;(with_reducible refine (impl_readProto.calls kj5 (rdOf ByteArray.empty t350 1) t356 false _ A18.out).mono ?_);rintro e w130 ⟨rfl,hb⟩;refine ⟨_,rfl,?_⟩;have n0_:=aMk (Kd.R_below (by (with_reducible repeat (first|apply Kd.R_alloc|apply Kd.R_drewN|apply Kd.R_drew));exact HO_4.out) hb);have n1_:=aMk (blk_below (g:=gb349) (o:=.cells #[.int .i64 0,.int .i64 0,.int .i64 0,.int .i64 0,.int .i64 0,.bool false] 33 (0,0)) (by (with_reducible repeat (first|refine bDn ?_ _|refine bDr ?_|refine bAl ?_ _));exact BK349.out) hb);have n2_:=aMk (below_step (by repeat (first|(with_reducible first|exact HB.out|apply bwA|apply bwN|apply bw1|refine below_set ?_ GE349.out)|exact HB.out)) hb);clear HO_4;clear BK349;clear HB;have HO_4:=n0_;have BK349:=n1_;have HB:=n2_;clear n0_ n1_ n2_;(try clear hb);(try clear hb2);(try clear hk);(try clear hi);have p358 : 0 ≤ (2 : Int):=(by omega);have q358 : 2 < (t350.length : Int):=of_decide_eq_true (by first|(with_reducible assumption) | assumption);obtain ⟨ad358,e358,hx358_0⟩:=Kd.at_string (Kd.R_reads' HO_4.out).2.2 2 p358 q358;obtain rfl : ad355 = ad358:=(by injection e358);(try simp only [show (2 : Int).toNat = 2 from rfl,Nat.reduceMul,Nat.reduceEqDiff,Go.Addr.add,↓reduceIte] at hx358_0);have qi358 : (2 < t350.length) = True:=eq_true (by omega);(try rw [show ((2 : Int)).toNat = 2 from rfl] at hx358_0);replace p358:=eq_true p358;replace q358:=eq_true q358)|((with_reducible refine gate_callee (f:=26) rfl ?_);refine goesL_ (some 47) rfl rfl Tryd.func26 (by kernel_rfl) rfl #[.string (rdOf ByteArray.empty t350 2)] rfl (by (try simp only [List.map_toArray,List.map_cons,List.map_nil]);first | done | rfl|(simp only [List.length_drop,List.length_take];rfl)) ?_;(with_reducible refine (impl_readNet.calls kj5 (rdOf ByteArray.empty t350 2) t359 t360 t361 _ ?sideGe ?sideGp A20.out).mono ?_);(case sideGe => exact GLe_below HGe_.out (by repeat (first|(with_reducible first|exact HB.out|apply bwA|apply bwN|apply bw1|refine below_set ?_ (Aside0.out (by assumption)))|exact HB.out)));(case sideGp => exact GLp_below HGp_.out (by repeat (first|(with_reducible first|exact HB.out|apply bwA|apply bwN|apply bw1|refine below_set ?_ (Aside0.out (by assumption)))|exact HB.out)));rintro e w131 ⟨rfl,hb⟩;refine ⟨_,rfl,?_⟩;have n0_:=aMk (Kd.R_below (by (with_reducible repeat (first|apply Kd.R_alloc|apply Kd.R_drewN|apply Kd.R_drew));exact HO_4.out) hb);have n1_:=aMk (blk_below (g:=gb349) (o:=.cells #[.int .i64 0,.int .i64 0,.int .i64 0,.int .i64 0,.int .i64 0,.bool false] 33 (0,0)) (by (with_reducible repeat (first|refine bDn ?_ _|refine bDr ?_|refine bAl ?_ _));exact BK349.out) hb);have n2_:=aMk (below_step (by repeat (first|(with_reducible first|exact HB.out|apply bwA|apply bwN|apply bw1|refine below_set ?_ GE349.out)|exact HB.out)) hb);clear HO_4;clear BK349;clear HB;have HO_4:=n0_;have BK349:=n1_;have HB:=n2_;clear n0_ n1_ n2_;(try clear hb);(try clear hb2);(try clear hk);(try clear hi))|((with_reducible refine gate_dst (N:=7) rfl ?_);refine box_event ?hg (N:=7) ?hd (cs:=#[.int .i64 0,.int .i64 0]) (t:=30) ?hr ?_;(case hd => rfl);(case hg => rfl);(case hr => first|(go_simp;done)|(go_simp;rfl));intro gb362 hg w132 hbox hb;have n0_:=aMk (Kd.R_below (by (with_reducible repeat (first|apply Kd.R_alloc|apply Kd.R_drewN|apply Kd.R_drew));exact HO_4.out) hb);have n1_:=aMk (blk_below (g:=gb349) (o:=.cells #[.int .i64 0,.int .i64 0,.int .i64 0,.int .i64 0,.int .i64 0,.bool false] 33 (0,0)) (by (with_reducible repeat (first|refine bDn ?_ _|refine bDr ?_|refine bAl ?_ _));exact BK349.out) hb);have n2_:=aMk (below_step (by repeat (first|(with_reducible first|exact HB.out|apply bwA|apply bwN|apply bw1|refine below_set ?_ GE349.out)|exact HB.out)) hb);have n3_:=aMk (hbox);have n4_:=aMk ((by rw [hg];exact (below_size (by repeat (first|(with_reducible first|exact HB.out|apply bwA|apply bwN|apply bw1|refine below_set ?_ GE349.out)|exact HB.out))) : w.heap.size ≤ gb362));have n5_:=aMk ((by rw [hg];exact (below_size (by repeat (first|(with_reducible first|exact HB.out|apply bwA|apply bwN|apply bw1|refine below_set ?_ GE349.out)|exact HB.out))) : w.heap.size ≤ gb362));have n6_:=aMk ((by rw [hg];exact Nat.ne_of_lt (blk_lt (g:=gb349) (o:=.cells #[.int .i64 0,.int .i64 0,.int .i64 0,.int .i64 0,.int .i64 0,.bool false] 33 (0,0)) (by (with_reducible repeat (first|refine bDn ?_ _|refine bDr ?_|refine bAl ?_ _));exact BK349.out)) : gb349 ≠ gb362));have n7_:=aMk ((by rw [hg];exact Nat.ne_of_gt (blk_lt (g:=gb349) (o:=.cells #[.int .i64 0,.int .i64 0,.int .i64 0,.int .i64 0,.int .i64 0,.bool false] 33 (0,0)) (by (with_reducible repeat (first|refine bDn ?_ _|refine bDr ?_|refine bAl ?_ _));exact BK349.out)) : gb362 ≠ gb349));clear HO_4;clear BK349;clear HB;have HO_4:=n0_;have BK349:=n1_;have HB:=n2_;have BK362:=n3_;have GW362:=n4_;have GE362:=n5_;have NB349_362:=n6_;have NB362_349:=n7_;clear n0_ n1_ n2_ n3_ n4_ n5_ n6_ n7_;clear hb hbox hg;have hnb133:=NB362_349.out;have hnc133:=NB349_362.out;have hcz134_0 : w132.cell? ⟨gb362,0,none⟩ = some (.int .i64 0):=(bCe BK362.out 0).trans rfl;have hcz134_1 : w132.cell? ⟨gb362,1,none⟩ = some (.int .i64 0):=(bCe BK362.out 1).trans rfl;have hfz134_0:=bFr BK362.out 0;have hfz134_1:=bFr BK362.out 1;have p363 : 0 ≤ (3 : Int):=(by omega);have q363 : 3 < (t350.length : Int):=of_decide_eq_true (by first|(with_reducible assumption) | assumption);obtain ⟨ad363,e363,hx363_0⟩:=Kd.at_string (Kd.R_reads' HO_4.out).2.2 3 p363 q363;obtain rfl : ad355 = ad363:=(by injection e363);(try simp only [show (3 : Int).toNat = 3 from rfl,Nat.reduceMul,Nat.reduceEqDiff,Go.Addr.add,↓reduceIte] at hx363_0);have qi363 : (3 < t350.length) = True:=eq_true (by omega);(try rw [show ((3 : Int)).toNat = 3 from rfl] at hx363_0);have hn363_0 : ad355.block ≠ gb362:=Kd.own_blk (Kd.R_ne HO_4.out BK362.out (by decide));have hn363_1 : ad355.block ≠ gb362:=Kd.own_blk (Kd.R_ne HO_4.out BK362.out (by decide));replace hx363_0:=(cell_far (p:=⟨gb362,0,none⟩) (by first|(rw [add_block];exact hn363_0)|(show (Addr.add _ _).block ≠ _;rw [add_block];exact hn363_0)|exact hn363_0) (.int .i64 t359)).trans hx363_0;replace hx363_0:=(cell_far (p:=⟨gb362,1,none⟩) (by first|(rw [add_block];exact hn363_1)|(show (Addr.add _ _).block ≠ _;rw [add_block];exact hn363_1)|exact hn363_1) (.int .i64 t360)).trans hx363_0;clear hn363_0;clear hn363_1;replace p363:=eq_true p363;replace q363:=eq_true q363)|((with_reducible refine gate_callee (f:=27) rfl ?_);refine goesL_ (some 54) rfl rfl Tryd.func27 (by kernel_rfl) rfl #[.string (rdOf ByteArray.empty t350 3)] rfl (by (try simp only [List.map_toArray,List.map_cons,List.map_nil]);first | done | rfl|(simp only [List.length_drop,List.length_take];rfl)) ?_;(with_reducible refine (impl_number.calls (rdOf ByteArray.empty t350 3) t364 t365 _ ?sideGe ?sideGp A22.out).mono ?_);(case sideGe => exact GLe_below HGe_.out (by repeat (first|(with_reducible first|exact HB.out|apply bwA|apply bwN|apply bw1|refine below_set ?_ (Aside0.out (by assumption)))|exact HB.out)));(case sideGp => exact GLp_below HGp_.out (by repeat (first|(with_reducible first|exact HB.out|apply bwA|apply bwN|apply bw1|refine below_set ?_ (Aside0.out (by assumption)))|exact HB.out)));rintro e w135 ⟨rfl,hb⟩;refine ⟨_,rfl,?_⟩;have n0_:=aMk (Kd.R_below (by (with_reducible repeat (first|apply Kd.R_alloc|apply Kd.R_drewN|apply Kd.R_drew));exact (Kd.R_mono (Kd.R_far (p:=⟨gb362,1,none⟩) (Kd.R_far (p:=⟨gb362,0,none⟩) (Kd.R_types HO_4.out BK362.out (by decide)) (fun _ hk => hk.2) (.int .i64 t359)) (fun _ hk => hk.2) (.int .i64 t360)) (fun _ h_ => h_.1))) hb);have n1_:=aMk (blk_below (g:=gb349) (o:=.cells #[.int .i64 0,.int .i64 0,.int .i64 0,.int .i64 0,.int .i64 0,.bool false] 33 (0,0)) (by (with_reducible repeat (first|refine bDn ?_ _|refine bDr ?_|refine bAl ?_ _));refine blk_far ?_ NB349_362.out _;(with_reducible repeat (first|refine bDn ?_ _|refine bDr ?_|refine bAl ?_ _));refine blk_far ?_ NB349_362.out _;(with_reducible repeat (first|refine bDn ?_ _|refine bDr ?_|refine bAl ?_ _));exact BK349.out) hb);have n2_:=aMk (blk_below (g:=gb362) (o:=.cells #[.int .i64 t359,.int .i64 t360] 30 (0,0)) (by (with_reducible repeat (first|refine bDn ?_ _|refine bDr ?_|refine bAl ?_ _));refine blk_put (cs:=#[.int .i64 t359,.int .i64 0]) ?_ 1 _ rfl;(with_reducible repeat (first|refine bDn ?_ _|refine bDr ?_|refine bAl ?_ _));refine blk_put (cs:=#[.int .i64 0,.int .i64 0]) ?_ 0 _ rfl;(with_reducible repeat (first|refine bDn ?_ _|refine bDr ?_|refine bAl ?_ _));exact BK362.out) hb);have n3_:=aMk (below_step (by repeat (first|(with_reducible first|exact HB.out|apply bwA|apply bwN|apply bw1|refine below_set ?_ GE349.out|refine below_set ?_ GE362.out)|exact HB.out)) hb);clear HO_4;clear BK349;clear BK362;clear HB;have HO_4:=n0_;have BK349:=n1_;have BK362:=n2_;have HB:=n3_;clear n0_ n1_ n2_ n3_;(try clear hb);(try clear hb2);(try clear hk);(try clear hi);have p366 : 0 ≤ (4 : Int):=(by omega);have q366 : 4 < (t350.length : Int):=of_decide_eq_true (by first|(with_reducible assumption) | assumption);obtain ⟨ad366,e366,hx366_0⟩:=Kd.at_string (Kd.R_reads' HO_4.out).2.2 4 p366 q366;obtain rfl : ad355 = ad366:=(by injection e366);(try simp only [show (4 : Int).toNat = 4 from rfl,Nat.reduceMul,Nat.reduceEqDiff,Go.Addr.add,↓reduceIte] at hx366_0);have qi366 : (4 < t350.length) = True:=eq_true (by omega);(try rw [show ((4 : Int)).toNat = 4 from rfl] at hx366_0);replace p366:=eq_true p366;replace q366:=eq_true q366)|((with_reducible refine gate_callee (f:=27) rfl ?_);refine goesL_ (some 61) rfl rfl Tryd.func27 (by kernel_rfl) rfl #[.string (rdOf ByteArray.empty t350 4)] rfl (by (try simp only [List.map_toArray,List.map_cons,List.map_nil]);first | done | rfl|(simp only [List.length_drop,List.length_take];rfl)) ?_;(with_reducible refine (impl_number.calls (rdOf ByteArray.empty t350 4) t367 t368 _ ?sideGe ?sideGp A24.out).mono ?_);(case sideGe => exact GLe_below HGe_.out (by repeat (first|(with_reducible first|exact HB.out|apply bwA|apply bwN|apply bw1|refine below_set ?_ (Aside0.out (by assumption)))|exact HB.out)));(case sideGp => exact GLp_below HGp_.out (by repeat (first|(with_reducible first|exact HB.out|apply bwA|apply bwN|apply bw1|refine below_set ?_ (Aside0.out (by assumption)))|exact HB.out)));rintro e w136 ⟨rfl,hb⟩;refine ⟨_,rfl,?_⟩;have n0_:=aMk (Kd.R_below (by (with_reducible repeat (first|apply Kd.R_alloc|apply Kd.R_drewN|apply Kd.R_drew));exact HO_4.out) hb);have n1_:=aMk (blk_below (g:=gb349) (o:=.cells #[.int .i64 0,.int .i64 0,.int .i64 0,.int .i64 0,.int .i64 0,.bool false] 33 (0,0)) (by (with_reducible repeat (first|refine bDn ?_ _|refine bDr ?_|refine bAl ?_ _));exact BK349.out) hb);have n2_:=aMk (blk_below (g:=gb362) (o:=.cells #[.int .i64 t359,.int .i64 t360] 30 (0,0)) (by (with_reducible repeat (first|refine bDn ?_ _|refine bDr ?_|refine bAl ?_ _));exact BK362.out) hb);have n3_:=aMk (below_step (by repeat (first|(with_reducible first|exact HB.out|apply bwA|apply bwN|apply bw1|refine below_set ?_ GE349.out|refine below_set ?_ GE362.out)|exact HB.out)) hb);clear HO_4;clear BK349;clear BK362;clear HB;have HO_4:=n0_;have BK349:=n1_;have BK362:=n2_;have HB:=n3_;clear n0_ n1_ n2_ n3_;(try clear hb);(try clear hb2);(try clear hk);(try clear hi)))
           have n0_:=aMk (Kd.R_drew HO_4.out)
           have n1_:=aMk (bDr BK349.out)
           have n2_:=aMk (bDr BK362.out)
           have n3_:=aMk (bw1 HB.out)
           clear HO_4
           clear BK349
           clear BK362
           clear HB
           have HO_4:=n0_
           have BK349:=n1_
           have BK362:=n2_
           have HB:=n3_
           clear n0_ n1_ n2_ n3_
           have p369 : 0 ≤ (0 : Int):=(by omega)
           have q369 : 0 < (t350.length : Int):=of_decide_eq_true (by first|(with_reducible assumption) | assumption)
           obtain ⟨ad369,e369,hx369_0⟩:=Kd.at_string (Kd.R_reads' HO_4.out).2.2 0 p369 q369
           obtain rfl : ad355 = ad369:=(by injection e369)
           have qi369 : (0 < t350.length) = True:=eq_true (by omega)
           (try rw [show ((0 : Int)).toNat = 0 from rfl] at hx369_0)
           (try rw [Addr.add_zero'] at hx369_0)
           replace p369:=eq_true p369
           replace q369:=eq_true q369
           refine start_ (n:=12) (S:=fun w' => w'.cell? ⟨gb362,0,none⟩ = some (.int .i64 t359) ∧ w'.cell? ⟨gb362,1,none⟩ = some (.int .i64 t360) ∧ w'.cell? ad355 = some (.string (rdOf ByteArray.empty t350 0))) (ds:=[]) #[false,false,false,false,false,false,false,false,false,false,false,false] (by kernel_rfl) rfl rfl ⟨(bCe BK362.out 0).trans rfl,(bCe BK362.out 1).trans rfl,hx369_0⟩ (fun hHeld => ?_);refine with_tabW impl_ReadRule.tab10 impl_ReadRule.bits10 (fun HT_ HW_ => ?_)
           generalize w136.drew = w137 at HO_4 BK349 BK362 HB hx369_0 hHeld ⊢
           refine pure_ (i:=0) (N:=some 64) (v:=?_) (a':=?_) #[true,false,false,false,false,false,false,false,false,false,false,false] rfl rfl (any_of HT_.out (by kernel_rfl)) (fun _ _ _ h => h) (Or.inl ⟨by rfl,?_⟩) ?_ ?_
           rotate_left
           ·intro w'
            go_simp
            with_reducible rfl
           rotate_left
           ·simp only [Act.put,List.setIfInBounds_toArray,List.set_cons_zero,List.set_cons_succ,i64_w,i32_w]
            rfl
           refine pure_ (i:=2) (N:=some 66) (v:=?_) (a':=?_) #[true,false,true,false,false,false,false,false,false,false,false,false] rfl rfl (any_of HT_.out (by kernel_rfl)) (fun _ _ _ h => h) (Or.inl ⟨by rfl,?_⟩) ?_ ?_
           rotate_left
           ·intro w'
            go_simp
            with_reducible rfl
           rotate_left
           ·simp only [Act.put,List.setIfInBounds_toArray,List.set_cons_zero,List.set_cons_succ,i64_w,i32_w]
            rfl
           refine pure_ (i:=3) (N:=some 67) (v:=?_) (a':=?_) #[true,false,true,true,false,false,false,false,false,false,false,false] rfl rfl (any_of HT_.out (by kernel_rfl)) (fun _ _ _ h => h) (Or.inl ⟨by rfl,?_⟩) ?_ ?_
           rotate_left
           ·intro w'
            go_simp
            with_reducible rfl
           rotate_left
           ·simp only [Act.put,List.setIfInBounds_toArray,List.set_cons_zero,List.set_cons_succ,i64_w,i32_w]
            rfl
           refine pure_ (i:=4) (N:=some 68) (v:=?_) (a':=?_) #[true,false,true,true,true,false,false,false,false,false,false,false] rfl rfl (any_of HT_.out (by kernel_rfl)) (fun _ _ _ h => h) (Or.inl ⟨by rfl,?_⟩) ?_ ?_
           rotate_left
           ·intro w'
            go_simp
            with_reducible rfl
           rotate_left
           ·simp only [Act.put,List.setIfInBounds_toArray,List.set_cons_zero,List.set_cons_succ,i64_w,i32_w]
            rfl
           refine pure_ (i:=5) (N:=some 69) (v:=?_) (a':=?_) #[true,false,true,true,true,true,false,false,false,false,false,false] rfl rfl (any_of HT_.out (by kernel_rfl)) (fun _ _ _ h => h) (Or.inl ⟨by rfl,?_⟩) ?_ ?_
           rotate_left
           ·intro w'
            go_simp
            with_reducible rfl
           rotate_left
           ·simp only [Act.put,List.setIfInBounds_toArray,List.set_cons_zero,List.set_cons_succ,i64_w,i32_w]
            rfl
           refine pure_ (i:=6) (N:=some 70) (v:=?_) (a':=?_) #[true,false,true,true,true,true,true,false,false,false,false,false] rfl rfl (any_of HT_.out (by kernel_rfl)) (fun _ _ _ h => h) (Or.inl ⟨by rfl,?_⟩) ?_ ?_
           rotate_left
           ·intro w'
            go_simp
            with_reducible rfl
           rotate_left
           ·simp only [Act.put,List.setIfInBounds_toArray,List.set_cons_zero,List.set_cons_succ,i64_w,i32_w]
            rfl
           refine take_ (i:=1) (N:=some 65) (v:=?_) (a':=?_) #[true,true,true,true,true,true,true,false,false,false,false,false] rfl rfl (take_ofW HT_.out HW_.out (by kernel_rfl)) (fun _ _ _ h => h) (Or.inl ⟨by rfl,?_⟩) hHeld ?_ ?_
           rotate_left
           ·rintro w' ⟨s0,s1,s2⟩
            go_simp
            with_reducible rfl
           rotate_left
           ·simp only [Act.put,List.setIfInBounds_toArray,List.set_cons_zero,List.set_cons_succ,i64_w,i32_w]
            rfl
           refine take_ (i:=7) (N:=some 71) (v:=?_) (a':=?_) #[true,true,true,true,true,true,true,true,false,false,false,false] rfl rfl (take_ofW HT_.out HW_.out (by kernel_rfl)) (fun _ _ _ h => h) (Or.inl ⟨by rfl,?_⟩) hHeld ?_ ?_
           rotate_left
           ·rintro w' ⟨s0,s1,s2⟩
            go_simp
            with_reducible rfl
           rotate_left
           ·simp only [Act.put,List.setIfInBounds_toArray,List.set_cons_zero,List.set_cons_succ,i64_w,i32_w]
            rfl
           refine pure_ (i:=8) (N:=some 72) (v:=?_) (a':=?_) #[true,true,true,true,true,true,true,true,true,false,false,false] rfl rfl (any_of HT_.out (by kernel_rfl)) (fun _ _ _ h => h) (Or.inl ⟨by rfl,?_⟩) ?_ ?_
           rotate_left
           ·intro w'
            go_simp
            with_reducible rfl
           rotate_left
           ·simp only [Act.put,List.setIfInBounds_toArray,List.set_cons_zero,List.set_cons_succ,i64_w,i32_w]
            rfl
           refine pure_ (i:=9) (N:=some 73) (v:=?_) (a':=?_) #[true,true,true,true,true,true,true,true,true,true,false,false] rfl rfl (any_of HT_.out (by kernel_rfl)) (fun _ _ _ h => h) (Or.inl ⟨by rfl,?_⟩) ?_ ?_
           rotate_left
           ·intro w'
            go_simp
            with_reducible rfl
           rotate_left
           ·simp only [Act.put,List.setIfInBounds_toArray,List.set_cons_zero,List.set_cons_succ,i64_w,i32_w]
            rfl
           refine one_ (i:=10) (N:=some 13) #[true,true,true,true,true,true,true,true,true,true,true,false] rfl rfl (one_of HT_.out (by kernel_rfl)) (by decide) (fun K hK => ?_)
           refine box_step ?hg (N:=13) ?hd (cs:=#[.int .i64 0,.int .i64 0,.int .i64 0,.int .i64 0,.int .i64 0,.bool false]) (t:=33) ?hr ?_;(case hd => rfl);(case hg => rfl);(case hr => first|(go_simp;done)|(go_simp;rfl))
           intro gb370 hg w138 hbox hb
           have HS2_:=(hb.cell (wLt _ _ (hHeld.2.2))).trans (hHeld.2.2)
           have n0_:=aMk (Kd.R_below (by (with_reducible repeat (first|apply Kd.R_alloc|apply Kd.R_drewN|apply Kd.R_drew));exact HO_4.out) hb)
           have n1_:=aMk (blk_below (g:=gb349) (o:=.cells #[.int .i64 0,.int .i64 0,.int .i64 0,.int .i64 0,.int .i64 0,.bool false] 33 (0,0)) (by (with_reducible repeat (first|refine bDn ?_ _|refine bDr ?_|refine bAl ?_ _));exact BK349.out) hb)
           have n2_:=aMk (blk_below (g:=gb362) (o:=.cells #[.int .i64 t359,.int .i64 t360] 30 (0,0)) (by (with_reducible repeat (first|refine bDn ?_ _|refine bDr ?_|refine bAl ?_ _));exact BK362.out) hb)
           have n3_:=aMk (below_step (by repeat (first|(with_reducible first|exact HB.out|apply bwA|apply bwN|apply bw1|refine below_set ?_ GE349.out|refine below_set ?_ GE362.out)|exact HB.out)) hb)
           have n4_:=aMk (hbox)
           have n5_:=aMk ((by rw [hg];exact (below_size (by repeat (first|(with_reducible first|exact HB.out|apply bwA|apply bwN|apply bw1|refine below_set ?_ GE349.out|refine below_set ?_ GE362.out)|exact HB.out))) : w.heap.size ≤ gb370))
           have n6_:=aMk ((by rw [hg];exact (below_size (by repeat (first|(with_reducible first|exact HB.out|apply bwA|apply bwN|apply bw1|refine below_set ?_ GE349.out|refine below_set ?_ GE362.out)|exact HB.out))) : w.heap.size ≤ gb370))
           have n7_:=aMk ((by rw [hg];exact Nat.ne_of_lt (blk_lt (g:=gb349) (o:=.cells #[.int .i64 0,.int .i64 0,.int .i64 0,.int .i64 0,.int .i64 0,.bool false] 33 (0,0)) (by (with_reducible repeat (first|refine bDn ?_ _|refine bDr ?_|refine bAl ?_ _));exact BK349.out)) : gb349 ≠ gb370))
           have n8_:=aMk ((by rw [hg];exact Nat.ne_of_gt (blk_lt (g:=gb349) (o:=.cells #[.int .i64 0,.int .i64 0,.int .i64 0,.int .i64 0,.int .i64 0,.bool false] 33 (0,0)) (by (with_reducible repeat (first|refine bDn ?_ _|refine bDr ?_|refine bAl ?_ _));exact BK349.out)) : gb370 ≠ gb349))
           have n9_:=aMk ((by rw [hg];exact Nat.ne_of_lt (blk_lt (g:=gb362) (o:=.cells #[.int .i64 t359,.int .i64 t360] 30 (0,0)) (by (with_reducible repeat (first|refine bDn ?_ _|refine bDr ?_|refine bAl ?_ _));exact BK362.out)) : gb362 ≠ gb370))
           have n10_:=aMk ((by rw [hg];exact Nat.ne_of_gt (blk_lt (g:=gb362) (o:=.cells #[.int .i64 t359,.int .i64 t360] 30 (0,0)) (by (with_reducible repeat (first|refine bDn ?_ _|refine bDr ?_|refine bAl ?_ _));exact BK362.out)) : gb370 ≠ gb362))
           clear HO_4
           clear BK349
           clear BK362
           clear HB
           have HO_4:=n0_
           have BK349:=n1_
           have BK362:=n2_
           have HB:=n3_
           have BK370:=n4_
           have GW370:=n5_
           have GE370:=n6_
           have NB349_370:=n7_
           have NB370_349:=n8_
           have NB362_370:=n9_
           have NB370_362:=n10_
           clear n0_ n1_ n2_ n3_ n4_ n5_ n6_ n7_ n8_ n9_ n10_
           clear hb hbox hg
           refine hK.out _ _ ⟨(bCe BK362.out 0).trans rfl,(bCe BK362.out 1).trans rfl,HS2_⟩ (fun hHeld => ?_)
           clear hK K
           refine norm_ (a':=?_) ?_ ?_
           rotate_left
           ·show Act.put _ (some 13) _ = _
            simp only [Act.put,List.setIfInBounds_toArray,List.set_cons_zero,List.set_cons_succ,i64_w,i32_w]
            rfl
           refine one_ (i:=11) (N:=none) #[true,true,true,true,true,true,true,true,true,true,true,true] rfl rfl (one_of HT_.out (by kernel_rfl)) (by decide) (fun K hK => ?_)
           have hs139 : w138.cell? ⟨gb370,0,none⟩ = some (.int .i64 0):=(bCe BK370.out 0).trans rfl
           have hfs139:=bFr BK370.out 0
           have hns139_0:=NB349_370.out
           have hns139_1:=NB362_370.out
           have hms139_0:=NB370_349.out
           have hms139_1:=NB370_362.out
           have hs140 : w138.cell? ⟨gb370,1,none⟩ = some (.int .i64 0):=(bCe BK370.out 1).trans rfl
           have hfs140:=bFr BK370.out 1
           have hns140_0:=NB349_370.out
           have hns140_1:=NB362_370.out
           have hms140_0:=NB370_349.out
           have hms140_1:=NB370_362.out
           have hs141 : w138.cell? ⟨gb370,2,none⟩ = some (.int .i64 0):=(bCe BK370.out 2).trans rfl
           have hfs141:=bFr BK370.out 2
           have hns141_0:=NB349_370.out
           have hns141_1:=NB362_370.out
           have hms141_0:=NB370_349.out
           have hms141_1:=NB370_362.out
           have hs142 : w138.cell? ⟨gb370,3,none⟩ = some (.int .i64 0):=(bCe BK370.out 3).trans rfl
           have hfs142:=bFr BK370.out 3
           have hns142_0:=NB349_370.out
           have hns142_1:=NB362_370.out
           have hms142_0:=NB370_349.out
           have hms142_1:=NB370_362.out
           have hs143 : w138.cell? ⟨gb370,4,none⟩ = some (.int .i64 0):=(bCe BK370.out 4).trans rfl
           have hfs143:=bFr BK370.out 4
           have hns143_0:=NB349_370.out
           have hns143_1:=NB362_370.out
           have hms143_0:=NB370_349.out
           have hms143_1:=NB370_362.out
           have hs144 : w138.cell? ⟨gb370,5,none⟩ = some (.bool false):=(bCe BK370.out 5).trans rfl
           have hfs144:=bFr BK370.out 5
           have hns144_0:=NB349_370.out
           have hns144_1:=NB362_370.out
           have hms144_0:=NB370_349.out
           have hms144_1:=NB370_362.out
           refine skip_ (w1:=?_) (by rfl) rfl ?_ ?_
           rotate_left
           ·go_simp
            rfl
           refine hK.out _ _ ⟨((cell_far (p:=⟨gb370,_,none⟩) NB362_370.out _).trans (((cell_far (p:=⟨gb370,_,none⟩) NB362_370.out _).trans (((cell_far (p:=⟨gb370,_,none⟩) NB362_370.out _).trans (((cell_far (p:=⟨gb370,_,none⟩) NB362_370.out _).trans (((cell_far (p:=⟨gb370,_,none⟩) NB362_370.out _).trans (((cell_far (p:=⟨gb370,_,none⟩) NB362_370.out _).trans (hHeld.1)))))))))))),((cell_far (p:=⟨gb370,_,none⟩) NB362_370.out _).trans (((cell_far (p:=⟨gb370,_,none⟩) NB362_370.out _).trans (((cell_far (p:=⟨gb370,_,none⟩) NB362_370.out _).trans (((cell_far (p:=⟨gb370,_,none⟩) NB362_370.out _).trans (((cell_far (p:=⟨gb370,_,none⟩) NB362_370.out _).trans (((cell_far (p:=⟨gb370,_,none⟩) NB362_370.out _).trans (hHeld.2.1)))))))))))),((cell_far (p:=⟨gb370,_,none⟩) (by first|exact Kd.own_blk (Kd.R_ne HO_4.out BK370.out (by decide))|(rw [add_block];exact Kd.own_blk (Kd.R_ne HO_4.out BK370.out (by decide)))|(show (Addr.add _ _).block ≠ _;rw [add_block];exact Kd.own_blk (Kd.R_ne HO_4.out BK370.out (by decide)))|(dsimp only;exact Kd.own_blk (Kd.R_ne HO_4.out BK370.out (by decide)))) _).trans (((cell_far (p:=⟨gb370,_,none⟩) (by first|exact Kd.own_blk (Kd.R_ne HO_4.out BK370.out (by decide))|(rw [add_block];exact Kd.own_blk (Kd.R_ne HO_4.out BK370.out (by decide)))|(show (Addr.add _ _).block ≠ _;rw [add_block];exact Kd.own_blk (Kd.R_ne HO_4.out BK370.out (by decide)))|(dsimp only;exact Kd.own_blk (Kd.R_ne HO_4.out BK370.out (by decide)))) _).trans (((cell_far (p:=⟨gb370,_,none⟩) (by first|exact Kd.own_blk (Kd.R_ne HO_4.out BK370.out (by decide))|(rw [add_block];exact Kd.own_blk (Kd.R_ne HO_4.out BK370.out (by decide)))|(show (Addr.add _ _).block ≠ _;rw [add_block];exact Kd.own_blk (Kd.R_ne HO_4.out BK370.out (by decide)))|(dsimp only;exact Kd.own_blk (Kd.R_ne HO_4.out BK370.out (by decide)))) _).trans (((cell_far (p:=⟨gb370,_,none⟩) (by first|exact Kd.own_blk (Kd.R_ne HO_4.out BK370.out (by decide))|(rw [add_block];exact Kd.own_blk (Kd.R_ne HO_4.out BK370.out (by decide)))|(show (Addr.add _ _).block ≠ _;rw [add_block];exact Kd.own_blk (Kd.R_ne HO_4.out BK370.out (by decide)))|(dsimp only;exact Kd.own_blk (Kd.R_ne HO_4.out BK370.out (by decide)))) _).trans (((cell_far (p:=⟨gb370,_,none⟩) (by first|exact Kd.own_blk (Kd.R_ne HO_4.out BK370.out (by decide))|(rw [add_block];exact Kd.own_blk (Kd.R_ne HO_4.out BK370.out (by decide)))|(show (Addr.add _ _).block ≠ _;rw [add_block];exact Kd.own_blk (Kd.R_ne HO_4.out BK370.out (by decide)))|(dsimp only;exact Kd.own_blk (Kd.R_ne HO_4.out BK370.out (by decide)))) _).trans (((cell_far (p:=⟨gb370,_,none⟩) (by first|exact Kd.own_blk (Kd.R_ne HO_4.out BK370.out (by decide))|(rw [add_block];exact Kd.own_blk (Kd.R_ne HO_4.out BK370.out (by decide)))|(show (Addr.add _ _).block ≠ _;rw [add_block];exact Kd.own_blk (Kd.R_ne HO_4.out BK370.out (by decide)))|(dsimp only;exact Kd.own_blk (Kd.R_ne HO_4.out BK370.out (by decide)))) _).trans (hHeld.2.2))))))))))))⟩ (fun hHeld => ?_)
           clear hK K
           refine done_ (done_of HT_.out (by kernel_rfl)) ?_
           have hnb145:=NB349_370.out
           have hnc145:=NB370_349.out
           have hcz146_0 : w138.cell? ⟨gb349,0,none⟩ = some (.int .i64 0):=(bCe BK349.out 0).trans rfl
           have hcz146_1 : w138.cell? ⟨gb349,1,none⟩ = some (.int .i64 0):=(bCe BK349.out 1).trans rfl
           have hcz146_2 : w138.cell? ⟨gb349,2,none⟩ = some (.int .i64 0):=(bCe BK349.out 2).trans rfl
           have hcz146_3 : w138.cell? ⟨gb349,3,none⟩ = some (.int .i64 0):=(bCe BK349.out 3).trans rfl
           have hcz146_4 : w138.cell? ⟨gb349,4,none⟩ = some (.int .i64 0):=(bCe BK349.out 4).trans rfl
           have hcz146_5 : w138.cell? ⟨gb349,5,none⟩ = some (.bool false):=(bCe BK349.out 5).trans rfl
           have hfz146_0:=bFr BK349.out 0
           have hfz146_1:=bFr BK349.out 1
           have hfz146_2:=bFr BK349.out 2
           have hfz146_3:=bFr BK349.out 3
           have hfz146_4:=bFr BK349.out 4
           have hfz146_5:=bFr BK349.out 5
           try go_wp2
           refine bodyPost_ret (results_ct rfl _ _ gb349 33 #[.int .i64 0,.int .i64 0,.int .i64 0,.int .i64 0,.int .i64 0,.bool false] (0,0) _ rfl (by (with_reducible repeat (first|refine bDn ?_ _|refine bDr ?_|refine bAl ?_ _));refine blk_put (cs:=#[.int .i64 0,.int .i64 0,.int .i64 0,.int .i64 0,.int .i64 0,.bool false]) ?_ 5 _ rfl;(with_reducible repeat (first|refine bDn ?_ _|refine bDr ?_|refine bAl ?_ _));refine blk_put (cs:=#[.int .i64 0,.int .i64 0,.int .i64 0,.int .i64 0,.int .i64 0,.bool false]) ?_ 4 _ rfl;(with_reducible repeat (first|refine bDn ?_ _|refine bDr ?_|refine bAl ?_ _));refine blk_put (cs:=#[.int .i64 0,.int .i64 0,.int .i64 0,.int .i64 0,.int .i64 0,.bool false]) ?_ 3 _ rfl;(with_reducible repeat (first|refine bDn ?_ _|refine bDr ?_|refine bAl ?_ _));refine blk_put (cs:=#[.int .i64 0,.int .i64 0,.int .i64 0,.int .i64 0,.int .i64 0,.bool false]) ?_ 2 _ rfl;(with_reducible repeat (first|refine bDn ?_ _|refine bDr ?_|refine bAl ?_ _));refine blk_put (cs:=#[.int .i64 0,.int .i64 0,.int .i64 0,.int .i64 0,.int .i64 0,.bool false]) ?_ 1 _ rfl;(with_reducible repeat (first|refine bDn ?_ _|refine bDr ?_|refine bAl ?_ _));refine blk_put (cs:=#[.int .i64 0,.int .i64 0,.int .i64 0,.int .i64 0,.int .i64 0,.bool false]) ?_ 0 _ rfl;(with_reducible repeat (first|refine bDn ?_ _|refine bDr ?_|refine bAl ?_ _));refine blk_far ?_ NB349_370.out _;(with_reducible repeat (first|refine bDn ?_ _|refine bDr ?_|refine bAl ?_ _));refine blk_far ?_ NB349_370.out _;(with_reducible repeat (first|refine bDn ?_ _|refine bDr ?_|refine bAl ?_ _));refine blk_far ?_ NB349_370.out _;(with_reducible repeat (first|refine bDn ?_ _|refine bDr ?_|refine bAl ?_ _));refine blk_far ?_ NB349_370.out _;(with_reducible repeat (first|refine bDn ?_ _|refine bDr ?_|refine bAl ?_ _));refine blk_far ?_ NB349_370.out _;(with_reducible repeat (first|refine bDn ?_ _|refine bDr ?_|refine bAl ?_ _));refine blk_far ?_ NB349_370.out _;(with_reducible repeat (first|refine bDn ?_ _|refine bDr ?_|refine bAl ?_ _));exact BK349.out) Tryd.underlying33 rfl (by kernel_rfl)) rfl ?_
           exact ⟨by first | rfl|(simp [errW_none,errW_some] <;> rfl)|(simp [*,errW_none,errW_some] <;> rfl),by repeat (first|(with_reducible first|exact HB.out|apply bwA|apply bwN|apply bw1|refine below_set ?_ GE349.out|refine below_set ?_ GE362.out|refine below_set ?_ GE370.out)|exact HB.out)⟩
         ·rw [if_neg c25] at H
          exact absurd H (by simp)
        ·rw [if_neg c23] at H
         exact absurd H (by simp)
       ·rw [if_neg c21] at H
        exact absurd H (by simp)
      ·rw [if_neg c19] at H
       exact absurd H (by simp)
     ·rw [if_neg c17] at H
      exact absurd H (by simp)
end
section
/-! ### laws_FnExactReadRule: function 4 -/
def laws_FnExactReadRule.f (k : Nat) (a0 : ByteArray) : Option (Bool):=if (a0.size : Int) > 1048576 then (some true) else ((spec_ReadRule.f k a0).bind fun bt380 => ((impl_ReadRule.f k a0).bind fun bt388 => ((laws_eqRule.f bt388.1 bt388.2.1 bt388.2.2.1 bt388.2.2.2.1 bt388.2.2.2.2.1 bt388.2.2.2.2.2.1 bt380.1 bt380.2.1 bt380.2.2.1 bt380.2.2.2.1 bt380.2.2.2.2.1 bt380.2.2.2.2.2.1).bind fun t396 => (if t396 = true then (if bt388.2.2.2.2.2.2 = bt380.2.2.2.2.2.2 then (some true) else (some false)) else (some false)))))
theorem laws_FnExactReadRule.mono : ∀ a0 k,LeO (laws_FnExactReadRule.f k a0) (laws_FnExactReadRule.f (k + 1) a0):=by
 intro a0 k
 unfold laws_FnExactReadRule.f
 repeat' first
   | (with_reducible exact impl_ReadRule.mono ..)
   | (with_reducible exact spec_ReadRule.mono ..)
   | (with_reducible exact LeO.refl _)
   | (with_reducible exact LeO.none _)
   | (with_reducible refine LeO.ite ?_ ?_)
   | (with_reducible refine LeO.bind ?_ (fun _ => ?_))
   | exact impl_ReadRule.mono ..
   | exact spec_ReadRule.mono ..
   | exact LeO.none _
   | refine LeO.ite ?_ ?_
   | refine LeO.bind ?_ (fun _ => ?_)
set_option maxHeartbeats 8000000 in
set_option maxRecDepth 100000 in
theorem laws_FnExactReadRule.calls (k : Nat) (a0 : ByteArray) (r : Bool) (w : World) (hGe : GLe w) (hGp : GLp w) (h : laws_FnExactReadRule.f k a0 = some r) :
  Calls Tryd.prog 4 #[.string a0] w fun e w' => e = .returned (.bool r) ∧ Below w.heap.size w w':=by
 have HGe_:=aMk hGe
 have HGp_:=aMk hGp
 clear hGe hGp
 have hu33:=Tryd.underlying33
 have HB:=aMk (Below.refl w.heap.size w)
 have H : (if (a0.size : Int) > 1048576 then (some true) else ((spec_ReadRule.f k a0).bind fun bt380 => ((impl_ReadRule.f k a0).bind fun bt388 => ((laws_eqRule.f bt388.1 bt388.2.1 bt388.2.2.1 bt388.2.2.2.1 bt388.2.2.2.2.1 bt388.2.2.2.2.2.1 bt380.1 bt380.2.1 bt380.2.2.1 bt380.2.2.2.1 bt380.2.2.2.2.1 bt380.2.2.2.2.2.1).bind fun t396 => (if t396 = true then (if bt388.2.2.2.2.2.2 = bt380.2.2.2.2.2.2 then (some true) else (some false)) else (some false)))))) = some r:=h
 clear h
 by_cases c2 : (a0.size : Int) > 1048576
 ·rw [if_pos c2] at H
  have c2b0 : decide (1048576 < (a0.size : Int)) = true:=decide_eq_true c2
  have c2b1 : decide (1048576 < a0.size) = true:=decide_eq_true (by omega)
  clear c2
  obtain rfl:=Option.some.inj H
  go_enter Tryd.func4,Tryd.ntmps4
  go_wp2
  go_ret
  exact ⟨by first | rfl|(simp [errW_none,errW_some] <;> rfl)|(simp [*,errW_none,errW_some] <;> rfl),by repeat (first|(with_reducible first|exact HB.out|apply bwA|apply bwN|apply bw1)|exact HB.out)⟩
 ·rw [if_neg c2] at H
  have c2b0 : decide (1048576 < (a0.size : Int)) = false:=decide_eq_false c2
  have c2b1 : decide (1048576 < a0.size) = false:=decide_eq_false (by omega)
  clear c2
  replace H:=Option.bind_eq_some_iff.mp H
  obtain ⟨⟨t380,t381,t382,t383,t384,t385,t386⟩,A30,H⟩:=H
  replace H : ((impl_ReadRule.f k a0).bind fun bt388 => ((laws_eqRule.f bt388.1 bt388.2.1 bt388.2.2.1 bt388.2.2.2.1 bt388.2.2.2.2.1 bt388.2.2.2.2.2.1 t380 t381 t382 t383 t384 t385).bind fun t396 => (if t396 = true then (if bt388.2.2.2.2.2.2 = t386 then (some true) else (some false)) else (some false)))) = some r:=H
  have A3:=aMk A30
  clear A30
  replace H:=Option.bind_eq_some_iff.mp H
  obtain ⟨⟨t388,t389,t390,t391,t392,t393,t394⟩,A40,H⟩:=H
  replace H : ((laws_eqRule.f t388 t389 t390 t391 t392 t393 t380 t381 t382 t383 t384 t385).bind fun t396 => (if t396 = true then (if t394 = t386 then (some true) else (some false)) else (some false))) = some r:=H
  have A4:=aMk A40
  clear A40
  replace H:=Option.bind_eq_some_iff.mp H
  obtain ⟨t396,A50,H⟩:=H
  replace H : (if t396 = true then (if t394 = t386 then (some true) else (some false)) else (some false)) = some r:=H
  have A5:=aMk A50
  clear A50
  by_cases c6 : t396 = true
  ·subst c6
   have H1 : (if t394 = t386 then (some true) else (some false)) = some r:=by rw [if_pos rfl] at H;exact H
   clear H
   have H:=H1
   clear H1
   by_cases c7 : t394 = t386
   ·rw [if_pos c7] at H
    have c7b0 : (t394 == t386) = true:=beq_iff_eq.mpr c7
    have c7b1 : (t394 != t386) = false:=bne_eq_false_iff_eq.mpr c7
    clear c7
    obtain rfl:=Option.some.inj H
    go_enter Tryd.func4,Tryd.ntmps4
    go_wp2_with (first|((with_reducible refine gate_callee (f:=8) rfl ?_);refine goesL_ (some 12) rfl rfl Tryd.func8 (by kernel_rfl) rfl #[.string a0] rfl (by (try simp only [List.map_toArray,List.map_cons,List.map_nil]);first | done | rfl|(simp only [List.length_drop,List.length_take];rfl)) ?_;(with_reducible refine (spec_ReadRule.calls k a0 t380 t381 t382 t383 t384 t385 t386 _ A3.out).mono ?_);rintro e w8 ⟨rfl,hb⟩;refine ⟨_,rfl,?_⟩;have n0_:=aMk (below_step (by repeat first|exact HB.out|apply bwA|apply bwN|apply bw1) hb);clear HB;have HB:=n0_;clear n0_;(try clear hb);(try clear hb2);(try clear hk);(try clear hi))|((with_reducible refine gate_dst (N:=3) rfl ?_);refine box_event ?hg (N:=3) ?hd (cs:=#[.int .i64 0,.int .i64 0,.int .i64 0,.int .i64 0,.int .i64 0,.bool false]) (t:=33) ?hr ?_;(case hd => rfl);(case hg => rfl);(case hr => first|(go_simp;done)|(go_simp;rfl));intro gb387 hg w9 hbox hb;have n0_:=aMk (below_step (by repeat first|exact HB.out|apply bwA|apply bwN|apply bw1) hb);have n1_:=aMk (hbox);have n2_:=aMk ((by rw [hg];exact (below_size (by repeat first|exact HB.out|apply bwA|apply bwN|apply bw1)) : w.heap.size ≤ gb387));have n3_:=aMk ((by rw [hg];exact (below_size (by repeat first|exact HB.out|apply bwA|apply bwN|apply bw1)) : w.heap.size ≤ gb387));clear HB;have HB:=n0_;have BK387:=n1_;have GW387:=n2_;have GE387:=n3_;clear n0_ n1_ n2_ n3_;clear hb hbox hg;have hcz10_0 : w9.cell? ⟨gb387,0,none⟩ = some (.int .i64 0):=(bCe BK387.out 0).trans rfl;have hcz10_1 : w9.cell? ⟨gb387,1,none⟩ = some (.int .i64 0):=(bCe BK387.out 1).trans rfl;have hcz10_2 : w9.cell? ⟨gb387,2,none⟩ = some (.int .i64 0):=(bCe BK387.out 2).trans rfl;have hcz10_3 : w9.cell? ⟨gb387,3,none⟩ = some (.int .i64 0):=(bCe BK387.out 3).trans rfl;have hcz10_4 : w9.cell? ⟨gb387,4,none⟩ = some (.int .i64 0):=(bCe BK387.out 4).trans rfl;have hcz10_5 : w9.cell? ⟨gb387,5,none⟩ = some (.bool false):=(bCe BK387.out 5).trans rfl;have hfz10_0:=bFr BK387.out 0;have hfz10_1:=bFr BK387.out 1;have hfz10_2:=bFr BK387.out 2;have hfz10_3:=bFr BK387.out 3;have hfz10_4:=bFr BK387.out 4;have hfz10_5:=bFr BK387.out 5)|((with_reducible refine gate_callee (f:=9) rfl ?_);refine goesL_ (some 17) rfl rfl Tryd.func9 (by kernel_rfl) rfl #[.string a0] rfl (by (try simp only [List.map_toArray,List.map_cons,List.map_nil]);first | done | rfl|(simp only [List.length_drop,List.length_take];rfl)) ?_;(with_reducible refine (impl_ReadRule.calls k a0 t388 t389 t390 t391 t392 t393 t394 _ ?sideGe ?sideGp A4.out).mono ?_);(case sideGe => exact GLe_below HGe_.out (by repeat (first|(with_reducible first|exact HB.out|apply bwA|apply bwN|apply bw1|refine below_set ?_ (Aside0.out (by assumption)))|exact HB.out)));(case sideGp => exact GLp_below HGp_.out (by repeat (first|(with_reducible first|exact HB.out|apply bwA|apply bwN|apply bw1|refine below_set ?_ (Aside0.out (by assumption)))|exact HB.out)));rintro e w11 ⟨rfl,hb⟩;refine ⟨_,rfl,?_⟩;have n0_:=aMk (blk_below (g:=gb387) (o:=.cells #[.int .i64 t380,.int .i64 t381,.int .i64 t382,.int .i64 t383,.int .i64 t384,.bool t385] 33 (0,0)) (by (with_reducible repeat (first|refine bDn ?_ _|refine bDr ?_|refine bAl ?_ _));refine blk_put (cs:=#[.int .i64 t380,.int .i64 t381,.int .i64 t382,.int .i64 t383,.int .i64 t384,.bool false]) ?_ 5 _ rfl;(with_reducible repeat (first|refine bDn ?_ _|refine bDr ?_|refine bAl ?_ _));refine blk_put (cs:=#[.int .i64 t380,.int .i64 t381,.int .i64 t382,.int .i64 t383,.int .i64 0,.bool false]) ?_ 4 _ rfl;(with_reducible repeat (first|refine bDn ?_ _|refine bDr ?_|refine bAl ?_ _));refine blk_put (cs:=#[.int .i64 t380,.int .i64 t381,.int .i64 t382,.int .i64 0,.int .i64 0,.bool false]) ?_ 3 _ rfl;(with_reducible repeat (first|refine bDn ?_ _|refine bDr ?_|refine bAl ?_ _));refine blk_put (cs:=#[.int .i64 t380,.int .i64 t381,.int .i64 0,.int .i64 0,.int .i64 0,.bool false]) ?_ 2 _ rfl;(with_reducible repeat (first|refine bDn ?_ _|refine bDr ?_|refine bAl ?_ _));refine blk_put (cs:=#[.int .i64 t380,.int .i64 0,.int .i64 0,.int .i64 0,.int .i64 0,.bool false]) ?_ 1 _ rfl;(with_reducible repeat (first|refine bDn ?_ _|refine bDr ?_|refine bAl ?_ _));refine blk_put (cs:=#[.int .i64 0,.int .i64 0,.int .i64 0,.int .i64 0,.int .i64 0,.bool false]) ?_ 0 _ rfl;(with_reducible repeat (first|refine bDn ?_ _|refine bDr ?_|refine bAl ?_ _));exact BK387.out) hb);have n1_:=aMk (below_step (by repeat (first|(with_reducible first|exact HB.out|apply bwA|apply bwN|apply bw1|refine below_set ?_ GE387.out)|exact HB.out)) hb);clear BK387;clear HB;have BK387:=n0_;have HB:=n1_;clear n0_ n1_;(try clear hb);(try clear hb2);(try clear hk);(try clear hi))|((with_reducible refine gate_dst (N:=5) rfl ?_);refine box_event ?hg (N:=5) ?hd (cs:=#[.int .i64 0,.int .i64 0,.int .i64 0,.int .i64 0,.int .i64 0,.bool false]) (t:=33) ?hr ?_;(case hd => rfl);(case hg => rfl);(case hr => first|(go_simp;done)|(go_simp;rfl));intro gb395 hg w12 hbox hb;have n0_:=aMk (blk_below (g:=gb387) (o:=.cells #[.int .i64 t380,.int .i64 t381,.int .i64 t382,.int .i64 t383,.int .i64 t384,.bool t385] 33 (0,0)) (by (with_reducible repeat (first|refine bDn ?_ _|refine bDr ?_|refine bAl ?_ _));exact BK387.out) hb);have n1_:=aMk (below_step (by repeat (first|(with_reducible first|exact HB.out|apply bwA|apply bwN|apply bw1|refine below_set ?_ GE387.out)|exact HB.out)) hb);have n2_:=aMk (hbox);have n3_:=aMk ((by rw [hg];exact (below_size (by repeat (first|(with_reducible first|exact HB.out|apply bwA|apply bwN|apply bw1|refine below_set ?_ GE387.out)|exact HB.out))) : w.heap.size ≤ gb395));have n4_:=aMk ((by rw [hg];exact (below_size (by repeat (first|(with_reducible first|exact HB.out|apply bwA|apply bwN|apply bw1|refine below_set ?_ GE387.out)|exact HB.out))) : w.heap.size ≤ gb395));have n5_:=aMk ((by rw [hg];exact Nat.ne_of_lt (blk_lt (g:=gb387) (o:=.cells #[.int .i64 t380,.int .i64 t381,.int .i64 t382,.int .i64 t383,.int .i64 t384,.bool t385] 33 (0,0)) (by (with_reducible repeat (first|refine bDn ?_ _|refine bDr ?_|refine bAl ?_ _));exact BK387.out)) : gb387 ≠ gb395));have n6_:=aMk ((by rw [hg];exact Nat.ne_of_gt (blk_lt (g:=gb387) (o:=.cells #[.int .i64 t380,.int .i64 t381,.int .i64 t382,.int .i64 t383,.int .i64 t384,.bool t385] 33 (0,0)) (by (with_reducible repeat (first|refine bDn ?_ _|refine bDr ?_|refine bAl ?_ _));exact BK387.out)) : gb395 ≠ gb387));clear BK387;clear HB;have BK387:=n0_;have HB:=n1_;have BK395:=n2_;have GW395:=n3_;have GE395:=n4_;have NB387_395:=n5_;have NB395_387:=n6_;clear n0_ n1_ n2_ n3_ n4_ n5_ n6_;clear hb hbox hg;have hnb13:=NB395_387.out;have hnc13:=NB387_395.out;have hcz14_0 : w12.cell? ⟨gb395,0,none⟩ = some (.int .i64 0):=(bCe BK395.out 0).trans rfl;have hcz14_1 : w12.cell? ⟨gb395,1,none⟩ = some (.int .i64 0):=(bCe BK395.out 1).trans rfl;have hcz14_2 : w12.cell? ⟨gb395,2,none⟩ = some (.int .i64 0):=(bCe BK395.out 2).trans rfl;have hcz14_3 : w12.cell? ⟨gb395,3,none⟩ = some (.int .i64 0):=(bCe BK395.out 3).trans rfl;have hcz14_4 : w12.cell? ⟨gb395,4,none⟩ = some (.int .i64 0):=(bCe BK395.out 4).trans rfl;have hcz14_5 : w12.cell? ⟨gb395,5,none⟩ = some (.bool false):=(bCe BK395.out 5).trans rfl;have hfz14_0:=bFr BK395.out 0;have hfz14_1:=bFr BK395.out 1;have hfz14_2:=bFr BK395.out 2;have hfz14_3:=bFr BK395.out 3;have hfz14_4:=bFr BK395.out 4;have hfz14_5:=bFr BK395.out 5;have hcz15_0 : w12.cell? ⟨gb387,0,none⟩ = some (.int .i64 t380):=(bCe BK387.out 0).trans rfl;have hcz15_1 : w12.cell? ⟨gb387,1,none⟩ = some (.int .i64 t381):=(bCe BK387.out 1).trans rfl;have hcz15_2 : w12.cell? ⟨gb387,2,none⟩ = some (.int .i64 t382):=(bCe BK387.out 2).trans rfl;have hcz15_3 : w12.cell? ⟨gb387,3,none⟩ = some (.int .i64 t383):=(bCe BK387.out 3).trans rfl;have hcz15_4 : w12.cell? ⟨gb387,4,none⟩ = some (.int .i64 t384):=(bCe BK387.out 4).trans rfl;have hcz15_5 : w12.cell? ⟨gb387,5,none⟩ = some (.bool t385):=(bCe BK387.out 5).trans rfl;have hfz15_0:=bFr BK387.out 0;have hfz15_1:=bFr BK387.out 1;have hfz15_2:=bFr BK387.out 2;have hfz15_3:=bFr BK387.out 3;have hfz15_4:=bFr BK387.out 4;have hfz15_5:=bFr BK387.out 5)|((with_reducible refine gate_callee (f:=10) rfl ?_);refine goesL_ (some 22) rfl rfl Tryd.func10 (by kernel_rfl) rfl #[.agg #[.int .i64 t388,.int .i64 t389,.int .i64 t390,.int .i64 t391,.int .i64 t392,.bool t393],.agg #[.int .i64 t380,.int .i64 t381,.int .i64 t382,.int .i64 t383,.int .i64 t384,.bool t385]] rfl (by (try simp only [List.map_toArray,List.map_cons,List.map_nil]);first | done | rfl|(simp only [List.length_drop,List.length_take];rfl)) ?_;(with_reducible refine (laws_eqRule.calls t388 t389 t390 t391 t392 t393 t380 t381 t382 t383 t384 t385 true _ A5.out).mono ?_);rintro e w16 ⟨rfl,hb⟩;refine ⟨_,rfl,?_⟩;have n0_:=aMk (blk_below (g:=gb387) (o:=.cells #[.int .i64 t380,.int .i64 t381,.int .i64 t382,.int .i64 t383,.int .i64 t384,.bool t385] 33 (0,0)) (by (with_reducible repeat (first|refine bDn ?_ _|refine bDr ?_|refine bAl ?_ _));refine blk_far ?_ NB387_395.out _;(with_reducible repeat (first|refine bDn ?_ _|refine bDr ?_|refine bAl ?_ _));refine blk_far ?_ NB387_395.out _;(with_reducible repeat (first|refine bDn ?_ _|refine bDr ?_|refine bAl ?_ _));refine blk_far ?_ NB387_395.out _;(with_reducible repeat (first|refine bDn ?_ _|refine bDr ?_|refine bAl ?_ _));refine blk_far ?_ NB387_395.out _;(with_reducible repeat (first|refine bDn ?_ _|refine bDr ?_|refine bAl ?_ _));refine blk_far ?_ NB387_395.out _;(with_reducible repeat (first|refine bDn ?_ _|refine bDr ?_|refine bAl ?_ _));refine blk_far ?_ NB387_395.out _;(with_reducible repeat (first|refine bDn ?_ _|refine bDr ?_|refine bAl ?_ _));exact BK387.out) hb);have n1_:=aMk (blk_below (g:=gb395) (o:=.cells #[.int .i64 t388,.int .i64 t389,.int .i64 t390,.int .i64 t391,.int .i64 t392,.bool t393] 33 (0,0)) (by (with_reducible repeat (first|refine bDn ?_ _|refine bDr ?_|refine bAl ?_ _));refine blk_put (cs:=#[.int .i64 t388,.int .i64 t389,.int .i64 t390,.int .i64 t391,.int .i64 t392,.bool false]) ?_ 5 _ rfl;(with_reducible repeat (first|refine bDn ?_ _|refine bDr ?_|refine bAl ?_ _));refine blk_put (cs:=#[.int .i64 t388,.int .i64 t389,.int .i64 t390,.int .i64 t391,.int .i64 0,.bool false]) ?_ 4 _ rfl;(with_reducible repeat (first|refine bDn ?_ _|refine bDr ?_|refine bAl ?_ _));refine blk_put (cs:=#[.int .i64 t388,.int .i64 t389,.int .i64 t390,.int .i64 0,.int .i64 0,.bool false]) ?_ 3 _ rfl;(with_reducible repeat (first|refine bDn ?_ _|refine bDr ?_|refine bAl ?_ _));refine blk_put (cs:=#[.int .i64 t388,.int .i64 t389,.int .i64 0,.int .i64 0,.int .i64 0,.bool false]) ?_ 2 _ rfl;(with_reducible repeat (first|refine bDn ?_ _|refine bDr ?_|refine bAl ?_ _));refine blk_put (cs:=#[.int .i64 t388,.int .i64 0,.int .i64 0,.int .i64 0,.int .i64 0,.bool false]) ?_ 1 _ rfl;(with_reducible repeat (first|refine bDn ?_ _|refine bDr ?_|refine bAl ?_ _));refine blk_put (cs:=#[.int .i64 0,.int .i64 0,.int .i64 0,.int .i64 0,.int .i64 0,.bool false]) ?_ 0 _ rfl;(with_reducible repeat (first|refine bDn ?_ _|refine bDr ?_|refine bAl ?_ _));exact BK395.out) hb);have n2_:=aMk (below_step (by repeat (first|(with_reducible first|exact HB.out|apply bwA|apply bwN|apply bw1|refine below_set ?_ GE387.out|refine below_set ?_ GE395.out)|exact HB.out)) hb);clear BK387;clear BK395;clear HB;have BK387:=n0_;have BK395:=n1_;have HB:=n2_;clear n0_ n1_ n2_;(try clear hb);(try clear hb2);(try clear hk);(try clear hi)))
    go_ret
    exact ⟨by first | rfl|(simp [errW_none,errW_some] <;> rfl)|(simp [*,errW_none,errW_some] <;> rfl),by repeat (first|(with_reducible first|exact HB.out|apply bwA|apply bwN|apply bw1|refine below_set ?_ GE387.out|refine below_set ?_ GE395.out)|exact HB.out)⟩
   ·rw [if_neg c7] at H
    have c7b0 : (t394 == t386) = false:=beq_eq_false_iff_ne.mpr c7
    have c7b1 : (t394 != t386) = true:=bne_iff_ne.mpr c7
    obtain rfl:=Option.some.inj H
    go_enter Tryd.func4,Tryd.ntmps4
    go_wp2_with (first|((with_reducible refine gate_callee (f:=8) rfl ?_);refine goesL_ (some 12) rfl rfl Tryd.func8 (by kernel_rfl) rfl #[.string a0] rfl (by (try simp only [List.map_toArray,List.map_cons,List.map_nil]);first | done | rfl|(simp only [List.length_drop,List.length_take];rfl)) ?_;(with_reducible refine (spec_ReadRule.calls k a0 t380 t381 t382 t383 t384 t385 t386 _ A3.out).mono ?_);rintro e w17 ⟨rfl,hb⟩;refine ⟨_,rfl,?_⟩;have n0_:=aMk (below_step (by repeat first|exact HB.out|apply bwA|apply bwN|apply bw1) hb);clear HB;have HB:=n0_;clear n0_;(try clear hb);(try clear hb2);(try clear hk);(try clear hi))|((with_reducible refine gate_dst (N:=3) rfl ?_);refine box_event ?hg (N:=3) ?hd (cs:=#[.int .i64 0,.int .i64 0,.int .i64 0,.int .i64 0,.int .i64 0,.bool false]) (t:=33) ?hr ?_;(case hd => rfl);(case hg => rfl);(case hr => first|(go_simp;done)|(go_simp;rfl));intro gb387 hg w18 hbox hb;have n0_:=aMk (below_step (by repeat first|exact HB.out|apply bwA|apply bwN|apply bw1) hb);have n1_:=aMk (hbox);have n2_:=aMk ((by rw [hg];exact (below_size (by repeat first|exact HB.out|apply bwA|apply bwN|apply bw1)) : w.heap.size ≤ gb387));have n3_:=aMk ((by rw [hg];exact (below_size (by repeat first|exact HB.out|apply bwA|apply bwN|apply bw1)) : w.heap.size ≤ gb387));clear HB;have HB:=n0_;have BK387:=n1_;have GW387:=n2_;have GE387:=n3_;clear n0_ n1_ n2_ n3_;clear hb hbox hg;have hcz19_0 : w18.cell? ⟨gb387,0,none⟩ = some (.int .i64 0):=(bCe BK387.out 0).trans rfl;have hcz19_1 : w18.cell? ⟨gb387,1,none⟩ = some (.int .i64 0):=(bCe BK387.out 1).trans rfl;have hcz19_2 : w18.cell? ⟨gb387,2,none⟩ = some (.int .i64 0):=(bCe BK387.out 2).trans rfl;have hcz19_3 : w18.cell? ⟨gb387,3,none⟩ = some (.int .i64 0):=(bCe BK387.out 3).trans rfl;have hcz19_4 : w18.cell? ⟨gb387,4,none⟩ = some (.int .i64 0):=(bCe BK387.out 4).trans rfl;have hcz19_5 : w18.cell? ⟨gb387,5,none⟩ = some (.bool false):=(bCe BK387.out 5).trans rfl;have hfz19_0:=bFr BK387.out 0;have hfz19_1:=bFr BK387.out 1;have hfz19_2:=bFr BK387.out 2;have hfz19_3:=bFr BK387.out 3;have hfz19_4:=bFr BK387.out 4;have hfz19_5:=bFr BK387.out 5)|((with_reducible refine gate_callee (f:=9) rfl ?_);refine goesL_ (some 17) rfl rfl Tryd.func9 (by kernel_rfl) rfl #[.string a0] rfl (by (try simp only [List.map_toArray,List.map_cons,List.map_nil]);first | done | rfl|(simp only [List.length_drop,List.length_take];rfl)) ?_;(with_reducible refine (impl_ReadRule.calls k a0 t388 t389 t390 t391 t392 t393 t394 _ ?sideGe ?sideGp A4.out).mono ?_);(case sideGe => exact GLe_below HGe_.out (by repeat (first|(with_reducible first|exact HB.out|apply bwA|apply bwN|apply bw1|refine below_set ?_ (Aside0.out (by assumption)))|exact HB.out)));(case sideGp => exact GLp_below HGp_.out (by repeat (first|(with_reducible first|exact HB.out|apply bwA|apply bwN|apply bw1|refine below_set ?_ (Aside0.out (by assumption)))|exact HB.out)));rintro e w20 ⟨rfl,hb⟩;refine ⟨_,rfl,?_⟩;have n0_:=aMk (blk_below (g:=gb387) (o:=.cells #[.int .i64 t380,.int .i64 t381,.int .i64 t382,.int .i64 t383,.int .i64 t384,.bool t385] 33 (0,0)) (by (with_reducible repeat (first|refine bDn ?_ _|refine bDr ?_|refine bAl ?_ _));refine blk_put (cs:=#[.int .i64 t380,.int .i64 t381,.int .i64 t382,.int .i64 t383,.int .i64 t384,.bool false]) ?_ 5 _ rfl;(with_reducible repeat (first|refine bDn ?_ _|refine bDr ?_|refine bAl ?_ _));refine blk_put (cs:=#[.int .i64 t380,.int .i64 t381,.int .i64 t382,.int .i64 t383,.int .i64 0,.bool false]) ?_ 4 _ rfl;(with_reducible repeat (first|refine bDn ?_ _|refine bDr ?_|refine bAl ?_ _));refine blk_put (cs:=#[.int .i64 t380,.int .i64 t381,.int .i64 t382,.int .i64 0,.int .i64 0,.bool false]) ?_ 3 _ rfl;(with_reducible repeat (first|refine bDn ?_ _|refine bDr ?_|refine bAl ?_ _));refine blk_put (cs:=#[.int .i64 t380,.int .i64 t381,.int .i64 0,.int .i64 0,.int .i64 0,.bool false]) ?_ 2 _ rfl;(with_reducible repeat (first|refine bDn ?_ _|refine bDr ?_|refine bAl ?_ _));refine blk_put (cs:=#[.int .i64 t380,.int .i64 0,.int .i64 0,.int .i64 0,.int .i64 0,.bool false]) ?_ 1 _ rfl;(with_reducible repeat (first|refine bDn ?_ _|refine bDr ?_|refine bAl ?_ _));refine blk_put (cs:=#[.int .i64 0,.int .i64 0,.int .i64 0,.int .i64 0,.int .i64 0,.bool false]) ?_ 0 _ rfl;(with_reducible repeat (first|refine bDn ?_ _|refine bDr ?_|refine bAl ?_ _));exact BK387.out) hb);have n1_:=aMk (below_step (by repeat (first|(with_reducible first|exact HB.out|apply bwA|apply bwN|apply bw1|refine below_set ?_ GE387.out)|exact HB.out)) hb);clear BK387;clear HB;have BK387:=n0_;have HB:=n1_;clear n0_ n1_;(try clear hb);(try clear hb2);(try clear hk);(try clear hi))|((with_reducible refine gate_dst (N:=5) rfl ?_);refine box_event ?hg (N:=5) ?hd (cs:=#[.int .i64 0,.int .i64 0,.int .i64 0,.int .i64 0,.int .i64 0,.bool false]) (t:=33) ?hr ?_;(case hd => rfl);(case hg => rfl);(case hr => first|(go_simp;done)|(go_simp;rfl));intro gb395 hg w21 hbox hb;have n0_:=aMk (blk_below (g:=gb387) (o:=.cells #[.int .i64 t380,.int .i64 t381,.int .i64 t382,.int .i64 t383,.int .i64 t384,.bool t385] 33 (0,0)) (by (with_reducible repeat (first|refine bDn ?_ _|refine bDr ?_|refine bAl ?_ _));exact BK387.out) hb);have n1_:=aMk (below_step (by repeat (first|(with_reducible first|exact HB.out|apply bwA|apply bwN|apply bw1|refine below_set ?_ GE387.out)|exact HB.out)) hb);have n2_:=aMk (hbox);have n3_:=aMk ((by rw [hg];exact (below_size (by repeat (first|(with_reducible first|exact HB.out|apply bwA|apply bwN|apply bw1|refine below_set ?_ GE387.out)|exact HB.out))) : w.heap.size ≤ gb395));have n4_:=aMk ((by rw [hg];exact (below_size (by repeat (first|(with_reducible first|exact HB.out|apply bwA|apply bwN|apply bw1|refine below_set ?_ GE387.out)|exact HB.out))) : w.heap.size ≤ gb395));have n5_:=aMk ((by rw [hg];exact Nat.ne_of_lt (blk_lt (g:=gb387) (o:=.cells #[.int .i64 t380,.int .i64 t381,.int .i64 t382,.int .i64 t383,.int .i64 t384,.bool t385] 33 (0,0)) (by (with_reducible repeat (first|refine bDn ?_ _|refine bDr ?_|refine bAl ?_ _));exact BK387.out)) : gb387 ≠ gb395));have n6_:=aMk ((by rw [hg];exact Nat.ne_of_gt (blk_lt (g:=gb387) (o:=.cells #[.int .i64 t380,.int .i64 t381,.int .i64 t382,.int .i64 t383,.int .i64 t384,.bool t385] 33 (0,0)) (by (with_reducible repeat (first|refine bDn ?_ _|refine bDr ?_|refine bAl ?_ _));exact BK387.out)) : gb395 ≠ gb387));clear BK387;clear HB;have BK387:=n0_;have HB:=n1_;have BK395:=n2_;have GW395:=n3_;have GE395:=n4_;have NB387_395:=n5_;have NB395_387:=n6_;clear n0_ n1_ n2_ n3_ n4_ n5_ n6_;clear hb hbox hg;have hnb22:=NB395_387.out;have hnc22:=NB387_395.out;have hcz23_0 : w21.cell? ⟨gb395,0,none⟩ = some (.int .i64 0):=(bCe BK395.out 0).trans rfl;have hcz23_1 : w21.cell? ⟨gb395,1,none⟩ = some (.int .i64 0):=(bCe BK395.out 1).trans rfl;have hcz23_2 : w21.cell? ⟨gb395,2,none⟩ = some (.int .i64 0):=(bCe BK395.out 2).trans rfl;have hcz23_3 : w21.cell? ⟨gb395,3,none⟩ = some (.int .i64 0):=(bCe BK395.out 3).trans rfl;have hcz23_4 : w21.cell? ⟨gb395,4,none⟩ = some (.int .i64 0):=(bCe BK395.out 4).trans rfl;have hcz23_5 : w21.cell? ⟨gb395,5,none⟩ = some (.bool false):=(bCe BK395.out 5).trans rfl;have hfz23_0:=bFr BK395.out 0;have hfz23_1:=bFr BK395.out 1;have hfz23_2:=bFr BK395.out 2;have hfz23_3:=bFr BK395.out 3;have hfz23_4:=bFr BK395.out 4;have hfz23_5:=bFr BK395.out 5;have hcz24_0 : w21.cell? ⟨gb387,0,none⟩ = some (.int .i64 t380):=(bCe BK387.out 0).trans rfl;have hcz24_1 : w21.cell? ⟨gb387,1,none⟩ = some (.int .i64 t381):=(bCe BK387.out 1).trans rfl;have hcz24_2 : w21.cell? ⟨gb387,2,none⟩ = some (.int .i64 t382):=(bCe BK387.out 2).trans rfl;have hcz24_3 : w21.cell? ⟨gb387,3,none⟩ = some (.int .i64 t383):=(bCe BK387.out 3).trans rfl;have hcz24_4 : w21.cell? ⟨gb387,4,none⟩ = some (.int .i64 t384):=(bCe BK387.out 4).trans rfl;have hcz24_5 : w21.cell? ⟨gb387,5,none⟩ = some (.bool t385):=(bCe BK387.out 5).trans rfl;have hfz24_0:=bFr BK387.out 0;have hfz24_1:=bFr BK387.out 1;have hfz24_2:=bFr BK387.out 2;have hfz24_3:=bFr BK387.out 3;have hfz24_4:=bFr BK387.out 4;have hfz24_5:=bFr BK387.out 5)|((with_reducible refine gate_callee (f:=10) rfl ?_);refine goesL_ (some 22) rfl rfl Tryd.func10 (by kernel_rfl) rfl #[.agg #[.int .i64 t388,.int .i64 t389,.int .i64 t390,.int .i64 t391,.int .i64 t392,.bool t393],.agg #[.int .i64 t380,.int .i64 t381,.int .i64 t382,.int .i64 t383,.int .i64 t384,.bool t385]] rfl (by (try simp only [List.map_toArray,List.map_cons,List.map_nil]);first | done | rfl|(simp only [List.length_drop,List.length_take];rfl)) ?_;(with_reducible refine (laws_eqRule.calls t388 t389 t390 t391 t392 t393 t380 t381 t382 t383 t384 t385 true _ A5.out).mono ?_);rintro e w25 ⟨rfl,hb⟩;refine ⟨_,rfl,?_⟩;have n0_:=aMk (blk_below (g:=gb387) (o:=.cells #[.int .i64 t380,.int .i64 t381,.int .i64 t382,.int .i64 t383,.int .i64 t384,.bool t385] 33 (0,0)) (by (with_reducible repeat (first|refine bDn ?_ _|refine bDr ?_|refine bAl ?_ _));refine blk_far ?_ NB387_395.out _;(with_reducible repeat (first|refine bDn ?_ _|refine bDr ?_|refine bAl ?_ _));refine blk_far ?_ NB387_395.out _;(with_reducible repeat (first|refine bDn ?_ _|refine bDr ?_|refine bAl ?_ _));refine blk_far ?_ NB387_395.out _;(with_reducible repeat (first|refine bDn ?_ _|refine bDr ?_|refine bAl ?_ _));refine blk_far ?_ NB387_395.out _;(with_reducible repeat (first|refine bDn ?_ _|refine bDr ?_|refine bAl ?_ _));refine blk_far ?_ NB387_395.out _;(with_reducible repeat (first|refine bDn ?_ _|refine bDr ?_|refine bAl ?_ _));refine blk_far ?_ NB387_395.out _;(with_reducible repeat (first|refine bDn ?_ _|refine bDr ?_|refine bAl ?_ _));exact BK387.out) hb);have n1_:=aMk (blk_below (g:=gb395) (o:=.cells #[.int .i64 t388,.int .i64 t389,.int .i64 t390,.int .i64 t391,.int .i64 t392,.bool t393] 33 (0,0)) (by (with_reducible repeat (first|refine bDn ?_ _|refine bDr ?_|refine bAl ?_ _));refine blk_put (cs:=#[.int .i64 t388,.int .i64 t389,.int .i64 t390,.int .i64 t391,.int .i64 t392,.bool false]) ?_ 5 _ rfl;(with_reducible repeat (first|refine bDn ?_ _|refine bDr ?_|refine bAl ?_ _));refine blk_put (cs:=#[.int .i64 t388,.int .i64 t389,.int .i64 t390,.int .i64 t391,.int .i64 0,.bool false]) ?_ 4 _ rfl;(with_reducible repeat (first|refine bDn ?_ _|refine bDr ?_|refine bAl ?_ _));refine blk_put (cs:=#[.int .i64 t388,.int .i64 t389,.int .i64 t390,.int .i64 0,.int .i64 0,.bool false]) ?_ 3 _ rfl;(with_reducible repeat (first|refine bDn ?_ _|refine bDr ?_|refine bAl ?_ _));refine blk_put (cs:=#[.int .i64 t388,.int .i64 t389,.int .i64 0,.int .i64 0,.int .i64 0,.bool false]) ?_ 2 _ rfl;(with_reducible repeat (first|refine bDn ?_ _|refine bDr ?_|refine bAl ?_ _));refine blk_put (cs:=#[.int .i64 t388,.int .i64 0,.int .i64 0,.int .i64 0,.int .i64 0,.bool false]) ?_ 1 _ rfl;(with_reducible repeat (first|refine bDn ?_ _|refine bDr ?_|refine bAl ?_ _));refine blk_put (cs:=#[.int .i64 0,.int .i64 0,.int .i64 0,.int .i64 0,.int .i64 0,.bool false]) ?_ 0 _ rfl;(with_reducible repeat (first|refine bDn ?_ _|refine bDr ?_|refine bAl ?_ _));exact BK395.out) hb);have n2_:=aMk (below_step (by repeat (first|(with_reducible first|exact HB.out|apply bwA|apply bwN|apply bw1|refine below_set ?_ GE387.out|refine below_set ?_ GE395.out)|exact HB.out)) hb);clear BK387;clear BK395;clear HB;have BK387:=n0_;have BK395:=n1_;have HB:=n2_;clear n0_ n1_ n2_;(try clear hb);(try clear hb2);(try clear hk);(try clear hi)))
    go_ret
    exact ⟨by first | rfl|(simp [errW_none,errW_some] <;> rfl)|(simp [*,errW_none,errW_some] <;> rfl),by repeat (first|(with_reducible first|exact HB.out|apply bwA|apply bwN|apply bw1|refine below_set ?_ GE387.out|refine below_set ?_ GE395.out)|exact HB.out)⟩
  ·replace c6:=Bool.eq_false_iff.mpr c6
   subst c6
   have H1 : (some false) = some r:=by rw [if_neg (show ¬ (false = true) by decide)] at H;exact H
   clear H
   have H:=H1
   clear H1
   obtain rfl:=Option.some.inj H
   go_enter Tryd.func4,Tryd.ntmps4
   go_wp2_with (first|((with_reducible refine gate_callee (f:=8) rfl ?_);refine goesL_ (some 12) rfl rfl Tryd.func8 (by kernel_rfl) rfl #[.string a0] rfl (by (try simp only [List.map_toArray,List.map_cons,List.map_nil]);first | done | rfl|(simp only [List.length_drop,List.length_take];rfl)) ?_;(with_reducible refine (spec_ReadRule.calls k a0 t380 t381 t382 t383 t384 t385 t386 _ A3.out).mono ?_);rintro e w26 ⟨rfl,hb⟩;refine ⟨_,rfl,?_⟩;have n0_:=aMk (below_step (by repeat first|exact HB.out|apply bwA|apply bwN|apply bw1) hb);clear HB;have HB:=n0_;clear n0_;(try clear hb);(try clear hb2);(try clear hk);(try clear hi))|((with_reducible refine gate_dst (N:=3) rfl ?_);refine box_event ?hg (N:=3) ?hd (cs:=#[.int .i64 0,.int .i64 0,.int .i64 0,.int .i64 0,.int .i64 0,.bool false]) (t:=33) ?hr ?_;(case hd => rfl);(case hg => rfl);(case hr => first|(go_simp;done)|(go_simp;rfl));intro gb387 hg w27 hbox hb;have n0_:=aMk (below_step (by repeat first|exact HB.out|apply bwA|apply bwN|apply bw1) hb);have n1_:=aMk (hbox);have n2_:=aMk ((by rw [hg];exact (below_size (by repeat first|exact HB.out|apply bwA|apply bwN|apply bw1)) : w.heap.size ≤ gb387));have n3_:=aMk ((by rw [hg];exact (below_size (by repeat first|exact HB.out|apply bwA|apply bwN|apply bw1)) : w.heap.size ≤ gb387));clear HB;have HB:=n0_;have BK387:=n1_;have GW387:=n2_;have GE387:=n3_;clear n0_ n1_ n2_ n3_;clear hb hbox hg;have hcz28_0 : w27.cell? ⟨gb387,0,none⟩ = some (.int .i64 0):=(bCe BK387.out 0).trans rfl;have hcz28_1 : w27.cell? ⟨gb387,1,none⟩ = some (.int .i64 0):=(bCe BK387.out 1).trans rfl;have hcz28_2 : w27.cell? ⟨gb387,2,none⟩ = some (.int .i64 0):=(bCe BK387.out 2).trans rfl;have hcz28_3 : w27.cell? ⟨gb387,3,none⟩ = some (.int .i64 0):=(bCe BK387.out 3).trans rfl;have hcz28_4 : w27.cell? ⟨gb387,4,none⟩ = some (.int .i64 0):=(bCe BK387.out 4).trans rfl;have hcz28_5 : w27.cell? ⟨gb387,5,none⟩ = some (.bool false):=(bCe BK387.out 5).trans rfl;have hfz28_0:=bFr BK387.out 0;have hfz28_1:=bFr BK387.out 1;have hfz28_2:=bFr BK387.out 2;have hfz28_3:=bFr BK387.out 3;have hfz28_4:=bFr BK387.out 4;have hfz28_5:=bFr BK387.out 5)|((with_reducible refine gate_callee (f:=9) rfl ?_);refine goesL_ (some 17) rfl rfl Tryd.func9 (by kernel_rfl) rfl #[.string a0] rfl (by (try simp only [List.map_toArray,List.map_cons,List.map_nil]);first | done | rfl|(simp only [List.length_drop,List.length_take];rfl)) ?_;(with_reducible refine (impl_ReadRule.calls k a0 t388 t389 t390 t391 t392 t393 t394 _ ?sideGe ?sideGp A4.out).mono ?_);(case sideGe => exact GLe_below HGe_.out (by repeat (first|(with_reducible first|exact HB.out|apply bwA|apply bwN|apply bw1|refine below_set ?_ (Aside0.out (by assumption)))|exact HB.out)));(case sideGp => exact GLp_below HGp_.out (by repeat (first|(with_reducible first|exact HB.out|apply bwA|apply bwN|apply bw1|refine below_set ?_ (Aside0.out (by assumption)))|exact HB.out)));rintro e w29 ⟨rfl,hb⟩;refine ⟨_,rfl,?_⟩;have n0_:=aMk (blk_below (g:=gb387) (o:=.cells #[.int .i64 t380,.int .i64 t381,.int .i64 t382,.int .i64 t383,.int .i64 t384,.bool t385] 33 (0,0)) (by (with_reducible repeat (first|refine bDn ?_ _|refine bDr ?_|refine bAl ?_ _));refine blk_put (cs:=#[.int .i64 t380,.int .i64 t381,.int .i64 t382,.int .i64 t383,.int .i64 t384,.bool false]) ?_ 5 _ rfl;(with_reducible repeat (first|refine bDn ?_ _|refine bDr ?_|refine bAl ?_ _));refine blk_put (cs:=#[.int .i64 t380,.int .i64 t381,.int .i64 t382,.int .i64 t383,.int .i64 0,.bool false]) ?_ 4 _ rfl;(with_reducible repeat (first|refine bDn ?_ _|refine bDr ?_|refine bAl ?_ _));refine blk_put (cs:=#[.int .i64 t380,.int .i64 t381,.int .i64 t382,.int .i64 0,.int .i64 0,.bool false]) ?_ 3 _ rfl;(with_reducible repeat (first|refine bDn ?_ _|refine bDr ?_|refine bAl ?_ _));refine blk_put (cs:=#[.int .i64 t380,.int .i64 t381,.int .i64 0,.int .i64 0,.int .i64 0,.bool false]) ?_ 2 _ rfl;(with_reducible repeat (first|refine bDn ?_ _|refine bDr ?_|refine bAl ?_ _));refine blk_put (cs:=#[.int .i64 t380,.int .i64 0,.int .i64 0,.int .i64 0,.int .i64 0,.bool false]) ?_ 1 _ rfl;(with_reducible repeat (first|refine bDn ?_ _|refine bDr ?_|refine bAl ?_ _));refine blk_put (cs:=#[.int .i64 0,.int .i64 0,.int .i64 0,.int .i64 0,.int .i64 0,.bool false]) ?_ 0 _ rfl;(with_reducible repeat (first|refine bDn ?_ _|refine bDr ?_|refine bAl ?_ _));exact BK387.out) hb);have n1_:=aMk (below_step (by repeat (first|(with_reducible first|exact HB.out|apply bwA|apply bwN|apply bw1|refine below_set ?_ GE387.out)|exact HB.out)) hb);clear BK387;clear HB;have BK387:=n0_;have HB:=n1_;clear n0_ n1_;(try clear hb);(try clear hb2);(try clear hk);(try clear hi))|((with_reducible refine gate_dst (N:=5) rfl ?_);refine box_event ?hg (N:=5) ?hd (cs:=#[.int .i64 0,.int .i64 0,.int .i64 0,.int .i64 0,.int .i64 0,.bool false]) (t:=33) ?hr ?_;(case hd => rfl);(case hg => rfl);(case hr => first|(go_simp;done)|(go_simp;rfl));intro gb395 hg w30 hbox hb;have n0_:=aMk (blk_below (g:=gb387) (o:=.cells #[.int .i64 t380,.int .i64 t381,.int .i64 t382,.int .i64 t383,.int .i64 t384,.bool t385] 33 (0,0)) (by (with_reducible repeat (first|refine bDn ?_ _|refine bDr ?_|refine bAl ?_ _));exact BK387.out) hb);have n1_:=aMk (below_step (by repeat (first|(with_reducible first|exact HB.out|apply bwA|apply bwN|apply bw1|refine below_set ?_ GE387.out)|exact HB.out)) hb);have n2_:=aMk (hbox);have n3_:=aMk ((by rw [hg];exact (below_size (by repeat (first|(with_reducible first|exact HB.out|apply bwA|apply bwN|apply bw1|refine below_set ?_ GE387.out)|exact HB.out))) : w.heap.size ≤ gb395));have n4_:=aMk ((by rw [hg];exact (below_size (by repeat (first|(with_reducible first|exact HB.out|apply bwA|apply bwN|apply bw1|refine below_set ?_ GE387.out)|exact HB.out))) : w.heap.size ≤ gb395));have n5_:=aMk ((by rw [hg];exact Nat.ne_of_lt (blk_lt (g:=gb387) (o:=.cells #[.int .i64 t380,.int .i64 t381,.int .i64 t382,.int .i64 t383,.int .i64 t384,.bool t385] 33 (0,0)) (by (with_reducible repeat (first|refine bDn ?_ _|refine bDr ?_|refine bAl ?_ _));exact BK387.out)) : gb387 ≠ gb395));have n6_:=aMk ((by rw [hg];exact Nat.ne_of_gt (blk_lt (g:=gb387) (o:=.cells #[.int .i64 t380,.int .i64 t381,.int .i64 t382,.int .i64 t383,.int .i64 t384,.bool t385] 33 (0,0)) (by (with_reducible repeat (first|refine bDn ?_ _|refine bDr ?_|refine bAl ?_ _));exact BK387.out)) : gb395 ≠ gb387));clear BK387;clear HB;have BK387:=n0_;have HB:=n1_;have BK395:=n2_;have GW395:=n3_;have GE395:=n4_;have NB387_395:=n5_;have NB395_387:=n6_;clear n0_ n1_ n2_ n3_ n4_ n5_ n6_;clear hb hbox hg;have hnb31:=NB395_387.out;have hnc31:=NB387_395.out;have hcz32_0 : w30.cell? ⟨gb395,0,none⟩ = some (.int .i64 0):=(bCe BK395.out 0).trans rfl;have hcz32_1 : w30.cell? ⟨gb395,1,none⟩ = some (.int .i64 0):=(bCe BK395.out 1).trans rfl;have hcz32_2 : w30.cell? ⟨gb395,2,none⟩ = some (.int .i64 0):=(bCe BK395.out 2).trans rfl;have hcz32_3 : w30.cell? ⟨gb395,3,none⟩ = some (.int .i64 0):=(bCe BK395.out 3).trans rfl;have hcz32_4 : w30.cell? ⟨gb395,4,none⟩ = some (.int .i64 0):=(bCe BK395.out 4).trans rfl;have hcz32_5 : w30.cell? ⟨gb395,5,none⟩ = some (.bool false):=(bCe BK395.out 5).trans rfl;have hfz32_0:=bFr BK395.out 0;have hfz32_1:=bFr BK395.out 1;have hfz32_2:=bFr BK395.out 2;have hfz32_3:=bFr BK395.out 3;have hfz32_4:=bFr BK395.out 4;have hfz32_5:=bFr BK395.out 5;have hcz33_0 : w30.cell? ⟨gb387,0,none⟩ = some (.int .i64 t380):=(bCe BK387.out 0).trans rfl;have hcz33_1 : w30.cell? ⟨gb387,1,none⟩ = some (.int .i64 t381):=(bCe BK387.out 1).trans rfl;have hcz33_2 : w30.cell? ⟨gb387,2,none⟩ = some (.int .i64 t382):=(bCe BK387.out 2).trans rfl;have hcz33_3 : w30.cell? ⟨gb387,3,none⟩ = some (.int .i64 t383):=(bCe BK387.out 3).trans rfl;have hcz33_4 : w30.cell? ⟨gb387,4,none⟩ = some (.int .i64 t384):=(bCe BK387.out 4).trans rfl;have hcz33_5 : w30.cell? ⟨gb387,5,none⟩ = some (.bool t385):=(bCe BK387.out 5).trans rfl;have hfz33_0:=bFr BK387.out 0;have hfz33_1:=bFr BK387.out 1;have hfz33_2:=bFr BK387.out 2;have hfz33_3:=bFr BK387.out 3;have hfz33_4:=bFr BK387.out 4;have hfz33_5:=bFr BK387.out 5)|((with_reducible refine gate_callee (f:=10) rfl ?_);refine goesL_ (some 22) rfl rfl Tryd.func10 (by kernel_rfl) rfl #[.agg #[.int .i64 t388,.int .i64 t389,.int .i64 t390,.int .i64 t391,.int .i64 t392,.bool t393],.agg #[.int .i64 t380,.int .i64 t381,.int .i64 t382,.int .i64 t383,.int .i64 t384,.bool t385]] rfl (by (try simp only [List.map_toArray,List.map_cons,List.map_nil]);first | done | rfl|(simp only [List.length_drop,List.length_take];rfl)) ?_;(with_reducible refine (laws_eqRule.calls t388 t389 t390 t391 t392 t393 t380 t381 t382 t383 t384 t385 false _ A5.out).mono ?_);rintro e w34 ⟨rfl,hb⟩;refine ⟨_,rfl,?_⟩;have n0_:=aMk (blk_below (g:=gb387) (o:=.cells #[.int .i64 t380,.int .i64 t381,.int .i64 t382,.int .i64 t383,.int .i64 t384,.bool t385] 33 (0,0)) (by (with_reducible repeat (first|refine bDn ?_ _|refine bDr ?_|refine bAl ?_ _));refine blk_far ?_ NB387_395.out _;(with_reducible repeat (first|refine bDn ?_ _|refine bDr ?_|refine bAl ?_ _));refine blk_far ?_ NB387_395.out _;(with_reducible repeat (first|refine bDn ?_ _|refine bDr ?_|refine bAl ?_ _));refine blk_far ?_ NB387_395.out _;(with_reducible repeat (first|refine bDn ?_ _|refine bDr ?_|refine bAl ?_ _));refine blk_far ?_ NB387_395.out _;(with_reducible repeat (first|refine bDn ?_ _|refine bDr ?_|refine bAl ?_ _));refine blk_far ?_ NB387_395.out _;(with_reducible repeat (first|refine bDn ?_ _|refine bDr ?_|refine bAl ?_ _));refine blk_far ?_ NB387_395.out _;(with_reducible repeat (first|refine bDn ?_ _|refine bDr ?_|refine bAl ?_ _));exact BK387.out) hb);have n1_:=aMk (blk_below (g:=gb395) (o:=.cells #[.int .i64 t388,.int .i64 t389,.int .i64 t390,.int .i64 t391,.int .i64 t392,.bool t393] 33 (0,0)) (by (with_reducible repeat (first|refine bDn ?_ _|refine bDr ?_|refine bAl ?_ _));refine blk_put (cs:=#[.int .i64 t388,.int .i64 t389,.int .i64 t390,.int .i64 t391,.int .i64 t392,.bool false]) ?_ 5 _ rfl;(with_reducible repeat (first|refine bDn ?_ _|refine bDr ?_|refine bAl ?_ _));refine blk_put (cs:=#[.int .i64 t388,.int .i64 t389,.int .i64 t390,.int .i64 t391,.int .i64 0,.bool false]) ?_ 4 _ rfl;(with_reducible repeat (first|refine bDn ?_ _|refine bDr ?_|refine bAl ?_ _));refine blk_put (cs:=#[.int .i64 t388,.int .i64 t389,.int .i64 t390,.int .i64 0,.int .i64 0,.bool false]) ?_ 3 _ rfl;(with_reducible repeat (first|refine bDn ?_ _|refine bDr ?_|refine bAl ?_ _));refine blk_put (cs:=#[.int .i64 t388,.int .i64 t389,.int .i64 0,.int .i64 0,.int .i64 0,.bool false]) ?_ 2 _ rfl;(with_reducible repeat (first|refine bDn ?_ _|refine bDr ?_|refine bAl ?_ _));refine blk_put (cs:=#[.int .i64 t388,.int .i64 0,.int .i64 0,.int .i64 0,.int .i64 0,.bool false]) ?_ 1 _ rfl;(with_reducible repeat (first|refine bDn ?_ _|refine bDr ?_|refine bAl ?_ _));refine blk_put (cs:=#[.int .i64 0,.int .i64 0,.int .i64 0,.int .i64 0,.int .i64 0,.bool false]) ?_ 0 _ rfl;(with_reducible repeat (first|refine bDn ?_ _|refine bDr ?_|refine bAl ?_ _));exact BK395.out) hb);have n2_:=aMk (below_step (by repeat (first|(with_reducible first|exact HB.out|apply bwA|apply bwN|apply bw1|refine below_set ?_ GE387.out|refine below_set ?_ GE395.out)|exact HB.out)) hb);clear BK387;clear BK395;clear HB;have BK387:=n0_;have BK395:=n1_;have HB:=n2_;clear n0_ n1_ n2_;(try clear hb);(try clear hb2);(try clear hk);(try clear hi)))
   go_ret
   exact ⟨by first | rfl|(simp [errW_none,errW_some] <;> rfl)|(simp [*,errW_none,errW_some] <;> rfl),by repeat (first|(with_reducible first|exact HB.out|apply bwA|apply bwN|apply bw1|refine below_set ?_ GE387.out|refine below_set ?_ GE395.out)|exact HB.out)⟩
end
section
-- NEEDS spec.l01In impl.within
theorem l01In_eq (a b c : Int) : spec_l01In.f a b c = some (decide (b ≤ a ∧ a ≤ c)):=by unfold spec_l01In.f;grind
theorem within_eq (a b c : Int) : impl_within.f a b c = some (decide (b ≤ a ∧ a ≤ c)):=by unfold impl_within.f;grind
end
section
-- NEEDS spec.l07Range impl.rangeOK
def rangeb (lo hi : Int) : Bool:=decide (0 ≤ lo ∧ lo ≤ 65535) && decide (lo ≤ hi ∧ hi ≤ 65535)
theorem spec_range_eq (lo hi : Int) : spec_l07Range.f lo hi = some (rangeb lo hi):=by
 simp only [spec_l07Range.f,l01In_eq,Option.bind_some,rangeb]
 by_cases h : 0 ≤ lo ∧ lo ≤ 65535
 ·rw [decide_eq_true h];rfl
 ·rw [decide_eq_false h];rfl
theorem impl_range_eq (lo hi : Int) : impl_rangeOK.f lo hi = some (rangeb lo hi):=by
 simp only [impl_rangeOK.f,within_eq,Option.bind_some,rangeb]
 by_cases h : 0 ≤ lo ∧ lo ≤ hi
 ·rw [decide_eq_true h,if_pos rfl,← Bool.decide_and]
  congr 1;exact decide_eq_decide.2 (by omega)
 ·rw [decide_eq_false h,if_neg (by decide),← Bool.decide_and,decide_eq_false (by omega)]
end
section
-- NEEDS spec.l01Ip impl.isAddress
theorem l01Ip_eq (a : Int) : spec_l01Ip.f a = some (decide (0 ≤ a ∧ a ≤ 4294967295)):=by simp only [spec_l01Ip.f,l01In_eq,Option.bind_some]
theorem isAddress_eq (a : Int) : impl_isAddress.f a = some (decide (0 ≤ a ∧ a ≤ 4294967295)):=by simp only [impl_isAddress.f,within_eq,Option.bind_some]
end
section
-- NEEDS spec.NetOK impl.NetOK
-- IMPORT Derived.Laws.Bits64
theorem wrapu_id {n : Int} (h0 : 0 ≤ n) (h1 : n ≤ 9223372036854775807) : IntKind.u64.wrap n = n:=by
 rw [IntKind.wrap_u64];omega
def netb (ip b : Int) : Bool:=decide (0 ≤ ip ∧ ip ≤ 4294967295) && (decide (0 ≤ b ∧ b ≤ 32) && (Go.bits .and .i64 ip (wrap64 ((shl .i64 1 (32 - b)) - 1)) == 0))
theorem net_ite (p q x : Bool) : (if p = true then (if q = true then some x else some false) else some false) = some (p && (q && x)):=by cases p <;> cases q <;> rfl
theorem spec_NetOK_eq (ip b : Int) : spec_NetOK.f ip b = some (netb ip b):=by
 simp only [spec_NetOK.f,l01Ip_eq,l01In_eq,Option.bind_some]
 by_cases h : 0 ≤ b ∧ b ≤ 32
 ·rw [wrap_id (n:=32 - b) (by omega) (by omega),wrapu_id (by omega) (by omega),if_pos (show 0 ≤ 32 - b by omega),net_ite];rfl
 ·rw [decide_eq_false h];simp [netb,h]
theorem impl_NetOK_eq (ip b : Int) : impl_NetOK.f ip b = some (netb ip b):=by
 simp only [impl_NetOK.f,isAddress_eq,within_eq,Option.bind_some]
 by_cases h : 0 ≤ b ∧ b ≤ 32
 ·rw [wrap_id (n:=32 - b) (by omega) (by omega),if_pos (show 0 ≤ 32 - b by omega),net_ite];rfl
 ·rw [decide_eq_false h];simp [netb,h]
theorem netb_bits {ip b : Int} (h : netb ip b = true) : 0 ≤ b ∧ b ≤ 32:=by
 simp only [netb,Bool.and_eq_true,decide_eq_true_eq] at h;exact h.2.1
end
section
-- NEEDS spec.RuleOK impl.RuleOK
def ruleb (p ip b lo hi : Int) : Bool:=decide (p = 0 ∨ p = 1 ∨ p = 6 ∨ p = 17) && (netb ip b && rangeb lo hi)
theorem spec_RuleOK_eq (p ip b lo hi : Int) (w : Bool) : spec_RuleOK.f p ip b lo hi w = some (ruleb p ip b lo hi):=by
 simp only [spec_RuleOK.f,spec_NetOK_eq,spec_range_eq,Option.bind_some,ruleb]
 by_cases h0 : p = 0
 ·rw [if_pos h0];simp only [h0];cases netb ip b <;> simp
 by_cases h1 : p = 1
 ·rw [if_neg h0,if_pos h1];simp only [h1];cases netb ip b <;> simp
 by_cases h2 : p = 6
 ·rw [if_neg h0,if_neg h1,if_pos h2];simp only [h2];cases netb ip b <;> simp
 by_cases h3 : p = 17
 ·rw [if_neg h0,if_neg h1,if_neg h2,if_pos h3];simp only [h3];cases netb ip b <;> simp
 rw [if_neg h0,if_neg h1,if_neg h2,if_neg h3,decide_eq_false (by omega)];rfl
theorem contains4 (k : Nat) (p : Int) : slices_Contains_int_int.f (k + 5) [0,1,6,17] p = some (decide (p = 0 ∨ p = 1 ∨ p = 6 ∨ p = 17)):=by
 have w1 : wrap64 (0 + 1) = 1:=by rw [wrap_id (by omega) (by omega)];rfl
 have w2 : wrap64 (1 + 1) = 2:=by rw [wrap_id (by omega) (by omega)];rfl
 have w3 : wrap64 (2 + 1) = 3:=by rw [wrap_id (by omega) (by omega)];rfl
 have w4 : wrap64 (3 + 1) = 4:=by rw [wrap_id (by omega) (by omega)];rfl
 have r0 : rd [0,1,6,17] 0 = 0:=by decide
 have r1 : rd [0,1,6,17] 1 = 1:=by decide
 have r2 : rd [0,1,6,17] 2 = 6:=by decide
 have r3 : rd [0,1,6,17] 3 = 17:=by decide
 have l : ((([0,1,6,17] : List Int).length : Nat) : Int) = 4:=by decide
 simp only [slices_Contains_int_int.f,slices_Index_int_int.f,slices_Index_int_int.l0,l,w1,w2,w3,w4,r0,r1,r2,r3]
 by_cases h0 : p = 0
 ·simp [h0]
 by_cases h1 : p = 1
 ·simp [h1]
 by_cases h2 : p = 6
 ·simp [h2]
 by_cases h3 : p = 17
 ·simp [h3]
 simp [h0,h1,h2,h3]
theorem impl_RuleOK_eq (k : Nat) (p ip b lo hi : Int) (w : Bool) : impl_RuleOK.f (k + 5) p ip b lo hi w = some (ruleb p ip b lo hi):=by
 simp only [impl_RuleOK.f,contains4,impl_NetOK_eq,impl_range_eq,Option.bind_some,ruleb]
 cases decide (p = 0 ∨ p = 1 ∨ p = 6 ∨ p = 17) <;> cases netb ip b <;> simp
end
section
-- NEEDS spec.l00Cut strings.Split
-- IMPORT Derived.Lib.SplitLaws
def headL (s : List UInt8) : List (List UInt8) → List (List UInt8)
 | [] => [s]
 | p :: ps => (s ++ p) :: ps
def cutL (c : UInt8) : List UInt8 → List (List UInt8)
 | [] => [[]]
 | b :: l => if b = c then [] :: cutL c l else headL [b] (cutL c l)
theorem headL_headL (s t : List UInt8) (L : List (List UInt8)) : headL s (headL t L) = headL (s ++ t) L:=by
 cases L <;> simp [headL]
theorem headL_nil {L : List (List UInt8)} (h : L ≠ []) : headL [] L = L:=by
 cases L with
 | nil => exact absurd rfl h
 | cons p ps => rfl
theorem cutL_ne (c : UInt8) : ∀ l,cutL c l ≠ []
 | [] => by simp [cutL]
 | b :: l => by
  rw [cutL]
  split
  ·simp
  ·cases h : cutL c l <;> simp [headL]
theorem splitK_ne (c b : UInt8) (l : List UInt8) (h : b ≠ c) : ∀ n,Lib.splitK [c] 0 n (b :: l) = headL [b] (Lib.splitK [c] 0 n l)
 | 0 => rfl
 | n + 1 => by
  have hp : ([c] : List UInt8).isPrefixOf (b :: l) = false:=by simp [List.isPrefixOf,Ne.symm h]
  have hix : Lib.index (b :: l) [c] = if Lib.index l [c] == -1 then -1 else Lib.index l [c] + 1:=by rw [Lib.index,hp];simp
  have hge:=Lib.index_ge l [c]
  unfold Lib.splitK
  rw [hix]
  by_cases hm : Lib.index l [c] = -1
  ·rw [hm]
   rfl
  ·have hne : (Lib.index l [c] == -1) = false:=beq_eq_false_iff_ne.2 hm
   obtain ⟨j,hj⟩ : ∃ j : Nat,Lib.index l [c] = j:=⟨(Lib.index l [c]).toNat,by omega⟩
   have hn2 : ((j : Int) + 1 == -1) = false:=by rw [beq_eq_false_iff_ne];omega
   simp only [hj] at hne ⊢
   simp only [hne,hn2,Bool.false_eq_true,if_false,Int.toNat_natCast,show ((j : Int) + 1).toNat = j + 1 by omega]
   rfl
theorem splitK_cutL (c : UInt8) : ∀ l,Lib.splitK [c] 0 (Lib.count l [c]) l = cutL c l
 | [] => by
  rw [Lib.count_miss (by simp [Lib.index])]
  rfl
 | b :: l => by
  by_cases h : b = c
  ·subst h
   have hix : Lib.index (b :: l) [b] = 0:=by rw [Lib.index];simp [List.isPrefixOf]
   rw [Lib.count_cons_eq,Nat.add_comm,Lib.splitK,hix,cutL,if_pos rfl,← splitK_cutL b l]
   simp
  ·rw [Lib.count_cons_ne b c l h,splitK_ne c b l h,splitK_cutL c l,cutL,if_neg h]
theorem splitOn1_data (x : ByteArray) (c : UInt8) : (splitOn1 x ⟨#[c]⟩).map (·.data.toList) = cutL c x.data.toList:=by
 rw [splitOn1,Lib.splitB_data]
 exact splitK_cutL c _
theorem map_data_inj : ∀ {l m : List ByteArray},l.map (·.data.toList) = m.map (·.data.toList) → l = m
 | [],[],_ => rfl
 | [],_ :: _,h => by simp at h
 | _ :: _,[],h => by simp at h
 | a :: l,b :: m,h => by
  rw [List.map_cons,List.map_cons] at h
  injection h with h1 h2
  rw [map_data_inj h2,← Lib.mk_data a,← Lib.mk_data b,h1]
theorem bt_data (x : ByteArray) (i : Nat) (h : i < x.data.toList.length) : bt x (i : Int) = ((x.data.toList[i]).toNat : Int):=by
 have h2 : (i : Int).toNat < x.size:=by rw [Lib.size_eq,Int.toNat_natCast];exact h
 rw [bt,dif_pos h2]
 rfl
theorem l00Cut_run (x : ByteArray) (c : UInt8) (hs : x.size ≤ 1000000) : ∀ (d i fr : Nat) (out : List ByteArray),i + d = x.size → fr ≤ i → out.length ≤ i → ∀ k,d < k →
  ∃ r,spec_l00Cut.l0 k x (c.toNat : Int) out (fr : Int) (i : Int) = some r ∧ r.map (·.data.toList) = out.map (·.data.toList) ++ headL ((x.data.toList.drop fr).take (i - fr)) (cutL c (x.data.toList.drop i)):=by
 intro d
 have hsz:=Lib.size_eq x
 induction d with
 | zero =>
  intro i fr out hi hf ho k hk
  obtain ⟨k,rfl⟩ : ∃ q,k = q + 1:=⟨k - 1,by omega⟩
  rw [spec_l00Cut.l0,if_neg (by omega),if_pos (by omega),if_pos (by omega),if_pos (by omega)]
  refine ⟨_,rfl,?_⟩
  rw [List.map_append,List.map_singleton,Int.toNat_natCast,Lib.extract_data,List.drop_of_length_le (by omega : x.data.toList.length ≤ i)]
  show _ = _ ++ headL _ [[]]
  rw [headL,List.append_nil,show x.size - fr = i - fr by omega]
 | succ d ih =>
  intro i fr out hi hf ho k hk
  obtain ⟨k,rfl⟩ : ∃ q,k = q + 1:=⟨k - 1,by omega⟩
  have hlt : i < x.data.toList.length:=by omega
  have hw : wrap64 ((i : Int) + 1) = ((i + 1 : Nat) : Int):=by rw [wrap_id (by omega) (by omega)];omega
  rw [spec_l00Cut.l0,if_pos (by omega),if_pos (by omega),bt_data x i hlt,hw]
  have hdrop : x.data.toList.drop i = x.data.toList[i] :: x.data.toList.drop (i + 1):=List.drop_eq_getElem_cons hlt
  rw [hdrop]
  by_cases hc : x.data.toList[i] = c
  ·rw [if_pos (by rw [hc]),if_pos (by omega),if_pos (by omega),if_pos (by omega),if_pos (by omega)]
   obtain ⟨r,e,hr⟩:=ih (i + 1) (i + 1) (out ++ [x.extract fr i]) (by omega) (by omega) (by rw [List.length_append,List.length_singleton];omega) k (by omega)
   rw [Int.toNat_natCast,Int.toNat_natCast]
   refine ⟨r,e,?_⟩
   rw [hr,List.map_append,List.map_singleton,Lib.extract_data,Nat.sub_self,List.take_zero,headL_nil (cutL_ne _ _),cutL,if_pos hc,headL,List.append_nil,List.append_assoc]
   rfl
  ·have hne : ¬ ((x.data.toList[i]).toNat : Int) = (c.toNat : Int):=fun e => hc (UInt8.toNat_inj.1 (by omega))
   rw [if_neg hne]
   obtain ⟨r,e,hr⟩:=ih (i + 1) fr out (by omega) (by omega) (by omega) k (by omega)
   refine ⟨r,e,?_⟩
   have hseg : i - fr < (x.data.toList.drop fr).length:=by rw [List.length_drop];omega
   have hget : (x.data.toList.drop fr)[i - fr] = x.data.toList[i]:=by
    rw [List.getElem_drop]
    congr 1
    omega
   rw [hr,cutL,if_neg hc,headL_headL,show i + 1 - fr = i - fr + 1 by omega,← List.take_append_getElem hseg,hget]
theorem l00Cut_f (x : ByteArray) (c : UInt8) (hs : x.size ≤ 1000000) (k : Nat) (hk : x.size < k) : spec_l00Cut.f k x (c.toNat : Int) = some (splitOn1 x ⟨#[c]⟩):=by
 obtain ⟨r,e,hr⟩:=l00Cut_run x c hs x.size 0 0 [] (by omega) (by omega) (by simp) k hk
 have h2 : r = splitOn1 x ⟨#[c]⟩:=map_data_inj (by
  rw [hr,splitOn1_data]
  simp only [List.map_nil,List.nil_append,Nat.sub_self,List.take_zero,List.drop_zero]
  exact headL_nil (cutL_ne _ _))
 rw [← h2]
 exact e
theorem splitOn1_length (x : ByteArray) (c : UInt8) : (splitOn1 x ⟨#[c]⟩).length = Lib.countB x ⟨#[c]⟩ + 1:=Lib.splitB_all _ (Nat.le_refl _) 0 _ x rfl
theorem cutL_le (c : UInt8) : ∀ (l : List UInt8),∀ p ∈ cutL c l,p.length ≤ l.length
 | [],p,hp => by
  simp only [cutL,List.mem_singleton] at hp
  subst hp;simp
 | b :: l,p,hp => by
  rw [cutL] at hp
  split at hp
  ·rcases List.mem_cons.1 hp with rfl | h
   ·simp
   ·have:=cutL_le c l p h
    simp only [List.length_cons];omega
  ·cases h : cutL c l with
   | nil => exact absurd h (cutL_ne _ _)
   | cons q qs =>
    rw [h,headL] at hp
    rcases List.mem_cons.1 hp with rfl | hm
    ·have:=cutL_le c l q (by rw [h];exact List.mem_cons_self)
     simp only [List.length_append,List.length_cons,List.length_nil];omega
    ·have:=cutL_le c l p (by rw [h];exact List.mem_cons_of_mem _ hm)
     simp only [List.length_cons];omega
theorem splitOn1_le (x : ByteArray) (c : UInt8) : ∀ p ∈ splitOn1 x ⟨#[c]⟩,p.size ≤ x.size:=by
 intro p hp
 rw [Lib.size_eq,Lib.size_eq]
 refine cutL_le c x.data.toList _ ?_
 rw [← splitOn1_data]
 exact List.mem_map.2 ⟨p,hp,rfl⟩
end
end Go.Proofs.YtiemmhhjiplnlaaDoor.X
