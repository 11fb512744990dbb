/- Texts that the row of FnExactReadRule stands on: functions of the program and of the reference, each as a Lean function with the same answers, and the plain lemmas. Conditions: none beside those that each theorem names. -/
import Derived.Test.YtiemmhhjiplnlaaDoorCFnExactReadRule1
namespace Go.Proofs.YtiemmhhjiplnlaaDoor.X
open Go.RowKit Go.Proofs.YtiemmhhjiplnlaaDoorW.PrintWords Go.Proofs.YtiemmhhjiplnlaaDoorW.PrintLast Go.Proofs.YtiemmhhjiplnlaaDoorW.PrintMore
attribute [local go_sem] max2_int min2_int max_two min_two max_three min_three max_four min_four   -- for this text's walks alone
set_option linter.unusedVariables false
set_option linter.unusedSimpArgs false
open Go.Proofs.YtiemmhhjiplnlaaDoorW.PrintWords renaming blk_drewN -> bDn
open Go.Proofs.YtiemmhhjiplnlaaDoorW.PrintWords renaming blk_drew -> bDr
open Go.Proofs.YtiemmhhjiplnlaaDoorW.PrintWords renaming blk_alloc -> bAl
open Go.Proofs.YtiemmhhjiplnlaaDoorW.PrintWords renaming blk_frozen -> bFr
open Go.Proofs.YtiemmhhjiplnlaaDoorW.PrintWords renaming blk_cell -> bCe
open Go.Proofs.YtiemmhhjiplnlaaDoorW.PrintWords.Aside0 renaming mk -> aMk
open Go.World renaming block_lt_of_cell? -> wLt
open Go.Proofs.YtiemmhhjiplnlaaDoorW.PrintWords renaming pw_below_drewN -> bwN
open Go.Proofs.YtiemmhhjiplnlaaDoorW.PrintWords renaming below_drew1 -> bw1
open Go.Proofs.YtiemmhhjiplnlaaDoorW.PrintWords renaming below_alloc -> bwA
section
/-! ### spec_l07Read: function 23 -/
mutual
def spec_l07Read.j0 : Nat → List ByteArray → Bool → Option (Int × Int × Int × Int × Int × Bool × Bool)
 | 0,_,_ => none
 | k + 1,x4,x30 => if x30 = true then (some (0,0,0,0,0,false,false)) else (if 0 < (x4.length : Int) then ((spec_l07Protos.f).bind fun t276 => (spec_l07Read.l0 k x4 t276 0 (-1) 0 0 0 0 ((rdOf ByteArray.empty x4 0).toList == ([97,108,108,111,119] : List UInt8)))) else (none))
def spec_l07Read.l0 : Nat → List ByteArray → List ByteArray → Int → Int → Int → Int → Int → Int → Bool → Option (Int × Int × Int × Int × Int × Bool × Bool)
 | 0,_,_,_,_,_,_,_,_,_ => none
 | k + 1,x4,x6,x7,x276000,x276001,x276002,x276003,x276004,x276005 => if x7 < (x6.length : Int) then (if 0 ≤ x7 then (if 1 < (x4.length : Int) then (if (rdOf ByteArray.empty x6 x7).toList = (rdOf ByteArray.empty x4 1).toList then ((spec_l07ProtoNumbers.f).bind fun t281 => (if x7 < (t281.length : Int) then (spec_l07Read.l0 k x4 x6 (wrap64 (x7 + 1)) (rd t281 x7) x276001 x276002 x276003 x276004 x276005) else (none))) else (spec_l07Read.l0 k x4 x6 (wrap64 (x7 + 1)) x276000 x276001 x276002 x276003 x276004 x276005)) else (none)) else (none)) else (if 2 < (x4.length : Int) then ((spec_l05Read.f k (rdOf ByteArray.empty x4 2)).bind fun bt286 => (if 3 < (x4.length : Int) then ((spec_l00Number.f k (rdOf ByteArray.empty x4 3)).bind fun bt291 => (if 4 < (x4.length : Int) then ((spec_l00Number.f k (rdOf ByteArray.empty x4 4)).bind fun bt294 => (if bt286.2.2 = true then (if bt291.2 = true then (if bt294.2 = true then ((spec_RuleOK.f x276000 bt286.1 bt286.2.1 bt291.1 bt294.1 x276005).bind fun t296 => (some (x276000,bt286.1,bt286.2.1,bt291.1,bt294.1,x276005,t296))) else (some (x276000,bt286.1,bt286.2.1,bt291.1,bt294.1,x276005,false))) else (some (x276000,bt286.1,bt286.2.1,bt291.1,bt294.1,x276005,false))) else (some (x276000,bt286.1,bt286.2.1,bt291.1,bt294.1,x276005,false)))) else (none))) else (none))) else (none))
end
def spec_l07Read.f (k : Nat) (a0 : ByteArray) : Option (Int × Int × Int × Int × Int × Bool × Bool):=(spec_l00Words.f k a0).bind fun t269 => (if (t269.length : Int) = 5 then (if 0 < (t269.length : Int) then (if (rdOf ByteArray.empty t269 0).toList = ([97,108,108,111,119] : List UInt8) then (spec_l07Read.j0 k t269 false) else (spec_l07Read.j0 k t269 ((rdOf ByteArray.empty t269 0).toList != ([100,101,110,121] : List UInt8)))) else (none)) else (spec_l07Read.j0 k t269 true))
theorem spec_l07Read.mono_l : ∀ k,(∀ y0 y1,LeO (spec_l07Read.j0 k y0 y1) (spec_l07Read.j0 (k + 1) y0 y1)) ∧ (∀ y0 y1 y2 y3 y4 y5 y6 y7 y8,LeO (spec_l07Read.l0 k y0 y1 y2 y3 y4 y5 y6 y7 y8) (spec_l07Read.l0 (k + 1) y0 y1 y2 y3 y4 y5 y6 y7 y8))
 | 0 => ⟨fun _ _ r h => by simp [spec_l07Read.j0] at h,fun _ _ _ _ _ _ _ _ _ r h => by simp [spec_l07Read.l0] at h⟩
 | k + 1 => by
  obtain ⟨ih0,ih1⟩:=spec_l07Read.mono_l k
  refine ⟨?_,?_⟩
  ·intro y0 y1
   unfold spec_l07Read.j0
   repeat' first
   | (with_reducible exact ih0 _ _)
   | (with_reducible exact ih1 _ _ _ _ _ _ _ _ _)
   | (with_reducible exact spec_l00Number.mono ..)
   | (with_reducible exact spec_l00Words.mono ..)
   | (with_reducible exact spec_l05Read.mono ..)
   | (with_reducible exact LeO.refl _)
   | (with_reducible exact LeO.none _)
   | (with_reducible refine LeO.ite ?_ ?_)
   | (with_reducible refine LeO.bind ?_ (fun _ => ?_))
   | exact ih0 _ _
   | exact ih1 _ _ _ _ _ _ _ _ _
   | exact spec_l00Number.mono ..
   | exact spec_l00Words.mono ..
   | exact spec_l05Read.mono ..
   | exact LeO.none _
   | refine LeO.ite ?_ ?_
   | refine LeO.bind ?_ (fun _ => ?_)
  ·intro y0 y1 y2 y3 y4 y5 y6 y7 y8
   unfold spec_l07Read.l0
   repeat' first
   | (with_reducible exact ih0 _ _)
   | (with_reducible exact ih1 _ _ _ _ _ _ _ _ _)
   | (with_reducible exact spec_l00Number.mono ..)
   | (with_reducible exact spec_l00Words.mono ..)
   | (with_reducible exact spec_l05Read.mono ..)
   | (with_reducible exact LeO.refl _)
   | (with_reducible exact LeO.none _)
   | (with_reducible refine LeO.ite ?_ ?_)
   | (with_reducible refine LeO.bind ?_ (fun _ => ?_))
   | exact ih0 _ _
   | exact ih1 _ _ _ _ _ _ _ _ _
   | exact spec_l00Number.mono ..
   | exact spec_l00Words.mono ..
   | exact spec_l05Read.mono ..
   | exact LeO.none _
   | refine LeO.ite ?_ ?_
   | refine LeO.bind ?_ (fun _ => ?_)
theorem spec_l07Read.mono : ∀ a0 k,LeO (spec_l07Read.f k a0) (spec_l07Read.f (k + 1) a0):=by
 intro a0 k
 obtain ⟨ih0,ih1⟩:=spec_l07Read.mono_l k
 unfold spec_l07Read.f
 repeat' first
   | (with_reducible exact ih0 _ _)
   | (with_reducible exact ih1 _ _ _ _ _ _ _ _ _)
   | (with_reducible exact spec_l00Number.mono ..)
   | (with_reducible exact spec_l00Words.mono ..)
   | (with_reducible exact spec_l05Read.mono ..)
   | (with_reducible exact LeO.refl _)
   | (with_reducible exact LeO.none _)
   | (with_reducible refine LeO.ite ?_ ?_)
   | (with_reducible refine LeO.bind ?_ (fun _ => ?_))
   | exact ih0 _ _
   | exact ih1 _ _ _ _ _ _ _ _ _
   | exact spec_l00Number.mono ..
   | exact spec_l00Words.mono ..
   | exact spec_l05Read.mono ..
   | exact LeO.none _
   | refine LeO.ite ?_ ?_
   | refine LeO.bind ?_ (fun _ => ?_)
def spec_l07Read.T9 : Bool × List (List Nat × List Nat):=(true,[([],[]),([],[]),([0,1],[0,1]),([2],[2]),([],[]),([4],[4]),([5],[5]),([3,6],[3,6])])
def spec_l07Read.B9 : List Nat:=[0,0,3,7,0,16,48,127]
theorem spec_l07Read.tab9 : rtab .any (opsOf Tryd.f23 9) = spec_l07Read.T9:=by kernel_rfl
theorem spec_l07Read.bits9 : waitsOk spec_l07Read.T9.2 spec_l07Read.B9 = true:=by kernel_rfl
def spec_l07Read.T16 : Bool × List (List Nat × List Nat):=(true,[([],[]),([],[]),([1],[1]),([2],[2]),([2,3],[2,3]),([4,2],[4]),([5],[5]),([5,6],[5,6]),([7,5],[7]),([8],[8]),([9,8,8],[8,9]),([8,10],[8,10]),([0,10,0],[0]),([11,12,0,1,2,3,4,5,6,7,8,9,10,11,12],[11])])
def spec_l07Read.B16 : List Nat:=[0,0,2,6,14,30,62,126,254,510,1022,2046,2047,8191]
theorem spec_l07Read.tab16 : rtab .any (opsOf Tryd.f23 16) = spec_l07Read.T16:=by kernel_rfl
theorem spec_l07Read.bits16 : waitsOk spec_l07Read.T16.2 spec_l07Read.B16 = true:=by kernel_rfl
set_option maxHeartbeats 8000000 in
set_option maxRecDepth 100000 in
theorem spec_l07Read.calls (k : Nat) (a0 : ByteArray) (r1 : Int) (r2 : Int) (r3 : Int) (r4 : Int) (r5 : Int) (r6 : Bool) (r7 : Bool) (w : World) (h : spec_l07Read.f k a0 = some (r1,r2,r3,r4,r5,r6,r7)) :
  Calls Tryd.prog 23 #[.string a0] w fun e w' => e = .returned (.tuple #[.agg #[.int .i64 r1,.int .i64 r2,.int .i64 r3,.int .i64 r4,.int .i64 r5,.bool r6],.bool r7]) ∧ Below w.heap.size w w':=by
 have hu33:=Tryd.underlying33
 have hu30:=Tryd.underlying30
 have hu31:=Tryd.underlying31
 have HB:=aMk (Below.refl w.heap.size w)
 have H : ((spec_l00Words.f k a0).bind fun t269 => (if (t269.length : Int) = 5 then (if 0 < (t269.length : Int) then (if (rdOf ByteArray.empty t269 0).toList = ([97,108,108,111,119] : List UInt8) then (spec_l07Read.j0 k t269 false) else (spec_l07Read.j0 k t269 ((rdOf ByteArray.empty t269 0).toList != ([100,101,110,121] : List UInt8)))) else (none)) else (spec_l07Read.j0 k t269 true))) = some (r1,r2,r3,r4,r5,r6,r7):=h
 clear h
 replace H:=Option.bind_eq_some_iff.mp H
 obtain ⟨t269,A20,H⟩:=H
 replace H : (if (t269.length : Int) = 5 then (if 0 < (t269.length : Int) then (if (rdOf ByteArray.empty t269 0).toList = ([97,108,108,111,119] : List UInt8) then (spec_l07Read.j0 k t269 false) else (spec_l07Read.j0 k t269 ((rdOf ByteArray.empty t269 0).toList != ([100,101,110,121] : List UInt8)))) else (none)) else (spec_l07Read.j0 k t269 true)) = some (r1,r2,r3,r4,r5,r6,r7):=H
 have A2:=aMk A20
 clear A20
 have HC3:=aMk H
 clear H
 go_enter Tryd.func23,Tryd.ntmps23
 go_upto_region 2 with (first|((with_reducible refine gate_dst (N:=2) rfl ?_);refine box_event ?hg (N:=2) ?hd (cs:=#[.int .i64 0,.int .i64 0,.int .i64 0,.int .i64 0,.int .i64 0,.bool false]) (t:=33) ?hr ?_;(case hd => rfl);(case hg => rfl);(case hr => first|(go_simp;done)|(go_simp;rfl));intro gb268 hg w4 hbox hb;have n0_:=aMk (below_step (by repeat first|exact HB.out|apply bwA|apply bwN|apply bw1) hb);have n1_:=aMk (hbox);have n2_:=aMk ((by rw [hg];exact (below_size (by repeat first|exact HB.out|apply bwA|apply bwN|apply bw1)) : w.heap.size ≤ gb268));have n3_:=aMk ((by rw [hg];exact (below_size (by repeat first|exact HB.out|apply bwA|apply bwN|apply bw1)) : w.heap.size ≤ gb268));clear HB;have HB:=n0_;have BK268:=n1_;have GW268:=n2_;have GE268:=n3_;clear n0_ n1_ n2_ n3_;clear hb hbox hg)|((with_reducible refine gate_callee (f:=40) rfl ?_);refine goesL_ (some 15) rfl rfl Tryd.func40 (by kernel_rfl) rfl #[.string a0] rfl (by (try simp only [List.map_toArray,List.map_cons,List.map_nil]);first | done | rfl|(simp only [List.length_drop,List.length_take];rfl)) ?_;(with_reducible refine (spec_l00Words.calls k a0 t269 _ A2.out).mono ?_);rintro e w5 ⟨v270,rfl,ho0,hb⟩;refine ⟨_,rfl,?_⟩;have n0_:=aMk (Kd.R_lower ho0 (below_size (by repeat (first|(with_reducible first|exact HB.out|apply bwA|apply bwN|apply bw1|refine below_set ?_ GE268.out)|exact HB.out))));have n1_:=aMk (blk_below (g:=gb268) (o:=.cells #[.int .i64 0,.int .i64 0,.int .i64 0,.int .i64 0,.int .i64 0,.bool false] 33 (0,0)) (by (with_reducible repeat (first|refine bDn ?_ _|refine bDr ?_|refine bAl ?_ _));exact BK268.out) hb);have n2_:=aMk (below_step (by repeat (first|(with_reducible first|exact HB.out|apply bwA|apply bwN|apply bw1|refine below_set ?_ GE268.out)|exact HB.out)) hb);clear BK268;clear HB;have HO271:=n0_;have BK268:=n1_;have HB:=n2_;clear n0_ n1_ n2_;(try clear hb);(try clear hb2);(try clear hk);(try clear hi);(try clear ho0)))
 (try simp only [Act.put,List.setIfInBounds_toArray,List.set_cons_zero,List.set_cons_succ])
 go_cut [30] (fun v30 wc => ∃ (kq : Nat) (x30_2 : Bool),v30 = .bool x30_2 ∧ Aside0 (spec_l07Read.j0 kq t269 x30_2 = some (r1,r2,r3,r4,r5,r6,r7)) ∧ Aside0 (kq ≤ k) ∧ Aside0 (Kd.R Kd.string 9 wc w.heap.size (fun _ => True) v270 t269) ∧ Aside0 (wc.heap[gb268]? = some (.cells #[.int .i64 0,.int .i64 0,.int .i64 0,.int .i64 0,.int .i64 0,.bool false] 33 (0,0))) ∧ Aside0 (Below w.heap.size w wc))
 case first =>
  have H:=HC3.out
  clear HC3
  by_cases c6 : (t269.length : Int) = 5
  ·rw [if_pos c6] at H
   have c6b0 : ((t269.length : Int) == 5) = true:=beq_iff_eq.mpr c6
   have c6b1 : ((t269.length : Int) != 5) = false:=bne_eq_false_iff_eq.mpr c6
   clear c6
   (first|rw [c6b0]|(simp only [i64_w,i32_w];rw [c6b0]) | skip)
   by_cases c7 : 0 < (t269.length : Int)
   ·rw [if_pos c7] at H
    have c7b0 : decide (0 < (t269.length : Int)) = true:=decide_eq_true c7
    have c7b1 : decide (0 < t269.length) = true:=decide_eq_true (by omega)
    clear c7
    by_cases c8 : (rdOf ByteArray.empty t269 0).toList = ([97,108,108,111,119] : List UInt8)
    ·rw [if_pos c8] at H
     have c8b0 : ((rdOf ByteArray.empty t269 0).toList == ([97,108,108,111,119] : List UInt8)) = true:=beq_iff_eq.mpr c8
     have c8b1 : ((rdOf ByteArray.empty t269 0).toList != ([97,108,108,111,119] : List UInt8)) = false:=bne_eq_false_iff_eq.mpr c8
     clear c8
     have H':=aMk H
     clear H
     obtain ⟨Ao9,co9,eo9⟩:=Kd.R_slice HO271.out
     subst eo9
     have p272 : 0 ≤ (0 : Int):=(by omega)
     have q272 : 0 < (t269.length : Int):=of_decide_eq_true (by first|(with_reducible assumption) | assumption)
     obtain ⟨ad272,e272,hx272_0⟩:=Kd.at_string (Kd.R_reads' HO271.out).2.2 0 p272 q272
     cases e272
     have qi272 : (0 < t269.length) = True:=eq_true (by omega)
     (try rw [show ((0 : Int)).toNat = 0 from rfl] at hx272_0)
     (try rw [Addr.add_zero'] at hx272_0)
     replace p272:=eq_true p272
     replace q272:=eq_true q272
     go_wp2
     go_meet
     case rel => exact ⟨_,(false),(by first | rfl|(simp;done)|(simp [*];done)|(simp [ne_nil_b];done)|(simp [ne_nil_b, *];done)),H',⟨by first | omega|exact Nat.le_refl _⟩,⟨by (with_reducible repeat (first|apply Kd.R_alloc|apply Kd.R_drewN|apply Kd.R_drew));exact HO271.out⟩,⟨by (with_reducible repeat (first|refine bDn ?_ _|refine bDr ?_|refine bAl ?_ _));exact BK268.out⟩,⟨by repeat (first|(with_reducible first|exact HB.out|apply bwA|apply bwN|apply bw1|refine below_set ?_ GE268.out)|exact HB.out)⟩⟩
    ·rw [if_neg c8] at H
     have c8b0 : ((rdOf ByteArray.empty t269 0).toList == ([97,108,108,111,119] : List UInt8)) = false:=beq_eq_false_iff_ne.mpr c8
     have c8b1 : ((rdOf ByteArray.empty t269 0).toList != ([97,108,108,111,119] : List UInt8)) = true:=bne_iff_ne.mpr c8
     have H':=aMk H
     clear H
     obtain ⟨Ao10,co10,eo10⟩:=Kd.R_slice HO271.out
     subst eo10
     have p272 : 0 ≤ (0 : Int):=(by omega)
     have q272 : 0 < (t269.length : Int):=of_decide_eq_true (by first|(with_reducible assumption) | assumption)
     obtain ⟨ad272,e272,hx272_0⟩:=Kd.at_string (Kd.R_reads' HO271.out).2.2 0 p272 q272
     cases e272
     have qi272 : (0 < t269.length) = True:=eq_true (by omega)
     (try rw [show ((0 : Int)).toNat = 0 from rfl] at hx272_0)
     (try rw [Addr.add_zero'] at hx272_0)
     replace p272:=eq_true p272
     replace q272:=eq_true q272
     have p273 : 0 ≤ (0 : Int):=(by omega)
     have q273 : 0 < (t269.length : Int):=of_decide_eq_true (by first|(with_reducible assumption) | assumption)
     obtain ⟨ad273,e273,hx273_0⟩:=Kd.at_string (Kd.R_reads' HO271.out).2.2 0 p273 q273
     obtain rfl : ad272 = ad273:=(by injection e273)
     have qi273 : (0 < t269.length) = True:=eq_true (by omega)
     (try rw [show ((0 : Int)).toNat = 0 from rfl] at hx273_0)
     (try rw [Addr.add_zero'] at hx273_0)
     replace p273:=eq_true p273
     replace q273:=eq_true q273
     go_wp2
     go_meet
     case rel => exact ⟨_,(((rdOf ByteArray.empty t269 0).toList != ([100,101,110,121] : List UInt8))),(by first | rfl|(simp;done)|(simp [*];done)|(simp [ne_nil_b];done)|(simp [ne_nil_b, *];done)),H',⟨by first | omega|exact Nat.le_refl _⟩,⟨by (with_reducible repeat (first|apply Kd.R_alloc|apply Kd.R_drewN|apply Kd.R_drew));exact HO271.out⟩,⟨by (with_reducible repeat (first|refine bDn ?_ _|refine bDr ?_|refine bAl ?_ _));exact BK268.out⟩,⟨by repeat (first|(with_reducible first|exact HB.out|apply bwA|apply bwN|apply bw1|refine below_set ?_ GE268.out)|exact HB.out)⟩⟩
   ·rw [if_neg c7] at H
    exact absurd H (by simp)
  ·rw [if_neg c6] at H
   have c6b0 : ((t269.length : Int) == 5) = false:=beq_eq_false_iff_ne.mpr c6
   have c6b1 : ((t269.length : Int) != 5) = true:=bne_iff_ne.mpr c6
   (first|rw [c6b0]|(simp only [i64_w,i32_w];rw [c6b0]) | skip)
   have H':=aMk H
   clear H
   obtain ⟨Ao11,co11,eo11⟩:=Kd.R_slice HO271.out
   subst eo11
   go_wp2
   go_meet
   case rel => exact ⟨_,(true),(by first | rfl|(simp;done)|(simp [*];done)|(simp [ne_nil_b];done)|(simp [ne_nil_b, *];done)),H',⟨by first | omega|exact Nat.le_refl _⟩,⟨by (with_reducible repeat (first|apply Kd.R_alloc|apply Kd.R_drewN|apply Kd.R_drew));exact HO271.out⟩,⟨by (with_reducible repeat (first|refine bDn ?_ _|refine bDr ?_|refine bAl ?_ _));exact BK268.out⟩,⟨by repeat (first|(with_reducible first|exact HB.out|apply bwA|apply bwN|apply bw1|refine below_set ?_ GE268.out)|exact HB.out)⟩⟩
 case rest =>
  clear HC3
  try clear c2
  try clear p2
  try clear q2
  try clear hx2
  try clear qi2
  try clear c4
  try clear c6
  try clear c6b0
  try clear c6b1
  try clear c7
  try clear c7b0
  try clear c7b1
  try clear c8
  try clear c8b0
  try clear c8b1
  try clear hx272_0
  try clear hx273_0
  try clear p272
  try clear p273
  try clear q272
  try clear q273
  obtain ⟨kq,x30_2,rfl,HA,HJ2,HO_4,BK268,HB⟩:=hcut
  cases kq with
  | zero => exact absurd HA.out (by simp [spec_l07Read.j0])
  | succ kj2 =>
   have H:=HA.out
   clear HA
   simp only [spec_l07Read.j0] at H
   by_cases c12 : x30_2 = true
   ·subst c12
    have H1 : (some (0,0,0,0,0,false,false)) = some (r1,r2,r3,r4,r5,r6,r7):=by rw [if_pos rfl] at H;exact H
    clear H
    have H:=H1
    clear H1
    simp only [Option.some.injEq,Prod.mk.injEq] at H
    obtain ⟨rfl,rfl,rfl,rfl,rfl,rfl,rfl⟩:=H
    have hcz13_0 : wc.cell? ⟨gb268,0,none⟩ = some (.int .i64 0):=(bCe BK268.out 0).trans rfl
    have hcz13_1 : wc.cell? ⟨gb268,1,none⟩ = some (.int .i64 0):=(bCe BK268.out 1).trans rfl
    have hcz13_2 : wc.cell? ⟨gb268,2,none⟩ = some (.int .i64 0):=(bCe BK268.out 2).trans rfl
    have hcz13_3 : wc.cell? ⟨gb268,3,none⟩ = some (.int .i64 0):=(bCe BK268.out 3).trans rfl
    have hcz13_4 : wc.cell? ⟨gb268,4,none⟩ = some (.int .i64 0):=(bCe BK268.out 4).trans rfl
    have hcz13_5 : wc.cell? ⟨gb268,5,none⟩ = some (.bool false):=(bCe BK268.out 5).trans rfl
    have hfz13_0:=bFr BK268.out 0
    have hfz13_1:=bFr BK268.out 1
    have hfz13_2:=bFr BK268.out 2
    have hfz13_3:=bFr BK268.out 3
    have hfz13_4:=bFr BK268.out 4
    have hfz13_5:=bFr BK268.out 5
    go_wp2
    refine bodyPost_ret (results_ct rfl _ _ gb268 33 #[.int .i64 0,.int .i64 0,.int .i64 0,.int .i64 0,.int .i64 0,.bool false] (0,0) _ rfl (by (with_reducible repeat (first|refine bDn ?_ _|refine bDr ?_|refine bAl ?_ _));refine blk_put (cs:=#[.int .i64 0,.int .i64 0,.int .i64 0,.int .i64 0,.int .i64 0,.bool false]) ?_ 5 _ rfl;(with_reducible repeat (first|refine bDn ?_ _|refine bDr ?_|refine bAl ?_ _));refine blk_put (cs:=#[.int .i64 0,.int .i64 0,.int .i64 0,.int .i64 0,.int .i64 0,.bool false]) ?_ 4 _ rfl;(with_reducible repeat (first|refine bDn ?_ _|refine bDr ?_|refine bAl ?_ _));refine blk_put (cs:=#[.int .i64 0,.int .i64 0,.int .i64 0,.int .i64 0,.int .i64 0,.bool false]) ?_ 3 _ rfl;(with_reducible repeat (first|refine bDn ?_ _|refine bDr ?_|refine bAl ?_ _));refine blk_put (cs:=#[.int .i64 0,.int .i64 0,.int .i64 0,.int .i64 0,.int .i64 0,.bool false]) ?_ 2 _ rfl;(with_reducible repeat (first|refine bDn ?_ _|refine bDr ?_|refine bAl ?_ _));refine blk_put (cs:=#[.int .i64 0,.int .i64 0,.int .i64 0,.int .i64 0,.int .i64 0,.bool false]) ?_ 1 _ rfl;(with_reducible repeat (first|refine bDn ?_ _|refine bDr ?_|refine bAl ?_ _));refine blk_put (cs:=#[.int .i64 0,.int .i64 0,.int .i64 0,.int .i64 0,.int .i64 0,.bool false]) ?_ 0 _ rfl;(with_reducible repeat (first|refine bDn ?_ _|refine bDr ?_|refine bAl ?_ _));exact BK268.out) Tryd.underlying33 rfl (by kernel_rfl)) rfl ?_
    exact ⟨by first | rfl|(simp [errW_none,errW_some] <;> rfl)|(simp [*,errW_none,errW_some] <;> rfl),by repeat (first|(with_reducible first|exact HB.out|apply bwA|apply bwN|apply bw1|refine below_set ?_ GE268.out)|exact HB.out)⟩
   ·replace c12:=Bool.eq_false_iff.mpr c12
    subst c12
    have H1 : (if 0 < (t269.length : Int) then ((spec_l07Protos.f).bind fun t276 => (spec_l07Read.l0 kj2 t269 t276 0 (-1) 0 0 0 0 ((rdOf ByteArray.empty t269 0).toList == ([97,108,108,111,119] : List UInt8)))) else (none)) = some (r1,r2,r3,r4,r5,r6,r7):=by rw [if_neg (show ¬ (false = true) by decide)] at H;exact H
    clear H
    have H:=H1
    clear H1
    by_cases c14 : 0 < (t269.length : Int)
    ·rw [if_pos c14] at H
     have c14b0 : decide (0 < (t269.length : Int)) = true:=decide_eq_true c14
     have c14b1 : decide (0 < t269.length) = true:=decide_eq_true (by omega)
     clear c14
     replace H:=Option.bind_eq_some_iff.mp H
     obtain ⟨t276,A150,H⟩:=H
     replace H : (spec_l07Read.l0 kj2 t269 t276 0 (-1) 0 0 0 0 ((rdOf ByteArray.empty t269 0).toList == ([97,108,108,111,119] : List UInt8))) = some (r1,r2,r3,r4,r5,r6,r7):=H
     have A15:=aMk A150
     clear A150
     have H':=aMk H
     clear H
     obtain ⟨Ao16,co16,eo16⟩:=Kd.R_slice HO_4.out
     subst eo16
     have p274 : 0 ≤ (0 : Int):=(by omega)
     have q274 : 0 < (t269.length : Int):=of_decide_eq_true (by first|(with_reducible assumption) | assumption)
     obtain ⟨ad274,e274,hx274_0⟩:=Kd.at_string (Kd.R_reads' HO_4.out).2.2 0 p274 q274
     cases e274
     have qi274 : (0 < t269.length) = True:=eq_true (by omega)
     (try rw [show ((0 : Int)).toNat = 0 from rfl] at hx274_0)
     (try rw [Addr.add_zero'] at hx274_0)
     replace p274:=eq_true p274
     replace q274:=eq_true q274
     go_wp2_with (first|((with_reducible refine gate_dst (N:=5) rfl ?_);refine box_event ?hg (N:=5) ?hd (cs:=#[.int .i64 0,.int .i64 0,.int .i64 0,.int .i64 0,.int .i64 0,.bool false]) (t:=33) ?hr ?_;(case hd => rfl);(case hg => rfl);(case hr => first|(go_simp;done)|(go_simp;rfl));intro gb275 hg w17 hbox hb;have n0_:=aMk (Kd.R_below (by (with_reducible repeat (first|apply Kd.R_alloc|apply Kd.R_drewN|apply Kd.R_drew));exact HO_4.out) hb);have n1_:=aMk (blk_below (g:=gb268) (o:=.cells #[.int .i64 0,.int .i64 0,.int .i64 0,.int .i64 0,.int .i64 0,.bool false] 33 (0,0)) (by (with_reducible repeat (first|refine bDn ?_ _|refine bDr ?_|refine bAl ?_ _));exact BK268.out) hb);have n2_:=aMk (below_step (by repeat (first|(with_reducible first|exact HB.out|apply bwA|apply bwN|apply bw1|refine below_set ?_ GE268.out)|exact HB.out)) hb);have n3_:=aMk (hbox);have n4_:=aMk ((by rw [hg];exact (below_size (by repeat (first|(with_reducible first|exact HB.out|apply bwA|apply bwN|apply bw1|refine below_set ?_ GE268.out)|exact HB.out))) : w.heap.size ≤ gb275));have n5_:=aMk ((by rw [hg];exact (below_size (by repeat (first|(with_reducible first|exact HB.out|apply bwA|apply bwN|apply bw1|refine below_set ?_ GE268.out)|exact HB.out))) : w.heap.size ≤ gb275));have n6_:=aMk ((by rw [hg];exact Nat.ne_of_lt (blk_lt (g:=gb268) (o:=.cells #[.int .i64 0,.int .i64 0,.int .i64 0,.int .i64 0,.int .i64 0,.bool false] 33 (0,0)) (by (with_reducible repeat (first|refine bDn ?_ _|refine bDr ?_|refine bAl ?_ _));exact BK268.out)) : gb268 ≠ gb275));have n7_:=aMk ((by rw [hg];exact Nat.ne_of_gt (blk_lt (g:=gb268) (o:=.cells #[.int .i64 0,.int .i64 0,.int .i64 0,.int .i64 0,.int .i64 0,.bool false] 33 (0,0)) (by (with_reducible repeat (first|refine bDn ?_ _|refine bDr ?_|refine bAl ?_ _));exact BK268.out)) : gb275 ≠ gb268));clear HO_4;clear BK268;clear HB;have HO_4:=n0_;have BK268:=n1_;have HB:=n2_;have BK275:=n3_;have GW275:=n4_;have GE275:=n5_;have NB268_275:=n6_;have NB275_268:=n7_;clear n0_ n1_ n2_ n3_ n4_ n5_ n6_ n7_;clear hb hbox hg;have hnb18:=NB275_268.out;have hnc18:=NB268_275.out;have hcz19_0 : w17.cell? ⟨gb275,0,none⟩ = some (.int .i64 0):=(bCe BK275.out 0).trans rfl;have hcz19_1 : w17.cell? ⟨gb275,1,none⟩ = some (.int .i64 0):=(bCe BK275.out 1).trans rfl;have hcz19_2 : w17.cell? ⟨gb275,2,none⟩ = some (.int .i64 0):=(bCe BK275.out 2).trans rfl;have hcz19_3 : w17.cell? ⟨gb275,3,none⟩ = some (.int .i64 0):=(bCe BK275.out 3).trans rfl;have hcz19_4 : w17.cell? ⟨gb275,4,none⟩ = some (.int .i64 0):=(bCe BK275.out 4).trans rfl;have hcz19_5 : w17.cell? ⟨gb275,5,none⟩ = some (.bool false):=(bCe BK275.out 5).trans rfl;have hfz19_0:=bFr BK275.out 0;have hfz19_1:=bFr BK275.out 1;have hfz19_2:=bFr BK275.out 2;have hfz19_3:=bFr BK275.out 3;have hfz19_4:=bFr BK275.out 4;have hfz19_5:=bFr BK275.out 5)|((with_reducible refine gate_callee (f:=13) rfl ?_);refine goesL_ (some 37) rfl rfl Tryd.func13 (by kernel_rfl) rfl #[] rfl (by (try simp only [List.map_toArray,List.map_cons,List.map_nil]);first | done | rfl|(simp only [List.length_drop,List.length_take];rfl)) ?_;(with_reducible refine (spec_l07Protos.calls  t276 _ A15.out).mono ?_);rintro e w20 ⟨v277,rfl,ho0,hb⟩;refine ⟨_,rfl,?_⟩;have n0_:=aMk (Kd.R_elder' (by (with_reducible repeat (first|apply Kd.R_alloc|apply Kd.R_drewN|apply Kd.R_drew));exact (Kd.R_mono (Kd.R_far (p:=⟨gb275,5,none⟩) (Kd.R_far (p:=⟨gb275,4,none⟩) (Kd.R_far (p:=⟨gb275,3,none⟩) (Kd.R_far (p:=⟨gb275,2,none⟩) (Kd.R_far (p:=⟨gb275,1,none⟩) (Kd.R_far (p:=⟨gb275,0,none⟩) (Kd.R_types HO_4.out BK275.out (by decide)) (fun _ hk => hk.2) (.int .i64 (-1))) (fun _ hk => hk.2) (.int .i64 0)) (fun _ hk => hk.2) (.int .i64 0)) (fun _ hk => hk.2) (.int .i64 0)) (fun _ hk => hk.2) (.int .i64 0)) (fun _ hk => hk.2) (.bool ((rdOf ByteArray.empty t269 0).toList == ([97,108,108,111,119] : List UInt8)))) (fun _ h_ => h_.1))) (Kd.R_base ho0) hb);have n1_:=aMk (Kd.R_lower (Kd.R_new' ho0 (Kd.R_lt (by (with_reducible repeat (first|apply Kd.R_alloc|apply Kd.R_drewN|apply Kd.R_drew));exact (Kd.R_mono (Kd.R_far (p:=⟨gb275,5,none⟩) (Kd.R_far (p:=⟨gb275,4,none⟩) (Kd.R_far (p:=⟨gb275,3,none⟩) (Kd.R_far (p:=⟨gb275,2,none⟩) (Kd.R_far (p:=⟨gb275,1,none⟩) (Kd.R_far (p:=⟨gb275,0,none⟩) (Kd.R_types HO_4.out BK275.out (by decide)) (fun _ hk => hk.2) (.int .i64 (-1))) (fun _ hk => hk.2) (.int .i64 0)) (fun _ hk => hk.2) (.int .i64 0)) (fun _ hk => hk.2) (.int .i64 0)) (fun _ hk => hk.2) (.int .i64 0)) (fun _ hk => hk.2) (.bool ((rdOf ByteArray.empty t269 0).toList == ([97,108,108,111,119] : List UInt8)))) (fun _ h_ => h_.1))))) (below_size (by repeat (first|(with_reducible first|exact HB.out|apply bwA|apply bwN|apply bw1|refine below_set ?_ GE268.out|refine below_set ?_ GE275.out)|exact HB.out))));have n2_:=aMk (blk_below (g:=gb268) (o:=.cells #[.int .i64 0,.int .i64 0,.int .i64 0,.int .i64 0,.int .i64 0,.bool false] 33 (0,0)) (by (with_reducible repeat (first|refine bDn ?_ _|refine bDr ?_|refine bAl ?_ _));refine blk_far ?_ NB268_275.out _;(with_reducible repeat (first|refine bDn ?_ _|refine bDr ?_|refine bAl ?_ _));refine blk_far ?_ NB268_275.out _;(with_reducible repeat (first|refine bDn ?_ _|refine bDr ?_|refine bAl ?_ _));refine blk_far ?_ NB268_275.out _;(with_reducible repeat (first|refine bDn ?_ _|refine bDr ?_|refine bAl ?_ _));refine blk_far ?_ NB268_275.out _;(with_reducible repeat (first|refine bDn ?_ _|refine bDr ?_|refine bAl ?_ _));refine blk_far ?_ NB268_275.out _;(with_reducible repeat (first|refine bDn ?_ _|refine bDr ?_|refine bAl ?_ _));refine blk_far ?_ NB268_275.out _;(with_reducible repeat (first|refine bDn ?_ _|refine bDr ?_|refine bAl ?_ _));exact BK268.out) hb);have n3_:=aMk (blk_below (g:=gb275) (o:=.cells #[.int .i64 (-1),.int .i64 0,.int .i64 0,.int .i64 0,.int .i64 0,.bool ((rdOf ByteArray.empty t269 0).toList == ([97,108,108,111,119] : List UInt8))] 33 (0,0)) (by (with_reducible repeat (first|refine bDn ?_ _|refine bDr ?_|refine bAl ?_ _));refine blk_put (cs:=#[.int .i64 (-1),.int .i64 0,.int .i64 0,.int .i64 0,.int .i64 0,.bool false]) ?_ 5 _ rfl;(with_reducible repeat (first|refine bDn ?_ _|refine bDr ?_|refine bAl ?_ _));refine blk_put (cs:=#[.int .i64 (-1),.int .i64 0,.int .i64 0,.int .i64 0,.int .i64 0,.bool false]) ?_ 4 _ rfl;(with_reducible repeat (first|refine bDn ?_ _|refine bDr ?_|refine bAl ?_ _));refine blk_put (cs:=#[.int .i64 (-1),.int .i64 0,.int .i64 0,.int .i64 0,.int .i64 0,.bool false]) ?_ 3 _ rfl;(with_reducible repeat (first|refine bDn ?_ _|refine bDr ?_|refine bAl ?_ _));refine blk_put (cs:=#[.int .i64 (-1),.int .i64 0,.int .i64 0,.int .i64 0,.int .i64 0,.bool false]) ?_ 2 _ rfl;(with_reducible repeat (first|refine bDn ?_ _|refine bDr ?_|refine bAl ?_ _));refine blk_put (cs:=#[.int .i64 (-1),.int .i64 0,.int .i64 0,.int .i64 0,.int .i64 0,.bool false]) ?_ 1 _ rfl;(with_reducible repeat (first|refine bDn ?_ _|refine bDr ?_|refine bAl ?_ _));refine blk_put (cs:=#[.int .i64 0,.int .i64 0,.int .i64 0,.int .i64 0,.int .i64 0,.bool false]) ?_ 0 _ rfl;(with_reducible repeat (first|refine bDn ?_ _|refine bDr ?_|refine bAl ?_ _));exact BK275.out) hb);have n4_:=aMk (below_step (by repeat (first|(with_reducible first|exact HB.out|apply bwA|apply bwN|apply bw1|refine below_set ?_ GE268.out|refine below_set ?_ GE275.out)|exact HB.out)) hb);clear HO_4;clear BK268;clear BK275;clear HB;have HO_4:=n0_;have HO278:=n1_;have BK268:=n2_;have BK275:=n3_;have HB:=n4_;clear n0_ n1_ n2_ n3_ n4_;(try clear hb);(try clear hb2);(try clear hk);(try clear hi);(try clear ho0)))
     go_loopg [7] kj2 (fun kq v7 w' => ∃ (x7_2 : Int) (x276000_2 : Int),v7 = .int .i64 x7_2 ∧ Aside0 (spec_l07Read.l0 kq t269 t276 x7_2 x276000_2 0 0 0 0 ((rdOf ByteArray.empty t269 0).toList == ([97,108,108,111,119] : List UInt8)) = some (r1,r2,r3,r4,r5,r6,r7)) ∧ Aside0 (kq ≤ kj2) ∧ Aside0 (Kd.R Kd.string 9 w' w.heap.size (fun k_ => some k_ ≠ (v277 : Value).ownBlock) (.slice (some ad274) t269.length co16) t269) ∧ Aside0 (Kd.R Kd.string 9 w' w.heap.size (fun k_ => some k_ ≠ ((.slice (some ad274) t269.length co16) : Value).ownBlock) v277 t276) ∧ Aside0 (w'.heap[gb268]? = some (.cells #[.int .i64 0,.int .i64 0,.int .i64 0,.int .i64 0,.int .i64 0,.bool false] 33 (0,0))) ∧ Aside0 (w'.heap[gb275]? = some (.cells #[.int .i64 x276000_2,.int .i64 0,.int .i64 0,.int .i64 0,.int .i64 0,.bool ((rdOf ByteArray.empty t269 0).toList == ([97,108,108,111,119] : List UInt8))] 33 (0,0))) ∧ Aside0 (Below w.heap.size w w'))
     case atStart => exact ⟨(0),((-1)),(by first | rfl|(simp;done)|(simp [*];done)|(simp [ne_nil_b];done)|(simp [ne_nil_b, *];done)),H',⟨Nat.le_refl _⟩,⟨by (with_reducible repeat (first|apply Kd.R_alloc|apply Kd.R_drewN|apply Kd.R_drew));exact Kd.R_mono HO_4.out (fun _ hk => hk.2)⟩,⟨by (with_reducible repeat (first|apply Kd.R_alloc|apply Kd.R_drewN|apply Kd.R_drew));exact Kd.R_mono HO278.out (fun _ hk => hk.2)⟩,⟨by (with_reducible repeat (first|refine bDn ?_ _|refine bDr ?_|refine bAl ?_ _));exact BK268.out⟩,⟨by (with_reducible repeat (first|refine bDn ?_ _|refine bDr ?_|refine bAl ?_ _));exact BK275.out⟩,⟨by repeat (first|(with_reducible first|exact HB.out|apply bwA|apply bwN|apply bw1|refine below_set ?_ GE268.out|refine below_set ?_ GE275.out)|exact HB.out)⟩⟩
     case round =>
      clear H'
      try clear c1
      try clear c2
      try clear p2
      try clear q2
      try clear hx2
      try clear qi2
      try clear c4
      try clear c6
      try clear c6b0
      try clear c6b1
      try clear c7
      try clear c7b0
      try clear c7b1
      try clear c8
      try clear c8b0
      try clear c8b1
      try clear c12
      try clear c13
      try clear c14
      try clear c14b0
      try clear c14b1
      try clear c18
      try clear hcz13_0
      try clear hcz13_1
      try clear hcz13_2
      try clear hcz13_3
      try clear hcz13_4
      try clear hcz13_5
      try clear hcz19_0
      try clear hcz19_1
      try clear hcz19_2
      try clear hcz19_3
      try clear hcz19_4
      try clear hcz19_5
      try clear hfz13_0
      try clear hfz13_1
      try clear hfz13_2
      try clear hfz13_3
      try clear hfz13_4
      try clear hfz13_5
      try clear hfz19_0
      try clear hfz19_1
      try clear hfz19_2
      try clear hfz19_3
      try clear hfz19_4
      try clear hfz19_5
      try clear hx272_0
      try clear hx273_0
      try clear hx274_0
      try clear p2
      try clear p272
      try clear p273
      try clear p274
      try clear q2
      try clear q272
      try clear q273
      try clear q274
      obtain ⟨x7_2,x276000_2,rfl,HA,HK2,HO_4,HO_6,BK268,BK275,HB⟩:=hrel
      cases gk with
      | zero => exact absurd HA.out (by simp [spec_l07Read.l0])
      | succ k2 =>
       have H:=HA.out
       clear HA
       simp only [spec_l07Read.l0] at H
       by_cases c21 : x7_2 < (t276.length : Int)
       ·rw [if_pos c21] at H
        have c21b0 : decide (x7_2 < (t276.length : Int)) = true:=decide_eq_true c21
        clear c21
        by_cases c22 : 0 ≤ x7_2
        ·rw [if_pos c22] at H
         have c22b0 : decide (0 ≤ x7_2) = true:=decide_eq_true c22
         clear c22
         by_cases c23 : 1 < (t269.length : Int)
         ·rw [if_pos c23] at H
          have c23b0 : decide (1 < (t269.length : Int)) = true:=decide_eq_true c23
          have c23b1 : decide (1 < t269.length) = true:=decide_eq_true (by omega)
          clear c23
          by_cases c24 : (rdOf ByteArray.empty t276 x7_2).toList = (rdOf ByteArray.empty t269 1).toList
          ·rw [if_pos c24] at H
           have c24b0 : ((rdOf ByteArray.empty t276 x7_2).toList == (rdOf ByteArray.empty t269 1).toList) = true:=beq_iff_eq.mpr c24
           have c24b1 : ((rdOf ByteArray.empty t276 x7_2).toList != (rdOf ByteArray.empty t269 1).toList) = false:=bne_eq_false_iff_eq.mpr c24
           clear c24
           replace H:=Option.bind_eq_some_iff.mp H
           obtain ⟨t281,A250,H⟩:=H
           replace H : (if x7_2 < (t281.length : Int) then (spec_l07Read.l0 k2 t269 t276 (wrap64 (x7_2 + 1)) (rd t281 x7_2) 0 0 0 0 ((rdOf ByteArray.empty t269 0).toList == ([97,108,108,111,119] : List UInt8))) else (none)) = some (r1,r2,r3,r4,r5,r6,r7):=H
           have A25:=aMk A250
           clear A250
           by_cases c26 : x7_2 < (t281.length : Int)
           ·rw [if_pos c26] at H
            have c26b0 : decide (x7_2 < (t281.length : Int)) = true:=decide_eq_true c26
            clear c26
            have H':=aMk H
            clear H
            obtain ⟨Ao27,co27,eo27⟩:=Kd.R_slice HO_6.out
            subst eo27
            try go_wp2
            have n0_:=aMk (Kd.R_drew HO_4.out)
            have n1_:=aMk (Kd.R_drew HO_6.out)
            have n2_:=aMk (bDr BK268.out)
            have n3_:=aMk (bDr BK275.out)
            have n4_:=aMk (bw1 HB.out)
            clear HO_4
            clear HO_6
            clear BK268
            clear BK275
            clear HB
            have HO_4:=n0_
            have HO_6:=n1_
            have BK268:=n2_
            have BK275:=n3_
            have HB:=n4_
            clear n0_ n1_ n2_ n3_ n4_
            have p279 : 0 ≤ (x7_2 : Int):=of_decide_eq_true (by first|(with_reducible assumption) | assumption)
            have q279 : x7_2 < (t276.length : Int):=of_decide_eq_true (by first|(with_reducible assumption) | assumption)
            obtain ⟨ad279,e279,hx279_0⟩:=Kd.at_string (Kd.R_reads' HO_6.out).2.2 x7_2 p279 q279
            cases e279
            replace p279:=eq_true p279
            replace q279:=eq_true q279
            have p280 : 0 ≤ (1 : Int):=(by omega)
            have q280 : 1 < (t269.length : Int):=of_decide_eq_true (by first|(with_reducible assumption) | assumption)
            obtain ⟨ad280,e280,hx280_0⟩:=Kd.at_string (Kd.R_reads' HO_4.out).2.2 1 p280 q280
            obtain rfl : ad274 = ad280:=(by injection e280)
            (try simp only [show (1 : Int).toNat = 1 from rfl,Nat.reduceMul,Nat.reduceEqDiff,Go.Addr.add,↓reduceIte] at hx280_0)
            have qi280 : (1 < t269.length) = True:=eq_true (by omega)
            (try rw [show ((1 : Int)).toNat = 1 from rfl] at hx280_0)
            replace p280:=eq_true p280
            replace q280:=eq_true q280
            refine start_ (n:=8) (S:=fun w' => w'.cell? (ad279.add (x7_2).toNat) = some (.string (rdOf ByteArray.empty t276 x7_2)) ∧ w'.cell? ⟨ad274.block,ad274.off + 1,none⟩ = some (.string (rdOf ByteArray.empty t269 1))) (ds:=[]) #[false,false,false,false,false,false,false,false] (by kernel_rfl) rfl rfl ⟨hx279_0,hx280_0⟩ (fun hHeld => ?_);refine with_tabW spec_l07Read.tab9 spec_l07Read.bits9 (fun HT_ HW_ => ?_)
            generalize wr.drew = w28 at HO_4 HO_6 BK268 BK275 HB hx279_0 hx280_0 hHeld ⊢
            refine pure_ (i:=0) (N:=some 44) (v:=?_) (a':=?_) #[true,false,false,false,false,false,false,false] rfl rfl (any_of HT_.out (by kernel_rfl)) (fun _ _ _ h => h) (Or.inl ⟨by rfl,?_⟩) ?_ ?_
            rotate_left
            ·intro w'
             go_simp
             with_reducible rfl
            rotate_left
            ·simp only [Act.put,List.setIfInBounds_toArray,List.set_cons_zero,List.set_cons_succ,i64_w,i32_w]
             rfl
            refine pure_ (i:=1) (N:=some 45) (v:=?_) (a':=?_) #[true,true,false,false,false,false,false,false] rfl rfl (any_of HT_.out (by kernel_rfl)) (fun _ _ _ h => h) (Or.inl ⟨by rfl,?_⟩) ?_ ?_
            rotate_left
            ·intro w'
             go_simp
             with_reducible rfl
            rotate_left
            ·simp only [Act.put,List.setIfInBounds_toArray,List.set_cons_zero,List.set_cons_succ,i64_w,i32_w]
             rfl
            refine pure_ (i:=2) (N:=some 46) (v:=?_) (a':=?_) #[true,true,true,false,false,false,false,false] rfl rfl (any_of HT_.out (by kernel_rfl)) (fun _ _ _ h => h) (Or.inl ⟨by rfl,?_⟩) ?_ ?_
            rotate_left
            ·intro w'
             go_simp
             with_reducible rfl
            rotate_left
            ·simp only [Act.put,List.setIfInBounds_toArray,List.set_cons_zero,List.set_cons_succ,i64_w,i32_w]
             rfl
            refine pure_ (i:=4) (N:=some 48) (v:=?_) (a':=?_) #[true,true,true,false,true,false,false,false] rfl rfl (any_of HT_.out (by kernel_rfl)) (fun _ _ _ h => h) (Or.inl ⟨by rfl,?_⟩) ?_ ?_
            rotate_left
            ·intro w'
             go_simp
             with_reducible rfl
            rotate_left
            ·simp only [Act.put,List.setIfInBounds_toArray,List.set_cons_zero,List.set_cons_succ,i64_w,i32_w]
             rfl
            refine pure_ (i:=5) (N:=some 49) (v:=?_) (a':=?_) #[true,true,true,false,true,true,false,false] rfl rfl (any_of HT_.out (by kernel_rfl)) (fun _ _ _ h => h) (Or.inl ⟨by rfl,?_⟩) ?_ ?_
            rotate_left
            ·intro w'
             go_simp
             with_reducible rfl
            rotate_left
            ·simp only [Act.put,List.setIfInBounds_toArray,List.set_cons_zero,List.set_cons_succ,i64_w,i32_w]
             rfl
            refine take_ (i:=3) (N:=some 47) (v:=?_) (a':=?_) #[true,true,true,true,true,true,false,false] rfl rfl (take_ofW HT_.out HW_.out (by kernel_rfl)) (fun _ _ _ h => h) (Or.inl ⟨by rfl,?_⟩) hHeld ?_ ?_
            rotate_left
            ·rintro w' ⟨s0,s1⟩
             go_simp
             with_reducible rfl
            rotate_left
            ·simp only [Act.put,List.setIfInBounds_toArray,List.set_cons_zero,List.set_cons_succ,i64_w,i32_w]
             rfl
            refine take_ (i:=6) (N:=some 50) (v:=?_) (a':=?_) #[true,true,true,true,true,true,true,false] rfl rfl (take_ofW HT_.out HW_.out (by kernel_rfl)) (fun _ _ _ h => h) (Or.inl ⟨by rfl,?_⟩) hHeld ?_ ?_
            rotate_left
            ·rintro w' ⟨s0,s1⟩
             go_simp
             with_reducible rfl
            rotate_left
            ·simp only [Act.put,List.setIfInBounds_toArray,List.set_cons_zero,List.set_cons_succ,i64_w,i32_w]
             rfl
            refine pure_ (i:=7) (N:=some 51) (v:=?_) (a':=?_) #[true,true,true,true,true,true,true,true] rfl rfl (any_of HT_.out (by kernel_rfl)) (fun _ _ _ h => h) (Or.inl ⟨by rfl,?_⟩) ?_ ?_
            rotate_left
            ·intro w'
             go_simp
             with_reducible rfl
            rotate_left
            ·simp only [Act.put,List.setIfInBounds_toArray,List.set_cons_zero,List.set_cons_succ,i64_w,i32_w]
             rfl
            refine done_ (done_of HT_.out (by kernel_rfl)) ?_
            try go_wp2_with (first|((with_reducible refine gate_callee (f:=12) rfl ?_);refine goesL_ (some 52) rfl rfl Tryd.func12 (by kernel_rfl) rfl #[] rfl (by (try simp only [List.map_toArray,List.map_cons,List.map_nil]);first | done | rfl|(simp only [List.length_drop,List.length_take];rfl)) ?_;(with_reducible refine (spec_l07ProtoNumbers.calls  t281 _ A25.out).mono ?_);rintro e w29 ⟨v282,rfl,ho0,hb⟩;refine ⟨_,rfl,?_⟩;have n0_:=aMk (Kd.R_below (by (with_reducible repeat (first|apply Kd.R_alloc|apply Kd.R_drewN|apply Kd.R_drew));exact HO_4.out) hb);have n1_:=aMk (Kd.R_below (by (with_reducible repeat (first|apply Kd.R_alloc|apply Kd.R_drewN|apply Kd.R_drew));exact HO_6.out) hb);have n2_:=aMk (Kd.R_lower ho0 (below_size (by repeat (first|(with_reducible first|exact HB.out|apply bwA|apply bwN|apply bw1|refine below_set ?_ GE268.out|refine below_set ?_ GE275.out)|exact HB.out))));have n3_:=aMk (blk_below (g:=gb268) (o:=.cells #[.int .i64 0,.int .i64 0,.int .i64 0,.int .i64 0,.int .i64 0,.bool false] 33 (0,0)) (by (with_reducible repeat (first|refine bDn ?_ _|refine bDr ?_|refine bAl ?_ _));exact BK268.out) hb);have n4_:=aMk (blk_below (g:=gb275) (o:=.cells #[.int .i64 x276000_2,.int .i64 0,.int .i64 0,.int .i64 0,.int .i64 0,.bool ((rdOf ByteArray.empty t269 0).toList == ([97,108,108,111,119] : List UInt8))] 33 (0,0)) (by (with_reducible repeat (first|refine bDn ?_ _|refine bDr ?_|refine bAl ?_ _));exact BK275.out) hb);have n5_:=aMk (below_step (by repeat (first|(with_reducible first|exact HB.out|apply bwA|apply bwN|apply bw1|refine below_set ?_ GE268.out|refine below_set ?_ GE275.out)|exact HB.out)) hb);clear HO_4;clear HO_6;clear BK268;clear BK275;clear HB;have HO_4:=n0_;have HO_6:=n1_;have HO283:=n2_;have BK268:=n3_;have BK275:=n4_;have HB:=n5_;clear n0_ n1_ n2_ n3_ n4_ n5_;(try clear hb);(try clear hb2);(try clear hk);(try clear hi);(try clear ho0);obtain ⟨Ao30,co30,eo30⟩:=Kd.R_slice HO283.out;subst eo30;have p284 : 0 ≤ (x7_2 : Int):=of_decide_eq_true (by first|(with_reducible assumption) | assumption);have q284 : x7_2 < (t281.length : Int):=of_decide_eq_true (by first|(with_reducible assumption) | assumption);obtain ⟨ad284,e284,hx284_0⟩:=Kd.at_int (Kd.R_reads' HO283.out).2.2 x7_2 p284 q284;cases e284;replace p284:=eq_true p284;replace q284:=eq_true q284;have hnb31:=NB275_268.out;have hnc31:=NB268_275.out;have hcz32_0 : w29.cell? ⟨gb275,0,none⟩ = some (.int .i64 x276000_2):=(bCe BK275.out 0).trans rfl;have hcz32_1 : w29.cell? ⟨gb275,1,none⟩ = some (.int .i64 0):=(bCe BK275.out 1).trans rfl;have hcz32_2 : w29.cell? ⟨gb275,2,none⟩ = some (.int .i64 0):=(bCe BK275.out 2).trans rfl;have hcz32_3 : w29.cell? ⟨gb275,3,none⟩ = some (.int .i64 0):=(bCe BK275.out 3).trans rfl;have hcz32_4 : w29.cell? ⟨gb275,4,none⟩ = some (.int .i64 0):=(bCe BK275.out 4).trans rfl;have hcz32_5 : w29.cell? ⟨gb275,5,none⟩ = some (.bool ((rdOf ByteArray.empty t269 0).toList == ([97,108,108,111,119] : List UInt8))):=(bCe BK275.out 5).trans rfl;have hfz32_0:=bFr BK275.out 0;have hfz32_1:=bFr BK275.out 1;have hfz32_2:=bFr BK275.out 2;have hfz32_3:=bFr BK275.out 3;have hfz32_4:=bFr BK275.out 4;have hfz32_5:=bFr BK275.out 5))
            go_roundg k2
            case measure => have:=HJ2.out;have:=HK2.out;omega
            case rel => exact ⟨(wrap64 (x7_2 + 1)),(rd t281 x7_2),(by first | rfl|(simp;done)|(simp [*];done)|(simp [ne_nil_b];done)|(simp [ne_nil_b, *];done)),H',⟨by have:=HJ2.out;have:=HK2.out;omega⟩,⟨by (with_reducible repeat (first|apply Kd.R_alloc|apply Kd.R_drewN|apply Kd.R_drew));exact Kd.R_mono (Kd.R_far (p:=⟨gb275,0,none⟩) (Kd.R_types HO_4.out BK275.out (by decide)) (fun _ hk => hk.2) (.int .i64 (rd t281 x7_2))) (fun _ hk => hk.1)⟩,⟨by (with_reducible repeat (first|apply Kd.R_alloc|apply Kd.R_drewN|apply Kd.R_drew));exact Kd.R_mono (Kd.R_far (p:=⟨gb275,0,none⟩) (Kd.R_types HO_6.out BK275.out (by decide)) (fun _ hk => hk.2) (.int .i64 (rd t281 x7_2))) (fun _ hk => hk.1)⟩,⟨by (with_reducible repeat (first|refine bDn ?_ _|refine bDr ?_|refine bAl ?_ _));refine blk_far ?_ NB268_275.out _;(with_reducible repeat (first|refine bDn ?_ _|refine bDr ?_|refine bAl ?_ _));exact BK268.out⟩,⟨by (with_reducible repeat (first|refine bDn ?_ _|refine bDr ?_|refine bAl ?_ _));refine blk_put (cs:=#[.int .i64 x276000_2,.int .i64 0,.int .i64 0,.int .i64 0,.int .i64 0,.bool ((rdOf ByteArray.empty t269 0).toList == ([97,108,108,111,119] : List UInt8))]) ?_ 0 _ rfl;(with_reducible repeat (first|refine bDn ?_ _|refine bDr ?_|refine bAl ?_ _));exact BK275.out⟩,⟨by repeat (first|(with_reducible first|exact HB.out|apply bwA|apply bwN|apply bw1|refine below_set ?_ GE268.out|refine below_set ?_ GE275.out)|exact HB.out)⟩⟩
           ·rw [if_neg c26] at H
            exact absurd H (by simp)
          ·rw [if_neg c24] at H
           have c24b0 : ((rdOf ByteArray.empty t276 x7_2).toList == (rdOf ByteArray.empty t269 1).toList) = false:=beq_eq_false_iff_ne.mpr c24
           have c24b1 : ((rdOf ByteArray.empty t276 x7_2).toList != (rdOf ByteArray.empty t269 1).toList) = true:=bne_iff_ne.mpr c24
           have H':=aMk H
           clear H
           obtain ⟨Ao33,co33,eo33⟩:=Kd.R_slice HO_6.out
           subst eo33
           try go_wp2
           have n0_:=aMk (Kd.R_drew HO_4.out)
           have n1_:=aMk (Kd.R_drew HO_6.out)
           have n2_:=aMk (bDr BK268.out)
           have n3_:=aMk (bDr BK275.out)
           have n4_:=aMk (bw1 HB.out)
           clear HO_4
           clear HO_6
           clear BK268
           clear BK275
           clear HB
           have HO_4:=n0_
           have HO_6:=n1_
           have BK268:=n2_
           have BK275:=n3_
           have HB:=n4_
           clear n0_ n1_ n2_ n3_ n4_
           have p279 : 0 ≤ (x7_2 : Int):=of_decide_eq_true (by first|(with_reducible assumption) | assumption)
           have q279 : x7_2 < (t276.length : Int):=of_decide_eq_true (by first|(with_reducible assumption) | assumption)
           obtain ⟨ad279,e279,hx279_0⟩:=Kd.at_string (Kd.R_reads' HO_6.out).2.2 x7_2 p279 q279
           cases e279
           replace p279:=eq_true p279
           replace q279:=eq_true q279
           have p280 : 0 ≤ (1 : Int):=(by omega)
           have q280 : 1 < (t269.length : Int):=of_decide_eq_true (by first|(with_reducible assumption) | assumption)
           obtain ⟨ad280,e280,hx280_0⟩:=Kd.at_string (Kd.R_reads' HO_4.out).2.2 1 p280 q280
           obtain rfl : ad274 = ad280:=(by injection e280)
           (try simp only [show (1 : Int).toNat = 1 from rfl,Nat.reduceMul,Nat.reduceEqDiff,Go.Addr.add,↓reduceIte] at hx280_0)
           have qi280 : (1 < t269.length) = True:=eq_true (by omega)
           (try rw [show ((1 : Int)).toNat = 1 from rfl] at hx280_0)
           replace p280:=eq_true p280
           replace q280:=eq_true q280
           refine start_ (n:=8) (S:=fun w' => w'.cell? (ad279.add (x7_2).toNat) = some (.string (rdOf ByteArray.empty t276 x7_2)) ∧ w'.cell? ⟨ad274.block,ad274.off + 1,none⟩ = some (.string (rdOf ByteArray.empty t269 1))) (ds:=[]) #[false,false,false,false,false,false,false,false] (by kernel_rfl) rfl rfl ⟨hx279_0,hx280_0⟩ (fun hHeld => ?_);refine with_tabW spec_l07Read.tab9 spec_l07Read.bits9 (fun HT_ HW_ => ?_)
           generalize wr.drew = w34 at HO_4 HO_6 BK268 BK275 HB hx279_0 hx280_0 hHeld ⊢
           refine pure_ (i:=0) (N:=some 44) (v:=?_) (a':=?_) #[true,false,false,false,false,false,false,false] rfl rfl (any_of HT_.out (by kernel_rfl)) (fun _ _ _ h => h) (Or.inl ⟨by rfl,?_⟩) ?_ ?_
           rotate_left
           ·intro w'
            go_simp
            with_reducible rfl
           rotate_left
           ·simp only [Act.put,List.setIfInBounds_toArray,List.set_cons_zero,List.set_cons_succ,i64_w,i32_w]
            rfl
           refine pure_ (i:=1) (N:=some 45) (v:=?_) (a':=?_) #[true,true,false,false,false,false,false,false] rfl rfl (any_of HT_.out (by kernel_rfl)) (fun _ _ _ h => h) (Or.inl ⟨by rfl,?_⟩) ?_ ?_
           rotate_left
           ·intro w'
            go_simp
            with_reducible rfl
           rotate_left
           ·simp only [Act.put,List.setIfInBounds_toArray,List.set_cons_zero,List.set_cons_succ,i64_w,i32_w]
            rfl
           refine pure_ (i:=2) (N:=some 46) (v:=?_) (a':=?_) #[true,true,true,false,false,false,false,false] rfl rfl (any_of HT_.out (by kernel_rfl)) (fun _ _ _ h => h) (Or.inl ⟨by rfl,?_⟩) ?_ ?_
           rotate_left
           ·intro w'
            go_simp
            with_reducible rfl
           rotate_left
           ·simp only [Act.put,List.setIfInBounds_toArray,List.set_cons_zero,List.set_cons_succ,i64_w,i32_w]
            rfl
           refine pure_ (i:=4) (N:=some 48) (v:=?_) (a':=?_) #[true,true,true,false,true,false,false,false] rfl rfl (any_of HT_.out (by kernel_rfl)) (fun _ _ _ h => h) (Or.inl ⟨by rfl,?_⟩) ?_ ?_
           rotate_left
           ·intro w'
            go_simp
            with_reducible rfl
           rotate_left
           ·simp only [Act.put,List.setIfInBounds_toArray,List.set_cons_zero,List.set_cons_succ,i64_w,i32_w]
            rfl
           refine pure_ (i:=5) (N:=some 49) (v:=?_) (a':=?_) #[true,true,true,false,true,true,false,false] rfl rfl (any_of HT_.out (by kernel_rfl)) (fun _ _ _ h => h) (Or.inl ⟨by rfl,?_⟩) ?_ ?_
           rotate_left
           ·intro w'
            go_simp
            with_reducible rfl
           rotate_left
           ·simp only [Act.put,List.setIfInBounds_toArray,List.set_cons_zero,List.set_cons_succ,i64_w,i32_w]
            rfl
           refine take_ (i:=3) (N:=some 47) (v:=?_) (a':=?_) #[true,true,true,true,true,true,false,false] rfl rfl (take_ofW HT_.out HW_.out (by kernel_rfl)) (fun _ _ _ h => h) (Or.inl ⟨by rfl,?_⟩) hHeld ?_ ?_
           rotate_left
           ·rintro w' ⟨s0,s1⟩
            go_simp
            with_reducible rfl
           rotate_left
           ·simp only [Act.put,List.setIfInBounds_toArray,List.set_cons_zero,List.set_cons_succ,i64_w,i32_w]
            rfl
           refine take_ (i:=6) (N:=some 50) (v:=?_) (a':=?_) #[true,true,true,true,true,true,true,false] rfl rfl (take_ofW HT_.out HW_.out (by kernel_rfl)) (fun _ _ _ h => h) (Or.inl ⟨by rfl,?_⟩) hHeld ?_ ?_
           rotate_left
           ·rintro w' ⟨s0,s1⟩
            go_simp
            with_reducible rfl
           rotate_left
           ·simp only [Act.put,List.setIfInBounds_toArray,List.set_cons_zero,List.set_cons_succ,i64_w,i32_w]
            rfl
           refine pure_ (i:=7) (N:=some 51) (v:=?_) (a':=?_) #[true,true,true,true,true,true,true,true] rfl rfl (any_of HT_.out (by kernel_rfl)) (fun _ _ _ h => h) (Or.inl ⟨by rfl,?_⟩) ?_ ?_
           rotate_left
           ·intro w'
            go_simp
            with_reducible rfl
           rotate_left
           ·simp only [Act.put,List.setIfInBounds_toArray,List.set_cons_zero,List.set_cons_succ,i64_w,i32_w]
            rfl
           refine done_ (done_of HT_.out (by kernel_rfl)) ?_
           try go_wp2
           go_roundg k2
           case measure => have:=HJ2.out;have:=HK2.out;omega
           case rel => exact ⟨(wrap64 (x7_2 + 1)),(x276000_2),(by first | rfl|(simp;done)|(simp [*];done)|(simp [ne_nil_b];done)|(simp [ne_nil_b, *];done)),H',⟨by have:=HJ2.out;have:=HK2.out;omega⟩,⟨by (with_reducible repeat (first|apply Kd.R_alloc|apply Kd.R_drewN|apply Kd.R_drew));exact HO_4.out⟩,⟨by (with_reducible repeat (first|apply Kd.R_alloc|apply Kd.R_drewN|apply Kd.R_drew));exact HO_6.out⟩,⟨by (with_reducible repeat (first|refine bDn ?_ _|refine bDr ?_|refine bAl ?_ _));exact BK268.out⟩,⟨by (with_reducible repeat (first|refine bDn ?_ _|refine bDr ?_|refine bAl ?_ _));exact BK275.out⟩,⟨by repeat (first|(with_reducible first|exact HB.out|apply bwA|apply bwN|apply bw1|refine below_set ?_ GE268.out|refine below_set ?_ GE275.out)|exact HB.out)⟩⟩
         ·rw [if_neg c23] at H
          exact absurd H (by simp)
        ·rw [if_neg c22] at H
         exact absurd H (by simp)
       ·rw [if_neg c21] at H
        have c21b0 : decide (x7_2 < (t276.length : Int)) = false:=decide_eq_false c21
        clear c21
        by_cases c35 : 2 < (t269.length : Int)
        ·rw [if_pos c35] at H
         have c35b0 : decide (2 < (t269.length : Int)) = true:=decide_eq_true c35
         have c35b1 : decide (2 < t269.length) = true:=decide_eq_true (by omega)
         clear c35
         replace H:=Option.bind_eq_some_iff.mp H
         obtain ⟨⟨t286,t287,t288⟩,A360,H⟩:=H
         replace H : (if 3 < (t269.length : Int) then ((spec_l00Number.f k2 (rdOf ByteArray.empty t269 3)).bind fun bt291 => (if 4 < (t269.length : Int) then ((spec_l00Number.f k2 (rdOf ByteArray.empty t269 4)).bind fun bt294 => (if t288 = true then (if bt291.2 = true then (if bt294.2 = true then ((spec_RuleOK.f x276000_2 t286 t287 bt291.1 bt294.1 ((rdOf ByteArray.empty t269 0).toList == ([97,108,108,111,119] : List UInt8))).bind fun t296 => (some (x276000_2,t286,t287,bt291.1,bt294.1,((rdOf ByteArray.empty t269 0).toList == ([97,108,108,111,119] : List UInt8)),t296))) else (some (x276000_2,t286,t287,bt291.1,bt294.1,((rdOf ByteArray.empty t269 0).toList == ([97,108,108,111,119] : List UInt8)),false))) else (some (x276000_2,t286,t287,bt291.1,bt294.1,((rdOf ByteArray.empty t269 0).toList == ([97,108,108,111,119] : List UInt8)),false))) else (some (x276000_2,t286,t287,bt291.1,bt294.1,((rdOf ByteArray.empty t269 0).toList == ([97,108,108,111,119] : List UInt8)),false)))) else (none))) else (none)) = some (r1,r2,r3,r4,r5,r6,r7):=H
         have A36:=aMk A360
         clear A360
         by_cases c37 : 3 < (t269.length : Int)
         ·rw [if_pos c37] at H
          have c37b0 : decide (3 < (t269.length : Int)) = true:=decide_eq_true c37
          have c37b1 : decide (3 < t269.length) = true:=decide_eq_true (by omega)
          clear c37
          replace H:=Option.bind_eq_some_iff.mp H
          obtain ⟨⟨t291,t292⟩,A380,H⟩:=H
          replace H : (if 4 < (t269.length : Int) then ((spec_l00Number.f k2 (rdOf ByteArray.empty t269 4)).bind fun bt294 => (if t288 = true then (if t292 = true then (if bt294.2 = true then ((spec_RuleOK.f x276000_2 t286 t287 t291 bt294.1 ((rdOf ByteArray.empty t269 0).toList == ([97,108,108,111,119] : List UInt8))).bind fun t296 => (some (x276000_2,t286,t287,t291,bt294.1,((rdOf ByteArray.empty t269 0).toList == ([97,108,108,111,119] : List UInt8)),t296))) else (some (x276000_2,t286,t287,t291,bt294.1,((rdOf ByteArray.empty t269 0).toList == ([97,108,108,111,119] : List UInt8)),false))) else (some (x276000_2,t286,t287,t291,bt294.1,((rdOf ByteArray.empty t269 0).toList == ([97,108,108,111,119] : List UInt8)),false))) else (some (x276000_2,t286,t287,t291,bt294.1,((rdOf ByteArray.empty t269 0).toList == ([97,108,108,111,119] : List UInt8)),false)))) else (none)) = some (r1,r2,r3,r4,r5,r6,r7):=H
          have A38:=aMk A380
          clear A380
          by_cases c39 : 4 < (t269.length : Int)
          ·rw [if_pos c39] at H
           have c39b0 : decide (4 < (t269.length : Int)) = true:=decide_eq_true c39
           have c39b1 : decide (4 < t269.length) = true:=decide_eq_true (by omega)
           clear c39
           replace H:=Option.bind_eq_some_iff.mp H
           obtain ⟨⟨t294,t295⟩,A400,H⟩:=H
           replace H : (if t288 = true then (if t292 = true then (if t295 = true then ((spec_RuleOK.f x276000_2 t286 t287 t291 t294 ((rdOf ByteArray.empty t269 0).toList == ([97,108,108,111,119] : List UInt8))).bind fun t296 => (some (x276000_2,t286,t287,t291,t294,((rdOf ByteArray.empty t269 0).toList == ([97,108,108,111,119] : List UInt8)),t296))) else (some (x276000_2,t286,t287,t291,t294,((rdOf ByteArray.empty t269 0).toList == ([97,108,108,111,119] : List UInt8)),false))) else (some (x276000_2,t286,t287,t291,t294,((rdOf ByteArray.empty t269 0).toList == ([97,108,108,111,119] : List UInt8)),false))) else (some (x276000_2,t286,t287,t291,t294,((rdOf ByteArray.empty t269 0).toList == ([97,108,108,111,119] : List UInt8)),false))) = some (r1,r2,r3,r4,r5,r6,r7):=H
           have A40:=aMk A400
           clear A400
           by_cases c41 : t288 = true
           ·subst c41
            have H1 : (if t292 = true then (if t295 = true then ((spec_RuleOK.f x276000_2 t286 t287 t291 t294 ((rdOf ByteArray.empty t269 0).toList == ([97,108,108,111,119] : List UInt8))).bind fun t296 => (some (x276000_2,t286,t287,t291,t294,((rdOf ByteArray.empty t269 0).toList == ([97,108,108,111,119] : List UInt8)),t296))) else (some (x276000_2,t286,t287,t291,t294,((rdOf ByteArray.empty t269 0).toList == ([97,108,108,111,119] : List UInt8)),false))) else (some (x276000_2,t286,t287,t291,t294,((rdOf ByteArray.empty t269 0).toList == ([97,108,108,111,119] : List UInt8)),false))) = some (r1,r2,r3,r4,r5,r6,r7):=by rw [if_pos rfl] at H;exact H
            clear H
            have H:=H1
            clear H1
            by_cases c42 : t292 = true
            ·subst c42
             have H1 : (if t295 = true then ((spec_RuleOK.f x276000_2 t286 t287 t291 t294 ((rdOf ByteArray.empty t269 0).toList == ([97,108,108,111,119] : List UInt8))).bind fun t296 => (some (x276000_2,t286,t287,t291,t294,((rdOf ByteArray.empty t269 0).toList == ([97,108,108,111,119] : List UInt8)),t296))) else (some (x276000_2,t286,t287,t291,t294,((rdOf ByteArray.empty t269 0).toList == ([97,108,108,111,119] : List UInt8)),false))) = some (r1,r2,r3,r4,r5,r6,r7):=by rw [if_pos rfl] at H;exact H
             clear H
             have H:=H1
             clear H1
             by_cases c43 : t295 = true
             ·subst c43
              have H1 : ((spec_RuleOK.f x276000_2 t286 t287 t291 t294 ((rdOf ByteArray.empty t269 0).toList == ([97,108,108,111,119] : List UInt8))).bind fun t296 => (some (x276000_2,t286,t287,t291,t294,((rdOf ByteArray.empty t269 0).toList == ([97,108,108,111,119] : List UInt8)),t296))) = some (r1,r2,r3,r4,r5,r6,r7):=by rw [if_pos rfl] at H;exact H
              clear H
              have H:=H1
              clear H1
              replace H:=Option.bind_eq_some_iff.mp H
              obtain ⟨t296,A440,H⟩:=H
              replace H : (some (x276000_2,t286,t287,t291,t294,((rdOf ByteArray.empty t269 0).toList == ([97,108,108,111,119] : List UInt8)),t296)) = some (r1,r2,r3,r4,r5,r6,r7):=H
              have A44:=aMk A440
              clear A440
              simp only [Option.some.injEq,Prod.mk.injEq] at H
              obtain ⟨rfl,rfl,rfl,rfl,rfl,rfl,rfl⟩:=H
              obtain ⟨Ao45,co45,eo45⟩:=Kd.R_slice HO_6.out
              subst eo45
              have p285 : 0 ≤ (2 : Int):=(by omega)
              have q285 : 2 < (t269.length : Int):=of_decide_eq_true (by first|(with_reducible assumption) | assumption)
              obtain ⟨ad285,e285,hx285_0⟩:=Kd.at_string (Kd.R_reads' HO_4.out).2.2 2 p285 q285
              obtain rfl : ad274 = ad285:=(by injection e285)
              (try simp only [show (2 : Int).toNat = 2 from rfl,Nat.reduceMul,Nat.reduceEqDiff,Go.Addr.add,↓reduceIte] at hx285_0)
              have qi285 : (2 < t269.length) = True:=eq_true (by omega)
              (try rw [show ((2 : Int)).toNat = 2 from rfl] at hx285_0)
              replace p285:=eq_true p285
              replace q285:=eq_true q285
              try go_wp2_with (first|((with_reducible refine gate_callee (f:=41) rfl ?_);refine goesL_ (some 61) rfl rfl Tryd.func41 (by kernel_rfl) rfl #[.string (rdOf ByteArray.empty t269 2)] rfl (by (try simp only [List.map_toArray,List.map_cons,List.map_nil]);first | done | rfl|(simp only [List.length_drop,List.length_take];rfl)) ?_;(with_reducible refine (spec_l05Read.calls k2 (rdOf ByteArray.empty t269 2) t286 t287 true _ A36.out).mono ?_);rintro e w46 ⟨rfl,hb⟩;refine ⟨_,rfl,?_⟩;have n0_:=aMk (Kd.R_below (by (with_reducible repeat (first|apply Kd.R_alloc|apply Kd.R_drewN|apply Kd.R_drew));exact HO_4.out) hb);have n1_:=aMk (Kd.R_below (by (with_reducible repeat (first|apply Kd.R_alloc|apply Kd.R_drewN|apply Kd.R_drew));exact HO_6.out) hb);have n2_:=aMk (blk_below (g:=gb268) (o:=.cells #[.int .i64 0,.int .i64 0,.int .i64 0,.int .i64 0,.int .i64 0,.bool false] 33 (0,0)) (by (with_reducible repeat (first|refine bDn ?_ _|refine bDr ?_|refine bAl ?_ _));exact BK268.out) hb);have n3_:=aMk (blk_below (g:=gb275) (o:=.cells #[.int .i64 x276000_2,.int .i64 0,.int .i64 0,.int .i64 0,.int .i64 0,.bool ((rdOf ByteArray.empty t269 0).toList == ([97,108,108,111,119] : List UInt8))] 33 (0,0)) (by (with_reducible repeat (first|refine bDn ?_ _|refine bDr ?_|refine bAl ?_ _));exact BK275.out) hb);have n4_:=aMk (below_step (by repeat (first|(with_reducible first|exact HB.out|apply bwA|apply bwN|apply bw1|refine below_set ?_ GE268.out|refine below_set ?_ GE275.out)|exact HB.out)) hb);clear HO_4;clear HO_6;clear BK268;clear BK275;clear HB;have HO_4:=n0_;have HO_6:=n1_;have BK268:=n2_;have BK275:=n3_;have HB:=n4_;clear n0_ n1_ n2_ n3_ n4_;(try clear hb);(try clear hb2);(try clear hk);(try clear hi))|((with_reducible refine gate_dst (N:=8) rfl ?_);refine box_event ?hg (N:=8) ?hd (cs:=#[.int .i64 0,.int .i64 0]) (t:=30) ?hr ?_;(case hd => rfl);(case hg => rfl);(case hr => first|(go_simp;done)|(go_simp;rfl));intro gb289 hg w47 hbox hb;have n0_:=aMk (Kd.R_below (by (with_reducible repeat (first|apply Kd.R_alloc|apply Kd.R_drewN|apply Kd.R_drew));exact HO_4.out) hb);have n1_:=aMk (Kd.R_below (by (with_reducible repeat (first|apply Kd.R_alloc|apply Kd.R_drewN|apply Kd.R_drew));exact HO_6.out) hb);have n2_:=aMk (blk_below (g:=gb268) (o:=.cells #[.int .i64 0,.int .i64 0,.int .i64 0,.int .i64 0,.int .i64 0,.bool false] 33 (0,0)) (by (with_reducible repeat (first|refine bDn ?_ _|refine bDr ?_|refine bAl ?_ _));exact BK268.out) hb);have n3_:=aMk (blk_below (g:=gb275) (o:=.cells #[.int .i64 x276000_2,.int .i64 0,.int .i64 0,.int .i64 0,.int .i64 0,.bool ((rdOf ByteArray.empty t269 0).toList == ([97,108,108,111,119] : List UInt8))] 33 (0,0)) (by (with_reducible repeat (first|refine bDn ?_ _|refine bDr ?_|refine bAl ?_ _));exact BK275.out) hb);have n4_:=aMk (below_step (by repeat (first|(with_reducible first|exact HB.out|apply bwA|apply bwN|apply bw1|refine below_set ?_ GE268.out|refine below_set ?_ GE275.out)|exact HB.out)) hb);have n5_:=aMk (hbox);have n6_:=aMk ((by rw [hg];exact (below_size (by repeat (first|(with_reducible first|exact HB.out|apply bwA|apply bwN|apply bw1|refine below_set ?_ GE268.out|refine below_set ?_ GE275.out)|exact HB.out))) : w.heap.size ≤ gb289));have n7_:=aMk ((by rw [hg];exact (below_size (by repeat (first|(with_reducible first|exact HB.out|apply bwA|apply bwN|apply bw1|refine below_set ?_ GE268.out|refine below_set ?_ GE275.out)|exact HB.out))) : w.heap.size ≤ gb289));have n8_:=aMk ((by rw [hg];exact Nat.ne_of_lt (blk_lt (g:=gb268) (o:=.cells #[.int .i64 0,.int .i64 0,.int .i64 0,.int .i64 0,.int .i64 0,.bool false] 33 (0,0)) (by (with_reducible repeat (first|refine bDn ?_ _|refine bDr ?_|refine bAl ?_ _));exact BK268.out)) : gb268 ≠ gb289));have n9_:=aMk ((by rw [hg];exact Nat.ne_of_gt (blk_lt (g:=gb268) (o:=.cells #[.int .i64 0,.int .i64 0,.int .i64 0,.int .i64 0,.int .i64 0,.bool false] 33 (0,0)) (by (with_reducible repeat (first|refine bDn ?_ _|refine bDr ?_|refine bAl ?_ _));exact BK268.out)) : gb289 ≠ gb268));have n10_:=aMk ((by rw [hg];exact Nat.ne_of_lt (blk_lt (g:=gb275) (o:=.cells #[.int .i64 x276000_2,.int .i64 0,.int .i64 0,.int .i64 0,.int .i64 0,.bool ((rdOf ByteArray.empty t269 0).toList == ([97,108,108,111,119] : List UInt8))] 33 (0,0)) (by (with_reducible repeat (first|refine bDn ?_ _|refine bDr ?_|refine bAl ?_ _));exact BK275.out)) : gb275 ≠ gb289));have n11_:=aMk ((by rw [hg];exact Nat.ne_of_gt (blk_lt (g:=gb275) (o:=.cells #[.int .i64 x276000_2,.int .i64 0,.int .i64 0,.int .i64 0,.int .i64 0,.bool ((rdOf ByteArray.empty t269 0).toList == ([97,108,108,111,119] : List UInt8))] 33 (0,0)) (by (with_reducible repeat (first|refine bDn ?_ _|refine bDr ?_|refine bAl ?_ _));exact BK275.out)) : gb289 ≠ gb275));clear HO_4;clear HO_6;clear BK268;clear BK275;clear HB;have HO_4:=n0_;have HO_6:=n1_;have BK268:=n2_;have BK275:=n3_;have HB:=n4_;have BK289:=n5_;have GW289:=n6_;have GE289:=n7_;have NB268_289:=n8_;have NB289_268:=n9_;have NB275_289:=n10_;have NB289_275:=n11_;clear n0_ n1_ n2_ n3_ n4_ n5_ n6_ n7_ n8_ n9_ n10_ n11_;clear hb hbox hg;have hnb48:=NB289_268.out;have hnc48:=NB268_289.out;have hnb49:=NB289_275.out;have hnc49:=NB275_289.out;have hcz50_0 : w47.cell? ⟨gb289,0,none⟩ = some (.int .i64 0):=(bCe BK289.out 0).trans rfl;have hcz50_1 : w47.cell? ⟨gb289,1,none⟩ = some (.int .i64 0):=(bCe BK289.out 1).trans rfl;have hfz50_0:=bFr BK289.out 0;have hfz50_1:=bFr BK289.out 1;have p290 : 0 ≤ (3 : Int):=(by omega);have q290 : 3 < (t269.length : Int):=of_decide_eq_true (by first|(with_reducible assumption) | assumption);obtain ⟨ad290,e290,hx290_0⟩:=Kd.at_string (Kd.R_reads' HO_4.out).2.2 3 p290 q290;obtain rfl : ad274 = ad290:=(by injection e290);(try simp only [show (3 : Int).toNat = 3 from rfl,Nat.reduceMul,Nat.reduceEqDiff,Go.Addr.add,↓reduceIte] at hx290_0);have qi290 : (3 < t269.length) = True:=eq_true (by omega);(try rw [show ((3 : Int)).toNat = 3 from rfl] at hx290_0);have hn290_0 : ad274.block ≠ gb289:=Kd.own_blk (Kd.R_ne HO_4.out BK289.out (by decide));have hn290_1 : ad274.block ≠ gb289:=Kd.own_blk (Kd.R_ne HO_4.out BK289.out (by decide));replace hx290_0:=(cell_far (p:=⟨gb289,0,none⟩) (by first|(rw [add_block];exact hn290_0)|(show (Addr.add _ _).block ≠ _;rw [add_block];exact hn290_0)|exact hn290_0) (.int .i64 t286)).trans hx290_0;replace hx290_0:=(cell_far (p:=⟨gb289,1,none⟩) (by first|(rw [add_block];exact hn290_1)|(show (Addr.add _ _).block ≠ _;rw [add_block];exact hn290_1)|exact hn290_1) (.int .i64 t287)).trans hx290_0;clear hn290_0;clear hn290_1;replace p290:=eq_true p290;replace q290:=eq_true q290)|((with_reducible refine gate_callee (f:=42) rfl ?_);refine goesL_ (some 68) rfl rfl Tryd.func42 (by kernel_rfl) rfl #[.string (rdOf ByteArray.empty t269 3)] rfl (by (try simp only [List.map_toArray,List.map_cons,List.map_nil]);first | done | rfl|(simp only [List.length_drop,List.length_take];rfl)) ?_;(with_reducible refine (spec_l00Number.calls k2 (rdOf ByteArray.empty t269 3) t291 true _ A38.out).mono ?_);rintro e w' ⟨rfl,⟨nd,rfl⟩⟩;refine ⟨_,rfl,?_⟩;have p293 : 0 ≤ (4 : Int):=(by omega);have q293 : 4 < (t269.length : Int):=of_decide_eq_true (by first|(with_reducible assumption) | assumption);obtain ⟨ad293,e293,hx293_0⟩:=Kd.at_string (Kd.R_reads' HO_4.out).2.2 4 p293 q293;obtain rfl : ad274 = ad293:=(by injection e293);(try simp only [show (4 : Int).toNat = 4 from rfl,Nat.reduceMul,Nat.reduceEqDiff,Go.Addr.add,↓reduceIte] at hx293_0);have qi293 : (4 < t269.length) = True:=eq_true (by omega);(try rw [show ((4 : Int)).toNat = 4 from rfl] at hx293_0);have hn293_0 : ad274.block ≠ gb289:=Kd.own_blk (Kd.R_ne HO_4.out BK289.out (by decide));have hn293_1 : ad274.block ≠ gb289:=Kd.own_blk (Kd.R_ne HO_4.out BK289.out (by decide));replace hx293_0:=(cell_far (p:=⟨gb289,0,none⟩) (by first|(rw [add_block];exact hn293_0)|(show (Addr.add _ _).block ≠ _;rw [add_block];exact hn293_0)|exact hn293_0) (.int .i64 t286)).trans hx293_0;replace hx293_0:=(cell_far (p:=⟨gb289,1,none⟩) (by first|(rw [add_block];exact hn293_1)|(show (Addr.add _ _).block ≠ _;rw [add_block];exact hn293_1)|exact hn293_1) (.int .i64 t287)).trans hx293_0;clear hn293_0;clear hn293_1;replace p293:=eq_true p293;replace q293:=eq_true q293)|((with_reducible refine gate_callee (f:=42) rfl ?_);refine goesL_ (some 75) rfl rfl Tryd.func42 (by kernel_rfl) rfl #[.string (rdOf ByteArray.empty t269 4)] rfl (by (try simp only [List.map_toArray,List.map_cons,List.map_nil]);first | done | rfl|(simp only [List.length_drop,List.length_take];rfl)) ?_;(with_reducible refine (spec_l00Number.calls k2 (rdOf ByteArray.empty t269 4) t294 true _ A40.out).mono ?_);rintro e w' ⟨rfl,⟨nd,rfl⟩⟩;refine ⟨_,rfl,?_⟩;have hnb51:=NB275_268.out;have hnc51:=NB268_275.out;have hcz52_0 : w47.cell? ⟨gb275,0,none⟩ = some (.int .i64 x276000_2):=(bCe BK275.out 0).trans rfl;have hcz52_1 : w47.cell? ⟨gb275,1,none⟩ = some (.int .i64 0):=(bCe BK275.out 1).trans rfl;have hcz52_2 : w47.cell? ⟨gb275,2,none⟩ = some (.int .i64 0):=(bCe BK275.out 2).trans rfl;have hcz52_3 : w47.cell? ⟨gb275,3,none⟩ = some (.int .i64 0):=(bCe BK275.out 3).trans rfl;have hcz52_4 : w47.cell? ⟨gb275,4,none⟩ = some (.int .i64 0):=(bCe BK275.out 4).trans rfl;have hcz52_5 : w47.cell? ⟨gb275,5,none⟩ = some (.bool ((rdOf ByteArray.empty t269 0).toList == ([97,108,108,111,119] : List UInt8))):=(bCe BK275.out 5).trans rfl;have hfz52_0:=bFr BK275.out 0;have hfz52_1:=bFr BK275.out 1;have hfz52_2:=bFr BK275.out 2;have hfz52_3:=bFr BK275.out 3;have hfz52_4:=bFr BK275.out 4;have hfz52_5:=bFr BK275.out 5))
              (try (repeat rw [show ∀ (w_ : World) (n_ : Nat) (a_ : Addr) (v_ : Value),(w_.drewN n_).setCell a_ v_ = (w_.setCell a_ v_).drewN n_ from fun _ _ _ _ => rfl]));(try (repeat rw [World.drewN_drewN]))
              have n0_ : Aside0 (Kd.R Kd.string 9 ((((((w47.setCell ⟨gb289,0,none⟩ (.int .i64 t286)).setCell ⟨gb289,1,none⟩ (.int .i64 t287)).setCell ⟨gb275,1,none⟩ (.int .i64 t286)).setCell ⟨gb275,2,none⟩ (.int .i64 t287)).setCell ⟨gb275,3,none⟩ (.int .i64 t291)).setCell ⟨gb275,4,none⟩ (.int .i64 t294)) w.heap.size (fun k_ => some k_ ≠ (.slice Ao45 t276.length co45 : Value).ownBlock) (.slice (some ad274) t269.length co16) t269):=⟨by (with_reducible repeat (first|apply Kd.R_alloc|apply Kd.R_drewN|apply Kd.R_drew));exact Kd.R_mono (Kd.R_far (p:=⟨gb275,4,none⟩) (Kd.R_far (p:=⟨gb275,3,none⟩) (Kd.R_far (p:=⟨gb275,2,none⟩) (Kd.R_far (p:=⟨gb275,1,none⟩) (Kd.R_far (p:=⟨gb289,1,none⟩) (Kd.R_far (p:=⟨gb289,0,none⟩) (Kd.R_types (Kd.R_types HO_4.out BK289.out (by decide)) BK275.out (by decide)) (fun _ hk => hk.1.2) (.int .i64 t286)) (fun _ hk => hk.1.2) (.int .i64 t287)) (fun _ hk => hk.2) (.int .i64 t286)) (fun _ hk => hk.2) (.int .i64 t287)) (fun _ hk => hk.2) (.int .i64 t291)) (fun _ hk => hk.2) (.int .i64 t294)) (fun _ hk => hk.1.1)⟩
              have n1_ : Aside0 (Kd.R Kd.string 9 ((((((w47.setCell ⟨gb289,0,none⟩ (.int .i64 t286)).setCell ⟨gb289,1,none⟩ (.int .i64 t287)).setCell ⟨gb275,1,none⟩ (.int .i64 t286)).setCell ⟨gb275,2,none⟩ (.int .i64 t287)).setCell ⟨gb275,3,none⟩ (.int .i64 t291)).setCell ⟨gb275,4,none⟩ (.int .i64 t294)) w.heap.size (fun k_ => some k_ ≠ (.slice (some ad274) t269.length co16 : Value).ownBlock) (.slice Ao45 t276.length co45) t276):=⟨by (with_reducible repeat (first|apply Kd.R_alloc|apply Kd.R_drewN|apply Kd.R_drew));exact Kd.R_mono (Kd.R_far (p:=⟨gb275,4,none⟩) (Kd.R_far (p:=⟨gb275,3,none⟩) (Kd.R_far (p:=⟨gb275,2,none⟩) (Kd.R_far (p:=⟨gb275,1,none⟩) (Kd.R_far (p:=⟨gb289,1,none⟩) (Kd.R_far (p:=⟨gb289,0,none⟩) (Kd.R_types (Kd.R_types HO_6.out BK289.out (by decide)) BK275.out (by decide)) (fun _ hk => hk.1.2) (.int .i64 t286)) (fun _ hk => hk.1.2) (.int .i64 t287)) (fun _ hk => hk.2) (.int .i64 t286)) (fun _ hk => hk.2) (.int .i64 t287)) (fun _ hk => hk.2) (.int .i64 t291)) (fun _ hk => hk.2) (.int .i64 t294)) (fun _ hk => hk.1.1)⟩
              have n2_ : Aside0 (((((((w47.setCell ⟨gb289,0,none⟩ (.int .i64 t286)).setCell ⟨gb289,1,none⟩ (.int .i64 t287)).setCell ⟨gb275,1,none⟩ (.int .i64 t286)).setCell ⟨gb275,2,none⟩ (.int .i64 t287)).setCell ⟨gb275,3,none⟩ (.int .i64 t291)).setCell ⟨gb275,4,none⟩ (.int .i64 t294)).heap[gb268]? = some (.cells #[.int .i64 0,.int .i64 0,.int .i64 0,.int .i64 0,.int .i64 0,.bool false] 33 (0,0))):=⟨by (with_reducible repeat (first|refine bDn ?_ _|refine bDr ?_|refine bAl ?_ _));refine blk_far ?_ NB268_275.out _;(with_reducible repeat (first|refine bDn ?_ _|refine bDr ?_|refine bAl ?_ _));refine blk_far ?_ NB268_275.out _;(with_reducible repeat (first|refine bDn ?_ _|refine bDr ?_|refine bAl ?_ _));refine blk_far ?_ NB268_275.out _;(with_reducible repeat (first|refine bDn ?_ _|refine bDr ?_|refine bAl ?_ _));refine blk_far ?_ NB268_275.out _;(with_reducible repeat (first|refine bDn ?_ _|refine bDr ?_|refine bAl ?_ _));refine blk_far ?_ NB268_289.out _;(with_reducible repeat (first|refine bDn ?_ _|refine bDr ?_|refine bAl ?_ _));refine blk_far ?_ NB268_289.out _;(with_reducible repeat (first|refine bDn ?_ _|refine bDr ?_|refine bAl ?_ _));exact BK268.out⟩
              have n3_ : Aside0 (((((((w47.setCell ⟨gb289,0,none⟩ (.int .i64 t286)).setCell ⟨gb289,1,none⟩ (.int .i64 t287)).setCell ⟨gb275,1,none⟩ (.int .i64 t286)).setCell ⟨gb275,2,none⟩ (.int .i64 t287)).setCell ⟨gb275,3,none⟩ (.int .i64 t291)).setCell ⟨gb275,4,none⟩ (.int .i64 t294)).heap[gb275]? = some (.cells #[.int .i64 x276000_2,.int .i64 t286,.int .i64 t287,.int .i64 t291,.int .i64 t294,.bool ((rdOf ByteArray.empty t269 0).toList == ([97,108,108,111,119] : List UInt8))] 33 (0,0))):=⟨by (with_reducible repeat (first|refine bDn ?_ _|refine bDr ?_|refine bAl ?_ _));refine blk_put (cs:=#[.int .i64 x276000_2,.int .i64 t286,.int .i64 t287,.int .i64 t291,.int .i64 0,.bool ((rdOf ByteArray.empty t269 0).toList == ([97,108,108,111,119] : List UInt8))]) ?_ 4 _ rfl;(with_reducible repeat (first|refine bDn ?_ _|refine bDr ?_|refine bAl ?_ _));refine blk_put (cs:=#[.int .i64 x276000_2,.int .i64 t286,.int .i64 t287,.int .i64 0,.int .i64 0,.bool ((rdOf ByteArray.empty t269 0).toList == ([97,108,108,111,119] : List UInt8))]) ?_ 3 _ rfl;(with_reducible repeat (first|refine bDn ?_ _|refine bDr ?_|refine bAl ?_ _));refine blk_put (cs:=#[.int .i64 x276000_2,.int .i64 t286,.int .i64 0,.int .i64 0,.int .i64 0,.bool ((rdOf ByteArray.empty t269 0).toList == ([97,108,108,111,119] : List UInt8))]) ?_ 2 _ rfl;(with_reducible repeat (first|refine bDn ?_ _|refine bDr ?_|refine bAl ?_ _));refine blk_put (cs:=#[.int .i64 x276000_2,.int .i64 0,.int .i64 0,.int .i64 0,.int .i64 0,.bool ((rdOf ByteArray.empty t269 0).toList == ([97,108,108,111,119] : List UInt8))]) ?_ 1 _ rfl;(with_reducible repeat (first|refine bDn ?_ _|refine bDr ?_|refine bAl ?_ _));refine blk_far ?_ NB275_289.out _;(with_reducible repeat (first|refine bDn ?_ _|refine bDr ?_|refine bAl ?_ _));refine blk_far ?_ NB275_289.out _;(with_reducible repeat (first|refine bDn ?_ _|refine bDr ?_|refine bAl ?_ _));exact BK275.out⟩
              have n4_ : Aside0 (((((((w47.setCell ⟨gb289,0,none⟩ (.int .i64 t286)).setCell ⟨gb289,1,none⟩ (.int .i64 t287)).setCell ⟨gb275,1,none⟩ (.int .i64 t286)).setCell ⟨gb275,2,none⟩ (.int .i64 t287)).setCell ⟨gb275,3,none⟩ (.int .i64 t291)).setCell ⟨gb275,4,none⟩ (.int .i64 t294)).heap[gb289]? = some (.cells #[.int .i64 t286,.int .i64 t287] 30 (0,0))):=⟨by (with_reducible repeat (first|refine bDn ?_ _|refine bDr ?_|refine bAl ?_ _));refine blk_far ?_ NB289_275.out _;(with_reducible repeat (first|refine bDn ?_ _|refine bDr ?_|refine bAl ?_ _));refine blk_far ?_ NB289_275.out _;(with_reducible repeat (first|refine bDn ?_ _|refine bDr ?_|refine bAl ?_ _));refine blk_far ?_ NB289_275.out _;(with_reducible repeat (first|refine bDn ?_ _|refine bDr ?_|refine bAl ?_ _));refine blk_far ?_ NB289_275.out _;(with_reducible repeat (first|refine bDn ?_ _|refine bDr ?_|refine bAl ?_ _));refine blk_put (cs:=#[.int .i64 t286,.int .i64 0]) ?_ 1 _ rfl;(with_reducible repeat (first|refine bDn ?_ _|refine bDr ?_|refine bAl ?_ _));refine blk_put (cs:=#[.int .i64 0,.int .i64 0]) ?_ 0 _ rfl;(with_reducible repeat (first|refine bDn ?_ _|refine bDr ?_|refine bAl ?_ _));exact BK289.out⟩
              have n5_ : Aside0 (Below w.heap.size w ((((((w47.setCell ⟨gb289,0,none⟩ (.int .i64 t286)).setCell ⟨gb289,1,none⟩ (.int .i64 t287)).setCell ⟨gb275,1,none⟩ (.int .i64 t286)).setCell ⟨gb275,2,none⟩ (.int .i64 t287)).setCell ⟨gb275,3,none⟩ (.int .i64 t291)).setCell ⟨gb275,4,none⟩ (.int .i64 t294))):=⟨by repeat (first|(with_reducible first|exact HB.out|apply bwA|apply bwN|apply bw1|refine below_set ?_ GE268.out|refine below_set ?_ GE275.out|refine below_set ?_ GE289.out)|exact HB.out)⟩
              (try clear HO_4)
              (try clear HO_6)
              (try clear BK268)
              (try clear BK275)
              (try clear BK289)
              (try clear HB)
              generalize ((((((w47.setCell ⟨gb289,0,none⟩ (.int .i64 t286)).setCell ⟨gb289,1,none⟩ (.int .i64 t287)).setCell ⟨gb275,1,none⟩ (.int .i64 t286)).setCell ⟨gb275,2,none⟩ (.int .i64 t287)).setCell ⟨gb275,3,none⟩ (.int .i64 t291)).setCell ⟨gb275,4,none⟩ (.int .i64 t294)) = w53 at n0_ n1_ n2_ n3_ n4_ n5_ ⊢
              have HO_4:=n0_
              have HO_6:=n1_
              have BK268:=n2_
              have BK275:=n3_
              have BK289:=n4_
              have HB:=n5_
              clear n0_ n1_ n2_ n3_ n4_ n5_
              (try (rw [drewN_self w53];generalize hq_ : World.drewN w53 _ = w53;have n0_ : Aside0 (Kd.R Kd.string 9 w53 w.heap.size (fun k_ => some k_ ≠ (.slice Ao45 t276.length co45 : Value).ownBlock) (.slice (some ad274) t269.length co16) t269):=⟨by rw [← hq_];exact (by (with_reducible repeat (first|apply Kd.R_alloc|apply Kd.R_drewN|apply Kd.R_drew));exact HO_4.out)⟩;have n1_ : Aside0 (Kd.R Kd.string 9 w53 w.heap.size (fun k_ => some k_ ≠ (.slice (some ad274) t269.length co16 : Value).ownBlock) (.slice Ao45 t276.length co45) t276):=⟨by rw [← hq_];exact (by (with_reducible repeat (first|apply Kd.R_alloc|apply Kd.R_drewN|apply Kd.R_drew));exact HO_6.out)⟩;have n2_ : Aside0 (w53.heap[gb268]? = some (.cells #[.int .i64 0,.int .i64 0,.int .i64 0,.int .i64 0,.int .i64 0,.bool false] 33 (0,0))):=⟨by rw [← hq_];exact (by (with_reducible repeat (first|refine bDn ?_ _|refine bDr ?_|refine bAl ?_ _));exact BK268.out)⟩;have n3_ : Aside0 (w53.heap[gb275]? = some (.cells #[.int .i64 x276000_2,.int .i64 t286,.int .i64 t287,.int .i64 t291,.int .i64 t294,.bool ((rdOf ByteArray.empty t269 0).toList == ([97,108,108,111,119] : List UInt8))] 33 (0,0))):=⟨by rw [← hq_];exact (by (with_reducible repeat (first|refine bDn ?_ _|refine bDr ?_|refine bAl ?_ _));exact BK275.out)⟩;have n4_ : Aside0 (w53.heap[gb289]? = some (.cells #[.int .i64 t286,.int .i64 t287] 30 (0,0))):=⟨by rw [← hq_];exact (by (with_reducible repeat (first|refine bDn ?_ _|refine bDr ?_|refine bAl ?_ _));exact BK289.out)⟩;have n5_ : Aside0 (Below w.heap.size w w53):=⟨by rw [← hq_];exact (by repeat (first|(with_reducible first|exact HB.out|apply bwA|apply bwN|apply bw1|refine below_set ?_ GE268.out|refine below_set ?_ GE275.out|refine below_set ?_ GE289.out)|exact HB.out))⟩;clear HO_4 HO_6 BK268 BK275 BK289 HB hq_;have HO_4:=n0_;have HO_6:=n1_;have BK268:=n2_;have BK275:=n3_;have BK289:=n4_;have HB:=n5_;clear n0_ n1_ n2_ n3_ n4_ n5_))
              have n0_:=aMk (Kd.R_drew HO_4.out)
              have n1_:=aMk (Kd.R_drew HO_6.out)
              have n2_:=aMk (bDr BK268.out)
              have n3_:=aMk (bDr BK275.out)
              have n4_:=aMk (bDr BK289.out)
              have n5_:=aMk (bw1 HB.out)
              clear HO_4
              clear HO_6
              clear BK268
              clear BK275
              clear BK289
              clear HB
              have HO_4:=n0_
              have HO_6:=n1_
              have BK268:=n2_
              have BK275:=n3_
              have BK289:=n4_
              have HB:=n5_
              clear n0_ n1_ n2_ n3_ n4_ n5_
              refine start_ (n:=14) (S:=fun w' => w'.cell? ⟨gb275,0,none⟩ = some (.int .i64 x276000_2) ∧ w'.cell? ⟨gb275,1,none⟩ = some (.int .i64 t286) ∧ w'.cell? ⟨gb275,2,none⟩ = some (.int .i64 t287) ∧ w'.cell? ⟨gb275,3,none⟩ = some (.int .i64 t291) ∧ w'.cell? ⟨gb275,4,none⟩ = some (.int .i64 t294) ∧ w'.cell? ⟨gb275,5,none⟩ = some (.bool ((rdOf ByteArray.empty t269 0).toList == ([97,108,108,111,119] : List UInt8)))) (ds:=[]) #[false,false,false,false,false,false,false,false,false,false,false,false,false,false] (by kernel_rfl) rfl rfl ⟨(bCe BK275.out 0).trans rfl,(bCe BK275.out 1).trans rfl,(bCe BK275.out 2).trans rfl,(bCe BK275.out 3).trans rfl,(bCe BK275.out 4).trans rfl,(bCe BK275.out 5).trans rfl⟩ (fun hHeld => ?_);refine with_tabW spec_l07Read.tab16 spec_l07Read.bits16 (fun HT_ HW_ => ?_)
              generalize w53.drew = w54 at HO_4 HO_6 BK268 BK275 BK289 HB hHeld ⊢
              refine pure_ (i:=1) (N:=some 85) (v:=?_) (a':=?_) #[false,true,false,false,false,false,false,false,false,false,false,false,false,false] rfl rfl (any_of HT_.out (by kernel_rfl)) (fun _ _ _ h => h) (Or.inl ⟨by rfl,?_⟩) ?_ ?_
              rotate_left
              ·intro w'
               go_simp
               with_reducible rfl
              rotate_left
              ·simp only [Act.put,List.setIfInBounds_toArray,List.set_cons_zero,List.set_cons_succ,i64_w,i32_w]
               rfl
              refine pure_ (i:=2) (N:=some 86) (v:=?_) (a':=?_) #[false,true,true,false,false,false,false,false,false,false,false,false,false,false] rfl rfl (any_of HT_.out (by kernel_rfl)) (fun _ _ _ h => h) (Or.inl ⟨by rfl,?_⟩) ?_ ?_
              rotate_left
              ·intro w'
               go_simp
               with_reducible rfl
              rotate_left
              ·simp only [Act.put,List.setIfInBounds_toArray,List.set_cons_zero,List.set_cons_succ,i64_w,i32_w]
               rfl
              refine pure_ (i:=3) (N:=some 87) (v:=?_) (a':=?_) #[false,true,true,true,false,false,false,false,false,false,false,false,false,false] rfl rfl (any_of HT_.out (by kernel_rfl)) (fun _ _ _ h => h) (Or.inl ⟨by rfl,?_⟩) ?_ ?_
              rotate_left
              ·intro w'
               go_simp
               with_reducible rfl
              rotate_left
              ·simp only [Act.put,List.setIfInBounds_toArray,List.set_cons_zero,List.set_cons_succ,i64_w,i32_w]
               rfl
              refine pure_ (i:=4) (N:=some 88) (v:=?_) (a':=?_) #[false,true,true,true,true,false,false,false,false,false,false,false,false,false] rfl rfl (any_of HT_.out (by kernel_rfl)) (fun _ _ _ h => h) (Or.inl ⟨by rfl,?_⟩) ?_ ?_
              rotate_left
              ·intro w'
               go_simp
               with_reducible rfl
              rotate_left
              ·simp only [Act.put,List.setIfInBounds_toArray,List.set_cons_zero,List.set_cons_succ,i64_w,i32_w]
               rfl
              refine pure_ (i:=5) (N:=some 89) (v:=?_) (a':=?_) #[false,true,true,true,true,true,false,false,false,false,false,false,false,false] rfl rfl (any_of HT_.out (by kernel_rfl)) (fun _ _ _ h => h) (Or.inl ⟨by rfl,?_⟩) ?_ ?_
              rotate_left
              ·intro w'
               go_simp
               with_reducible rfl
              rotate_left
              ·simp only [Act.put,List.setIfInBounds_toArray,List.set_cons_zero,List.set_cons_succ,i64_w,i32_w]
               rfl
              refine pure_ (i:=6) (N:=some 90) (v:=?_) (a':=?_) #[false,true,true,true,true,true,true,false,false,false,false,false,false,false] rfl rfl (any_of HT_.out (by kernel_rfl)) (fun _ _ _ h => h) (Or.inl ⟨by rfl,?_⟩) ?_ ?_
              rotate_left
              ·intro w'
               go_simp
               with_reducible rfl
              rotate_left
              ·simp only [Act.put,List.setIfInBounds_toArray,List.set_cons_zero,List.set_cons_succ,i64_w,i32_w]
               rfl
              refine pure_ (i:=7) (N:=some 91) (v:=?_) (a':=?_) #[false,true,true,true,true,true,true,true,false,false,false,false,false,false] rfl rfl (any_of HT_.out (by kernel_rfl)) (fun _ _ _ h => h) (Or.inl ⟨by rfl,?_⟩) ?_ ?_
              rotate_left
              ·intro w'
               go_simp
               with_reducible rfl
              rotate_left
              ·simp only [Act.put,List.setIfInBounds_toArray,List.set_cons_zero,List.set_cons_succ,i64_w,i32_w]
               rfl
              refine pure_ (i:=8) (N:=some 92) (v:=?_) (a':=?_) #[false,true,true,true,true,true,true,true,true,false,false,false,false,false] rfl rfl (any_of HT_.out (by kernel_rfl)) (fun _ _ _ h => h) (Or.inl ⟨by rfl,?_⟩) ?_ ?_
              rotate_left
              ·intro w'
               go_simp
               with_reducible rfl
              rotate_left
              ·simp only [Act.put,List.setIfInBounds_toArray,List.set_cons_zero,List.set_cons_succ,i64_w,i32_w]
               rfl
              refine take_ (i:=0) (N:=some 84) (v:=?_) (a':=?_) #[true,true,true,true,true,true,true,true,true,false,false,false,false,false] rfl rfl (take_ofW HT_.out HW_.out (by kernel_rfl)) (fun _ _ _ h => h) (Or.inl ⟨by rfl,?_⟩) hHeld ?_ ?_
              rotate_left
              ·rintro w' ⟨s0,s1,s2,s3,s4,s5⟩
               go_simp
               with_reducible rfl
              rotate_left
              ·simp only [Act.put,List.setIfInBounds_toArray,List.set_cons_zero,List.set_cons_succ,i64_w,i32_w]
               rfl
              refine take_ (i:=9) (N:=some 93) (v:=?_) (a':=?_) #[true,true,true,true,true,true,true,true,true,true,false,false,false,false] rfl rfl (take_ofW HT_.out HW_.out (by kernel_rfl)) (fun _ _ _ h => h) (Or.inl ⟨by rfl,?_⟩) hHeld ?_ ?_
              rotate_left
              ·rintro w' ⟨s0,s1,s2,s3,s4,s5⟩
               go_simp
               with_reducible rfl
              rotate_left
              ·simp only [Act.put,List.setIfInBounds_toArray,List.set_cons_zero,List.set_cons_succ,i64_w,i32_w]
               rfl
              refine one_ (i:=10) (N:=some 94) #[true,true,true,true,true,true,true,true,true,true,true,false,false,false] rfl rfl (one_of HT_.out (by kernel_rfl)) (by decide) (fun K hK => ?_)
              refine goes_ Tryd.func11 (by kernel_rfl) rfl #[.agg #[.int .i64 x276000_2,.int .i64 t286,.int .i64 t287,.int .i64 t291,.int .i64 t294,.bool ((rdOf ByteArray.empty t269 0).toList == ([97,108,108,111,119] : List UInt8))]] (by rfl) rfl rfl (by (try simp only [List.map_toArray,List.map_cons,List.map_nil]);first | done | rfl|(simp only [List.length_drop,List.length_take];rfl)) ?_
              with_reducible refine (spec_RuleOK.calls x276000_2 t286 t287 t291 t294 ((rdOf ByteArray.empty t269 0).toList == ([97,108,108,111,119] : List UInt8)) t296 _ A44.out).mono ?_
              rintro e w55 ⟨rfl,hb⟩
              refine ⟨_,rfl,?_⟩
              have n0_:=aMk (Kd.R_below (by (with_reducible repeat (first|apply Kd.R_alloc|apply Kd.R_drewN|apply Kd.R_drew));exact HO_4.out) hb)
              have n1_:=aMk (Kd.R_below (by (with_reducible repeat (first|apply Kd.R_alloc|apply Kd.R_drewN|apply Kd.R_drew));exact HO_6.out) hb)
              have n2_:=aMk (blk_below (g:=gb268) (o:=.cells #[.int .i64 0,.int .i64 0,.int .i64 0,.int .i64 0,.int .i64 0,.bool false] 33 (0,0)) (by (with_reducible repeat (first|refine bDn ?_ _|refine bDr ?_|refine bAl ?_ _));exact BK268.out) hb)
              have n3_:=aMk (blk_below (g:=gb275) (o:=.cells #[.int .i64 x276000_2,.int .i64 t286,.int .i64 t287,.int .i64 t291,.int .i64 t294,.bool ((rdOf ByteArray.empty t269 0).toList == ([97,108,108,111,119] : List UInt8))] 33 (0,0)) (by (with_reducible repeat (first|refine bDn ?_ _|refine bDr ?_|refine bAl ?_ _));exact BK275.out) hb)
              have n4_:=aMk (blk_below (g:=gb289) (o:=.cells #[.int .i64 t286,.int .i64 t287] 30 (0,0)) (by (with_reducible repeat (first|refine bDn ?_ _|refine bDr ?_|refine bAl ?_ _));exact BK289.out) hb)
              have n5_:=aMk (below_step (by repeat (first|(with_reducible first|exact HB.out|apply bwA|apply bwN|apply bw1|refine below_set ?_ GE268.out|refine below_set ?_ GE275.out|refine below_set ?_ GE289.out)|exact HB.out)) hb)
              clear HO_4
              clear HO_6
              clear BK268
              clear BK275
              clear BK289
              clear HB
              have HO_4:=n0_
              have HO_6:=n1_
              have BK268:=n2_
              have BK275:=n3_
              have BK289:=n4_
              have HB:=n5_
              clear n0_ n1_ n2_ n3_ n4_ n5_
              (try clear hb)
              (try clear hb2)
              (try clear hk)
              (try clear hi)
              refine hK.out _ _ ⟨(bCe BK275.out 0).trans rfl,(bCe BK275.out 1).trans rfl,(bCe BK275.out 2).trans rfl,(bCe BK275.out 3).trans rfl,(bCe BK275.out 4).trans rfl,(bCe BK275.out 5).trans rfl⟩ (fun hHeld => ?_)
              clear hK K
              refine norm_ (a':=?_) ?_ ?_
              rotate_left
              ·show Act.put _ (some 94) _ = _
               simp only [Act.put,List.setIfInBounds_toArray,List.set_cons_zero,List.set_cons_succ,i64_w,i32_w]
               rfl
              refine pure_ (i:=11) (N:=some 95) (v:=?_) (a':=?_) #[true,true,true,true,true,true,true,true,true,true,true,true,false,false] rfl rfl (any_of HT_.out (by kernel_rfl)) (fun _ _ _ h => h) (Or.inl ⟨by rfl,?_⟩) ?_ ?_
              rotate_left
              ·intro w'
               go_simp
               with_reducible rfl
              rotate_left
              ·simp only [Act.put,List.setIfInBounds_toArray,List.set_cons_zero,List.set_cons_succ,i64_w,i32_w]
               rfl
              refine one_ (i:=12) (N:=none) #[true,true,true,true,true,true,true,true,true,true,true,true,true,false] rfl rfl (one_of HT_.out (by kernel_rfl)) (by decide) (fun K hK => ?_)
              have hs56 : w55.cell? ⟨gb268,0,none⟩ = some (.int .i64 0):=(bCe BK268.out 0).trans rfl
              have hfs56:=bFr BK268.out 0
              have hns56_1:=NB275_268.out
              have hns56_2:=NB289_268.out
              have hms56_1:=NB268_275.out
              have hms56_2:=NB268_289.out
              have hs57 : w55.cell? ⟨gb268,1,none⟩ = some (.int .i64 0):=(bCe BK268.out 1).trans rfl
              have hfs57:=bFr BK268.out 1
              have hns57_1:=NB275_268.out
              have hns57_2:=NB289_268.out
              have hms57_1:=NB268_275.out
              have hms57_2:=NB268_289.out
              have hs58 : w55.cell? ⟨gb268,2,none⟩ = some (.int .i64 0):=(bCe BK268.out 2).trans rfl
              have hfs58:=bFr BK268.out 2
              have hns58_1:=NB275_268.out
              have hns58_2:=NB289_268.out
              have hms58_1:=NB268_275.out
              have hms58_2:=NB268_289.out
              have hs59 : w55.cell? ⟨gb268,3,none⟩ = some (.int .i64 0):=(bCe BK268.out 3).trans rfl
              have hfs59:=bFr BK268.out 3
              have hns59_1:=NB275_268.out
              have hns59_2:=NB289_268.out
              have hms59_1:=NB268_275.out
              have hms59_2:=NB268_289.out
              have hs60 : w55.cell? ⟨gb268,4,none⟩ = some (.int .i64 0):=(bCe BK268.out 4).trans rfl
              have hfs60:=bFr BK268.out 4
              have hns60_1:=NB275_268.out
              have hns60_2:=NB289_268.out
              have hms60_1:=NB268_275.out
              have hms60_2:=NB268_289.out
              have hs61 : w55.cell? ⟨gb268,5,none⟩ = some (.bool false):=(bCe BK268.out 5).trans rfl
              have hfs61:=bFr BK268.out 5
              have hns61_1:=NB275_268.out
              have hns61_2:=NB289_268.out
              have hms61_1:=NB268_275.out
              have hms61_2:=NB268_289.out
              refine skip_ (w1:=?_) (by rfl) rfl ?_ ?_
              rotate_left
              ·go_simp
               rfl
              refine hK.out _ _ ⟨((cell_far (p:=⟨gb268,_,none⟩) NB275_268.out _).trans (((cell_far (p:=⟨gb268,_,none⟩) NB275_268.out _).trans (((cell_far (p:=⟨gb268,_,none⟩) NB275_268.out _).trans (((cell_far (p:=⟨gb268,_,none⟩) NB275_268.out _).trans (((cell_far (p:=⟨gb268,_,none⟩) NB275_268.out _).trans (((cell_far (p:=⟨gb268,_,none⟩) NB275_268.out _).trans (hHeld.1)))))))))))),((cell_far (p:=⟨gb268,_,none⟩) NB275_268.out _).trans (((cell_far (p:=⟨gb268,_,none⟩) NB275_268.out _).trans (((cell_far (p:=⟨gb268,_,none⟩) NB275_268.out _).trans (((cell_far (p:=⟨gb268,_,none⟩) NB275_268.out _).trans (((cell_far (p:=⟨gb268,_,none⟩) NB275_268.out _).trans (((cell_far (p:=⟨gb268,_,none⟩) NB275_268.out _).trans (hHeld.2.1)))))))))))),((cell_far (p:=⟨gb268,_,none⟩) NB275_268.out _).trans (((cell_far (p:=⟨gb268,_,none⟩) NB275_268.out _).trans (((cell_far (p:=⟨gb268,_,none⟩) NB275_268.out _).trans (((cell_far (p:=⟨gb268,_,none⟩) NB275_268.out _).trans (((cell_far (p:=⟨gb268,_,none⟩) NB275_268.out _).trans (((cell_far (p:=⟨gb268,_,none⟩) NB275_268.out _).trans (hHeld.2.2.1)))))))))))),((cell_far (p:=⟨gb268,_,none⟩) NB275_268.out _).trans (((cell_far (p:=⟨gb268,_,none⟩) NB275_268.out _).trans (((cell_far (p:=⟨gb268,_,none⟩) NB275_268.out _).trans (((cell_far (p:=⟨gb268,_,none⟩) NB275_268.out _).trans (((cell_far (p:=⟨gb268,_,none⟩) NB275_268.out _).trans (((cell_far (p:=⟨gb268,_,none⟩) NB275_268.out _).trans (hHeld.2.2.2.1)))))))))))),((cell_far (p:=⟨gb268,_,none⟩) NB275_268.out _).trans (((cell_far (p:=⟨gb268,_,none⟩) NB275_268.out _).trans (((cell_far (p:=⟨gb268,_,none⟩) NB275_268.out _).trans (((cell_far (p:=⟨gb268,_,none⟩) NB275_268.out _).trans (((cell_far (p:=⟨gb268,_,none⟩) NB275_268.out _).trans (((cell_far (p:=⟨gb268,_,none⟩) NB275_268.out _).trans (hHeld.2.2.2.2.1)))))))))))),((cell_far (p:=⟨gb268,_,none⟩) NB275_268.out _).trans (((cell_far (p:=⟨gb268,_,none⟩) NB275_268.out _).trans (((cell_far (p:=⟨gb268,_,none⟩) NB275_268.out _).trans (((cell_far (p:=⟨gb268,_,none⟩) NB275_268.out _).trans (((cell_far (p:=⟨gb268,_,none⟩) NB275_268.out _).trans (((cell_far (p:=⟨gb268,_,none⟩) NB275_268.out _).trans (hHeld.2.2.2.2.2))))))))))))⟩ (fun hHeld => ?_)
              clear hK K
              refine pure_ (i:=13) (N:=some 3) (v:=?_) (a':=?_) #[true,true,true,true,true,true,true,true,true,true,true,true,true,true] rfl rfl (any_of HT_.out (by kernel_rfl)) (fun _ _ _ h => h) (Or.inl ⟨by rfl,?_⟩) ?_ ?_
              rotate_left
              ·intro w'
               go_simp
               with_reducible rfl
              rotate_left
              ·simp only [Act.put,List.setIfInBounds_toArray,List.set_cons_zero,List.set_cons_succ,i64_w,i32_w]
               rfl
              refine done_ (done_of HT_.out (by kernel_rfl)) ?_
              try go_wp2
              refine bodyPost_ret (results_ct rfl _ _ gb268 33 #[.int .i64 x276000_2,.int .i64 t286,.int .i64 t287,.int .i64 t291,.int .i64 t294,.bool ((rdOf ByteArray.empty t269 0).toList == ([97,108,108,111,119] : List UInt8))] (0,0) _ rfl (by (with_reducible repeat (first|refine bDn ?_ _|refine bDr ?_|refine bAl ?_ _));refine blk_put (cs:=#[.int .i64 x276000_2,.int .i64 t286,.int .i64 t287,.int .i64 t291,.int .i64 t294,.bool false]) ?_ 5 _ rfl;(with_reducible repeat (first|refine bDn ?_ _|refine bDr ?_|refine bAl ?_ _));refine blk_put (cs:=#[.int .i64 x276000_2,.int .i64 t286,.int .i64 t287,.int .i64 t291,.int .i64 0,.bool false]) ?_ 4 _ rfl;(with_reducible repeat (first|refine bDn ?_ _|refine bDr ?_|refine bAl ?_ _));refine blk_put (cs:=#[.int .i64 x276000_2,.int .i64 t286,.int .i64 t287,.int .i64 0,.int .i64 0,.bool false]) ?_ 3 _ rfl;(with_reducible repeat (first|refine bDn ?_ _|refine bDr ?_|refine bAl ?_ _));refine blk_put (cs:=#[.int .i64 x276000_2,.int .i64 t286,.int .i64 0,.int .i64 0,.int .i64 0,.bool false]) ?_ 2 _ rfl;(with_reducible repeat (first|refine bDn ?_ _|refine bDr ?_|refine bAl ?_ _));refine blk_put (cs:=#[.int .i64 x276000_2,.int .i64 0,.int .i64 0,.int .i64 0,.int .i64 0,.bool false]) ?_ 1 _ rfl;(with_reducible repeat (first|refine bDn ?_ _|refine bDr ?_|refine bAl ?_ _));refine blk_put (cs:=#[.int .i64 0,.int .i64 0,.int .i64 0,.int .i64 0,.int .i64 0,.bool false]) ?_ 0 _ rfl;(with_reducible repeat (first|refine bDn ?_ _|refine bDr ?_|refine bAl ?_ _));exact BK268.out) Tryd.underlying33 rfl (by kernel_rfl)) rfl ?_
              exact ⟨by first | rfl|(simp [errW_none,errW_some] <;> rfl)|(simp [*,errW_none,errW_some] <;> rfl),by repeat (first|(with_reducible first|exact HB.out|apply bwA|apply bwN|apply bw1|refine below_set ?_ GE268.out|refine below_set ?_ GE275.out|refine below_set ?_ GE289.out)|exact HB.out)⟩
             ·replace c43:=Bool.eq_false_iff.mpr c43
              subst c43
              have H1 : (some (x276000_2,t286,t287,t291,t294,((rdOf ByteArray.empty t269 0).toList == ([97,108,108,111,119] : List UInt8)),false)) = some (r1,r2,r3,r4,r5,r6,r7):=by rw [if_neg (show ¬ (false = true) by decide)] at H;exact H
              clear H
              have H:=H1
              clear H1
              simp only [Option.some.injEq,Prod.mk.injEq] at H
              obtain ⟨rfl,rfl,rfl,rfl,rfl,rfl,rfl⟩:=H
              obtain ⟨Ao62,co62,eo62⟩:=Kd.R_slice HO_6.out
              subst eo62
              have p285 : 0 ≤ (2 : Int):=(by omega)
              have q285 : 2 < (t269.length : Int):=of_decide_eq_true (by first|(with_reducible assumption) | assumption)
              obtain ⟨ad285,e285,hx285_0⟩:=Kd.at_string (Kd.R_reads' HO_4.out).2.2 2 p285 q285
              obtain rfl : ad274 = ad285:=(by injection e285)
              (try simp only [show (2 : Int).toNat = 2 from rfl,Nat.reduceMul,Nat.reduceEqDiff,Go.Addr.add,↓reduceIte] at hx285_0)
              have qi285 : (2 < t269.length) = True:=eq_true (by omega)
              (try rw [show ((2 : Int)).toNat = 2 from rfl] at hx285_0)
              replace p285:=eq_true p285
              replace q285:=eq_true q285
              try go_wp2_with (first|((with_reducible refine gate_callee (f:=41) rfl ?_);refine goesL_ (some 61) rfl rfl Tryd.func41 (by kernel_rfl) rfl #[.string (rdOf ByteArray.empty t269 2)] rfl (by (try simp only [List.map_toArray,List.map_cons,List.map_nil]);first | done | rfl|(simp only [List.length_drop,List.length_take];rfl)) ?_;(with_reducible refine (spec_l05Read.calls k2 (rdOf ByteArray.empty t269 2) t286 t287 true _ A36.out).mono ?_);rintro e w63 ⟨rfl,hb⟩;refine ⟨_,rfl,?_⟩;have n0_:=aMk (Kd.R_below (by (with_reducible repeat (first|apply Kd.R_alloc|apply Kd.R_drewN|apply Kd.R_drew));exact HO_4.out) hb);have n1_:=aMk (Kd.R_below (by (with_reducible repeat (first|apply Kd.R_alloc|apply Kd.R_drewN|apply Kd.R_drew));exact HO_6.out) hb);have n2_:=aMk (blk_below (g:=gb268) (o:=.cells #[.int .i64 0,.int .i64 0,.int .i64 0,.int .i64 0,.int .i64 0,.bool false] 33 (0,0)) (by (with_reducible repeat (first|refine bDn ?_ _|refine bDr ?_|refine bAl ?_ _));exact BK268.out) hb);have n3_:=aMk (blk_below (g:=gb275) (o:=.cells #[.int .i64 x276000_2,.int .i64 0,.int .i64 0,.int .i64 0,.int .i64 0,.bool ((rdOf ByteArray.empty t269 0).toList == ([97,108,108,111,119] : List UInt8))] 33 (0,0)) (by (with_reducible repeat (first|refine bDn ?_ _|refine bDr ?_|refine bAl ?_ _));exact BK275.out) hb);have n4_:=aMk (below_step (by repeat (first|(with_reducible first|exact HB.out|apply bwA|apply bwN|apply bw1|refine below_set ?_ GE268.out|refine below_set ?_ GE275.out)|exact HB.out)) hb);clear HO_4;clear HO_6;clear BK268;clear BK275;clear HB;have HO_4:=n0_;have HO_6:=n1_;have BK268:=n2_;have BK275:=n3_;have HB:=n4_;clear n0_ n1_ n2_ n3_ n4_;(try clear hb);(try clear hb2);(try clear hk);(try clear hi))|((with_reducible refine gate_dst (N:=8) rfl ?_);refine box_event ?hg (N:=8) ?hd (cs:=#[.int .i64 0,.int .i64 0]) (t:=30) ?hr ?_;(case hd => rfl);(case hg => rfl);(case hr => first|(go_simp;done)|(go_simp;rfl));intro gb289 hg w64 hbox hb;have n0_:=aMk (Kd.R_below (by (with_reducible repeat (first|apply Kd.R_alloc|apply Kd.R_drewN|apply Kd.R_drew));exact HO_4.out) hb);have n1_:=aMk (Kd.R_below (by (with_reducible repeat (first|apply Kd.R_alloc|apply Kd.R_drewN|apply Kd.R_drew));exact HO_6.out) hb);have n2_:=aMk (blk_below (g:=gb268) (o:=.cells #[.int .i64 0,.int .i64 0,.int .i64 0,.int .i64 0,.int .i64 0,.bool false] 33 (0,0)) (by (with_reducible repeat (first|refine bDn ?_ _|refine bDr ?_|refine bAl ?_ _));exact BK268.out) hb);have n3_:=aMk (blk_below (g:=gb275) (o:=.cells #[.int .i64 x276000_2,.int .i64 0,.int .i64 0,.int .i64 0,.int .i64 0,.bool ((rdOf ByteArray.empty t269 0).toList == ([97,108,108,111,119] : List UInt8))] 33 (0,0)) (by (with_reducible repeat (first|refine bDn ?_ _|refine bDr ?_|refine bAl ?_ _));exact BK275.out) hb);have n4_:=aMk (below_step (by repeat (first|(with_reducible first|exact HB.out|apply bwA|apply bwN|apply bw1|refine below_set ?_ GE268.out|refine below_set ?_ GE275.out)|exact HB.out)) hb);have n5_:=aMk (hbox);have n6_:=aMk ((by rw [hg];exact (below_size (by repeat (first|(with_reducible first|exact HB.out|apply bwA|apply bwN|apply bw1|refine below_set ?_ GE268.out|refine below_set ?_ GE275.out)|exact HB.out))) : w.heap.size ≤ gb289));have n7_:=aMk ((by rw [hg];exact (below_size (by repeat (first|(with_reducible first|exact HB.out|apply bwA|apply bwN|apply bw1|refine below_set ?_ GE268.out|refine below_set ?_ GE275.out)|exact HB.out))) : w.heap.size ≤ gb289));have n8_:=aMk ((by rw [hg];exact Nat.ne_of_lt (blk_lt (g:=gb268) (o:=.cells #[.int .i64 0,.int .i64 0,.int .i64 0,.int .i64 0,.int .i64 0,.bool false] 33 (0,0)) (by (with_reducible repeat (first|refine bDn ?_ _|refine bDr ?_|refine bAl ?_ _));exact BK268.out)) : gb268 ≠ gb289));have n9_:=aMk ((by rw [hg];exact Nat.ne_of_gt (blk_lt (g:=gb268) (o:=.cells #[.int .i64 0,.int .i64 0,.int .i64 0,.int .i64 0,.int .i64 0,.bool false] 33 (0,0)) (by (with_reducible repeat (first|refine bDn ?_ _|refine bDr ?_|refine bAl ?_ _));exact BK268.out)) : gb289 ≠ gb268));have n10_:=aMk ((by rw [hg];exact Nat.ne_of_lt (blk_lt (g:=gb275) (o:=.cells #[.int .i64 x276000_2,.int .i64 0,.int .i64 0,.int .i64 0,.int .i64 0,.bool ((rdOf ByteArray.empty t269 0).toList == ([97,108,108,111,119] : List UInt8))] 33 (0,0)) (by (with_reducible repeat (first|refine bDn ?_ _|refine bDr ?_|refine bAl ?_ _));exact BK275.out)) : gb275 ≠ gb289));have n11_:=aMk ((by rw [hg];exact Nat.ne_of_gt (blk_lt (g:=gb275) (o:=.cells #[.int .i64 x276000_2,.int .i64 0,.int .i64 0,.int .i64 0,.int .i64 0,.bool ((rdOf ByteArray.empty t269 0).toList == ([97,108,108,111,119] : List UInt8))] 33 (0,0)) (by (with_reducible repeat (first|refine bDn ?_ _|refine bDr ?_|refine bAl ?_ _));exact BK275.out)) : gb289 ≠ gb275));clear HO_4;clear HO_6;clear BK268;clear BK275;clear HB;have HO_4:=n0_;have HO_6:=n1_;have BK268:=n2_;have BK275:=n3_;have HB:=n4_;have BK289:=n5_;have GW289:=n6_;have GE289:=n7_;have NB268_289:=n8_;have NB289_268:=n9_;have NB275_289:=n10_;have NB289_275:=n11_;clear n0_ n1_ n2_ n3_ n4_ n5_ n6_ n7_ n8_ n9_ n10_ n11_;clear hb hbox hg;have hnb65:=NB289_268.out;have hnc65:=NB268_289.out;have hnb66:=NB289_275.out;have hnc66:=NB275_289.out;have hcz67_0 : w64.cell? ⟨gb289,0,none⟩ = some (.int .i64 0):=(bCe BK289.out 0).trans rfl;have hcz67_1 : w64.cell? ⟨gb289,1,none⟩ = some (.int .i64 0):=(bCe BK289.out 1).trans rfl;have hfz67_0:=bFr BK289.out 0;have hfz67_1:=bFr BK289.out 1;have p290 : 0 ≤ (3 : Int):=(by omega);have q290 : 3 < (t269.length : Int):=of_decide_eq_true (by first|(with_reducible assumption) | assumption);obtain ⟨ad290,e290,hx290_0⟩:=Kd.at_string (Kd.R_reads' HO_4.out).2.2 3 p290 q290;obtain rfl : ad274 = ad290:=(by injection e290);(try simp only [show (3 : Int).toNat = 3 from rfl,Nat.reduceMul,Nat.reduceEqDiff,Go.Addr.add,↓reduceIte] at hx290_0);have qi290 : (3 < t269.length) = True:=eq_true (by omega);(try rw [show ((3 : Int)).toNat = 3 from rfl] at hx290_0);have hn290_0 : ad274.block ≠ gb289:=Kd.own_blk (Kd.R_ne HO_4.out BK289.out (by decide));have hn290_1 : ad274.block ≠ gb289:=Kd.own_blk (Kd.R_ne HO_4.out BK289.out (by decide));replace hx290_0:=(cell_far (p:=⟨gb289,0,none⟩) (by first|(rw [add_block];exact hn290_0)|(show (Addr.add _ _).block ≠ _;rw [add_block];exact hn290_0)|exact hn290_0) (.int .i64 t286)).trans hx290_0;replace hx290_0:=(cell_far (p:=⟨gb289,1,none⟩) (by first|(rw [add_block];exact hn290_1)|(show (Addr.add _ _).block ≠ _;rw [add_block];exact hn290_1)|exact hn290_1) (.int .i64 t287)).trans hx290_0;clear hn290_0;clear hn290_1;replace p290:=eq_true p290;replace q290:=eq_true q290)|((with_reducible refine gate_callee (f:=42) rfl ?_);refine goesL_ (some 68) rfl rfl Tryd.func42 (by kernel_rfl) rfl #[.string (rdOf ByteArray.empty t269 3)] rfl (by (try simp only [List.map_toArray,List.map_cons,List.map_nil]);first | done | rfl|(simp only [List.length_drop,List.length_take];rfl)) ?_;(with_reducible refine (spec_l00Number.calls k2 (rdOf ByteArray.empty t269 3) t291 true _ A38.out).mono ?_);rintro e w' ⟨rfl,⟨nd,rfl⟩⟩;refine ⟨_,rfl,?_⟩;have p293 : 0 ≤ (4 : Int):=(by omega);have q293 : 4 < (t269.length : Int):=of_decide_eq_true (by first|(with_reducible assumption) | assumption);obtain ⟨ad293,e293,hx293_0⟩:=Kd.at_string (Kd.R_reads' HO_4.out).2.2 4 p293 q293;obtain rfl : ad274 = ad293:=(by injection e293);(try simp only [show (4 : Int).toNat = 4 from rfl,Nat.reduceMul,Nat.reduceEqDiff,Go.Addr.add,↓reduceIte] at hx293_0);have qi293 : (4 < t269.length) = True:=eq_true (by omega);(try rw [show ((4 : Int)).toNat = 4 from rfl] at hx293_0);have hn293_0 : ad274.block ≠ gb289:=Kd.own_blk (Kd.R_ne HO_4.out BK289.out (by decide));have hn293_1 : ad274.block ≠ gb289:=Kd.own_blk (Kd.R_ne HO_4.out BK289.out (by decide));replace hx293_0:=(cell_far (p:=⟨gb289,0,none⟩) (by first|(rw [add_block];exact hn293_0)|(show (Addr.add _ _).block ≠ _;rw [add_block];exact hn293_0)|exact hn293_0) (.int .i64 t286)).trans hx293_0;replace hx293_0:=(cell_far (p:=⟨gb289,1,none⟩) (by first|(rw [add_block];exact hn293_1)|(show (Addr.add _ _).block ≠ _;rw [add_block];exact hn293_1)|exact hn293_1) (.int .i64 t287)).trans hx293_0;clear hn293_0;clear hn293_1;replace p293:=eq_true p293;replace q293:=eq_true q293)|((with_reducible refine gate_callee (f:=42) rfl ?_);refine goesL_ (some 75) rfl rfl Tryd.func42 (by kernel_rfl) rfl #[.string (rdOf ByteArray.empty t269 4)] rfl (by (try simp only [List.map_toArray,List.map_cons,List.map_nil]);first | done | rfl|(simp only [List.length_drop,List.length_take];rfl)) ?_;(with_reducible refine (spec_l00Number.calls k2 (rdOf ByteArray.empty t269 4) t294 false _ A40.out).mono ?_);rintro e w' ⟨rfl,⟨nd,rfl⟩⟩;refine ⟨_,rfl,?_⟩;have hnb68:=NB275_268.out;have hnc68:=NB268_275.out;have hcz69_0 : w64.cell? ⟨gb275,0,none⟩ = some (.int .i64 x276000_2):=(bCe BK275.out 0).trans rfl;have hcz69_1 : w64.cell? ⟨gb275,1,none⟩ = some (.int .i64 0):=(bCe BK275.out 1).trans rfl;have hcz69_2 : w64.cell? ⟨gb275,2,none⟩ = some (.int .i64 0):=(bCe BK275.out 2).trans rfl;have hcz69_3 : w64.cell? ⟨gb275,3,none⟩ = some (.int .i64 0):=(bCe BK275.out 3).trans rfl;have hcz69_4 : w64.cell? ⟨gb275,4,none⟩ = some (.int .i64 0):=(bCe BK275.out 4).trans rfl;have hcz69_5 : w64.cell? ⟨gb275,5,none⟩ = some (.bool ((rdOf ByteArray.empty t269 0).toList == ([97,108,108,111,119] : List UInt8))):=(bCe BK275.out 5).trans rfl;have hfz69_0:=bFr BK275.out 0;have hfz69_1:=bFr BK275.out 1;have hfz69_2:=bFr BK275.out 2;have hfz69_3:=bFr BK275.out 3;have hfz69_4:=bFr BK275.out 4;have hfz69_5:=bFr BK275.out 5))
              (try (repeat rw [show ∀ (w_ : World) (n_ : Nat) (a_ : Addr) (v_ : Value),(w_.drewN n_).setCell a_ v_ = (w_.setCell a_ v_).drewN n_ from fun _ _ _ _ => rfl]));(try (repeat rw [World.drewN_drewN]))
              have n0_ : Aside0 (Kd.R Kd.string 9 ((((((w64.setCell ⟨gb289,0,none⟩ (.int .i64 t286)).setCell ⟨gb289,1,none⟩ (.int .i64 t287)).setCell ⟨gb275,1,none⟩ (.int .i64 t286)).setCell ⟨gb275,2,none⟩ (.int .i64 t287)).setCell ⟨gb275,3,none⟩ (.int .i64 t291)).setCell ⟨gb275,4,none⟩ (.int .i64 t294)) w.heap.size (fun k_ => some k_ ≠ (.slice Ao62 t276.length co62 : Value).ownBlock) (.slice (some ad274) t269.length co16) t269):=⟨by (with_reducible repeat (first|apply Kd.R_alloc|apply Kd.R_drewN|apply Kd.R_drew));exact Kd.R_mono (Kd.R_far (p:=⟨gb275,4,none⟩) (Kd.R_far (p:=⟨gb275,3,none⟩) (Kd.R_far (p:=⟨gb275,2,none⟩) (Kd.R_far (p:=⟨gb275,1,none⟩) (Kd.R_far (p:=⟨gb289,1,none⟩) (Kd.R_far (p:=⟨gb289,0,none⟩) (Kd.R_types (Kd.R_types HO_4.out BK289.out (by decide)) BK275.out (by decide)) (fun _ hk => hk.1.2) (.int .i64 t286)) (fun _ hk => hk.1.2) (.int .i64 t287)) (fun _ hk => hk.2) (.int .i64 t286)) (fun _ hk => hk.2) (.int .i64 t287)) (fun _ hk => hk.2) (.int .i64 t291)) (fun _ hk => hk.2) (.int .i64 t294)) (fun _ hk => hk.1.1)⟩
              have n1_ : Aside0 (Kd.R Kd.string 9 ((((((w64.setCell ⟨gb289,0,none⟩ (.int .i64 t286)).setCell ⟨gb289,1,none⟩ (.int .i64 t287)).setCell ⟨gb275,1,none⟩ (.int .i64 t286)).setCell ⟨gb275,2,none⟩ (.int .i64 t287)).setCell ⟨gb275,3,none⟩ (.int .i64 t291)).setCell ⟨gb275,4,none⟩ (.int .i64 t294)) w.heap.size (fun k_ => some k_ ≠ (.slice (some ad274) t269.length co16 : Value).ownBlock) (.slice Ao62 t276.length co62) t276):=⟨by (with_reducible repeat (first|apply Kd.R_alloc|apply Kd.R_drewN|apply Kd.R_drew));exact Kd.R_mono (Kd.R_far (p:=⟨gb275,4,none⟩) (Kd.R_far (p:=⟨gb275,3,none⟩) (Kd.R_far (p:=⟨gb275,2,none⟩) (Kd.R_far (p:=⟨gb275,1,none⟩) (Kd.R_far (p:=⟨gb289,1,none⟩) (Kd.R_far (p:=⟨gb289,0,none⟩) (Kd.R_types (Kd.R_types HO_6.out BK289.out (by decide)) BK275.out (by decide)) (fun _ hk => hk.1.2) (.int .i64 t286)) (fun _ hk => hk.1.2) (.int .i64 t287)) (fun _ hk => hk.2) (.int .i64 t286)) (fun _ hk => hk.2) (.int .i64 t287)) (fun _ hk => hk.2) (.int .i64 t291)) (fun _ hk => hk.2) (.int .i64 t294)) (fun _ hk => hk.1.1)⟩
              have n2_ : Aside0 (((((((w64.setCell ⟨gb289,0,none⟩ (.int .i64 t286)).setCell ⟨gb289,1,none⟩ (.int .i64 t287)).setCell ⟨gb275,1,none⟩ (.int .i64 t286)).setCell ⟨gb275,2,none⟩ (.int .i64 t287)).setCell ⟨gb275,3,none⟩ (.int .i64 t291)).setCell ⟨gb275,4,none⟩ (.int .i64 t294)).heap[gb268]? = some (.cells #[.int .i64 0,.int .i64 0,.int .i64 0,.int .i64 0,.int .i64 0,.bool false] 33 (0,0))):=⟨by (with_reducible repeat (first|refine bDn ?_ _|refine bDr ?_|refine bAl ?_ _));refine blk_far ?_ NB268_275.out _;(with_reducible repeat (first|refine bDn ?_ _|refine bDr ?_|refine bAl ?_ _));refine blk_far ?_ NB268_275.out _;(with_reducible repeat (first|refine bDn ?_ _|refine bDr ?_|refine bAl ?_ _));refine blk_far ?_ NB268_275.out _;(with_reducible repeat (first|refine bDn ?_ _|refine bDr ?_|refine bAl ?_ _));refine blk_far ?_ NB268_275.out _;(with_reducible repeat (first|refine bDn ?_ _|refine bDr ?_|refine bAl ?_ _));refine blk_far ?_ NB268_289.out _;(with_reducible repeat (first|refine bDn ?_ _|refine bDr ?_|refine bAl ?_ _));refine blk_far ?_ NB268_289.out _;(with_reducible repeat (first|refine bDn ?_ _|refine bDr ?_|refine bAl ?_ _));exact BK268.out⟩
              have n3_ : Aside0 (((((((w64.setCell ⟨gb289,0,none⟩ (.int .i64 t286)).setCell ⟨gb289,1,none⟩ (.int .i64 t287)).setCell ⟨gb275,1,none⟩ (.int .i64 t286)).setCell ⟨gb275,2,none⟩ (.int .i64 t287)).setCell ⟨gb275,3,none⟩ (.int .i64 t291)).setCell ⟨gb275,4,none⟩ (.int .i64 t294)).heap[gb275]? = some (.cells #[.int .i64 x276000_2,.int .i64 t286,.int .i64 t287,.int .i64 t291,.int .i64 t294,.bool ((rdOf ByteArray.empty t269 0).toList == ([97,108,108,111,119] : List UInt8))] 33 (0,0))):=⟨by (with_reducible repeat (first|refine bDn ?_ _|refine bDr ?_|refine bAl ?_ _));refine blk_put (cs:=#[.int .i64 x276000_2,.int .i64 t286,.int .i64 t287,.int .i64 t291,.int .i64 0,.bool ((rdOf ByteArray.empty t269 0).toList == ([97,108,108,111,119] : List UInt8))]) ?_ 4 _ rfl;(with_reducible repeat (first|refine bDn ?_ _|refine bDr ?_|refine bAl ?_ _));refine blk_put (cs:=#[.int .i64 x276000_2,.int .i64 t286,.int .i64 t287,.int .i64 0,.int .i64 0,.bool ((rdOf ByteArray.empty t269 0).toList == ([97,108,108,111,119] : List UInt8))]) ?_ 3 _ rfl;(with_reducible repeat (first|refine bDn ?_ _|refine bDr ?_|refine bAl ?_ _));refine blk_put (cs:=#[.int .i64 x276000_2,.int .i64 t286,.int .i64 0,.int .i64 0,.int .i64 0,.bool ((rdOf ByteArray.empty t269 0).toList == ([97,108,108,111,119] : List UInt8))]) ?_ 2 _ rfl;(with_reducible repeat (first|refine bDn ?_ _|refine bDr ?_|refine bAl ?_ _));refine blk_put (cs:=#[.int .i64 x276000_2,.int .i64 0,.int .i64 0,.int .i64 0,.int .i64 0,.bool ((rdOf ByteArray.empty t269 0).toList == ([97,108,108,111,119] : List UInt8))]) ?_ 1 _ rfl;(with_reducible repeat (first|refine bDn ?_ _|refine bDr ?_|refine bAl ?_ _));refine blk_far ?_ NB275_289.out _;(with_reducible repeat (first|refine bDn ?_ _|refine bDr ?_|refine bAl ?_ _));refine blk_far ?_ NB275_289.out _;(with_reducible repeat (first|refine bDn ?_ _|refine bDr ?_|refine bAl ?_ _));exact BK275.out⟩
              have n4_ : Aside0 (((((((w64.setCell ⟨gb289,0,none⟩ (.int .i64 t286)).setCell ⟨gb289,1,none⟩ (.int .i64 t287)).setCell ⟨gb275,1,none⟩ (.int .i64 t286)).setCell ⟨gb275,2,none⟩ (.int .i64 t287)).setCell ⟨gb275,3,none⟩ (.int .i64 t291)).setCell ⟨gb275,4,none⟩ (.int .i64 t294)).heap[gb289]? = some (.cells #[.int .i64 t286,.int .i64 t287] 30 (0,0))):=⟨by (with_reducible repeat (first|refine bDn ?_ _|refine bDr ?_|refine bAl ?_ _));refine blk_far ?_ NB289_275.out _;(with_reducible repeat (first|refine bDn ?_ _|refine bDr ?_|refine bAl ?_ _));refine blk_far ?_ NB289_275.out _;(with_reducible repeat (first|refine bDn ?_ _|refine bDr ?_|refine bAl ?_ _));refine blk_far ?_ NB289_275.out _;(with_reducible repeat (first|refine bDn ?_ _|refine bDr ?_|refine bAl ?_ _));refine blk_far ?_ NB289_275.out _;(with_reducible repeat (first|refine bDn ?_ _|refine bDr ?_|refine bAl ?_ _));refine blk_put (cs:=#[.int .i64 t286,.int .i64 0]) ?_ 1 _ rfl;(with_reducible repeat (first|refine bDn ?_ _|refine bDr ?_|refine bAl ?_ _));refine blk_put (cs:=#[.int .i64 0,.int .i64 0]) ?_ 0 _ rfl;(with_reducible repeat (first|refine bDn ?_ _|refine bDr ?_|refine bAl ?_ _));exact BK289.out⟩
              have n5_ : Aside0 (Below w.heap.size w ((((((w64.setCell ⟨gb289,0,none⟩ (.int .i64 t286)).setCell ⟨gb289,1,none⟩ (.int .i64 t287)).setCell ⟨gb275,1,none⟩ (.int .i64 t286)).setCell ⟨gb275,2,none⟩ (.int .i64 t287)).setCell ⟨gb275,3,none⟩ (.int .i64 t291)).setCell ⟨gb275,4,none⟩ (.int .i64 t294))):=⟨by repeat (first|(with_reducible first|exact HB.out|apply bwA|apply bwN|apply bw1|refine below_set ?_ GE268.out|refine below_set ?_ GE275.out|refine below_set ?_ GE289.out)|exact HB.out)⟩
              (try clear HO_4)
              (try clear HO_6)
              (try clear BK268)
              (try clear BK275)
              (try clear BK289)
              (try clear HB)
              generalize ((((((w64.setCell ⟨gb289,0,none⟩ (.int .i64 t286)).setCell ⟨gb289,1,none⟩ (.int .i64 t287)).setCell ⟨gb275,1,none⟩ (.int .i64 t286)).setCell ⟨gb275,2,none⟩ (.int .i64 t287)).setCell ⟨gb275,3,none⟩ (.int .i64 t291)).setCell ⟨gb275,4,none⟩ (.int .i64 t294)) = w70 at n0_ n1_ n2_ n3_ n4_ n5_ ⊢
              have HO_4:=n0_
              have HO_6:=n1_
              have BK268:=n2_
              have BK275:=n3_
              have BK289:=n4_
              have HB:=n5_
              clear n0_ n1_ n2_ n3_ n4_ n5_
              (try (rw [drewN_self w70];generalize hq_ : World.drewN w70 _ = w70;have n0_ : Aside0 (Kd.R Kd.string 9 w70 w.heap.size (fun k_ => some k_ ≠ (.slice Ao62 t276.length co62 : Value).ownBlock) (.slice (some ad274) t269.length co16) t269):=⟨by rw [← hq_];exact (by (with_reducible repeat (first|apply Kd.R_alloc|apply Kd.R_drewN|apply Kd.R_drew));exact HO_4.out)⟩;have n1_ : Aside0 (Kd.R Kd.string 9 w70 w.heap.size (fun k_ => some k_ ≠ (.slice (some ad274) t269.length co16 : Value).ownBlock) (.slice Ao62 t276.length co62) t276):=⟨by rw [← hq_];exact (by (with_reducible repeat (first|apply Kd.R_alloc|apply Kd.R_drewN|apply Kd.R_drew));exact HO_6.out)⟩;have n2_ : Aside0 (w70.heap[gb268]? = some (.cells #[.int .i64 0,.int .i64 0,.int .i64 0,.int .i64 0,.int .i64 0,.bool false] 33 (0,0))):=⟨by rw [← hq_];exact (by (with_reducible repeat (first|refine bDn ?_ _|refine bDr ?_|refine bAl ?_ _));exact BK268.out)⟩;have n3_ : Aside0 (w70.heap[gb275]? = some (.cells #[.int .i64 x276000_2,.int .i64 t286,.int .i64 t287,.int .i64 t291,.int .i64 t294,.bool ((rdOf ByteArray.empty t269 0).toList == ([97,108,108,111,119] : List UInt8))] 33 (0,0))):=⟨by rw [← hq_];exact (by (with_reducible repeat (first|refine bDn ?_ _|refine bDr ?_|refine bAl ?_ _));exact BK275.out)⟩;have n4_ : Aside0 (w70.heap[gb289]? = some (.cells #[.int .i64 t286,.int .i64 t287] 30 (0,0))):=⟨by rw [← hq_];exact (by (with_reducible repeat (first|refine bDn ?_ _|refine bDr ?_|refine bAl ?_ _));exact BK289.out)⟩;have n5_ : Aside0 (Below w.heap.size w w70):=⟨by rw [← hq_];exact (by repeat (first|(with_reducible first|exact HB.out|apply bwA|apply bwN|apply bw1|refine below_set ?_ GE268.out|refine below_set ?_ GE275.out|refine below_set ?_ GE289.out)|exact HB.out))⟩;clear HO_4 HO_6 BK268 BK275 BK289 HB hq_;have HO_4:=n0_;have HO_6:=n1_;have BK268:=n2_;have BK275:=n3_;have BK289:=n4_;have HB:=n5_;clear n0_ n1_ n2_ n3_ n4_ n5_))
              have n0_:=aMk (Kd.R_drew HO_4.out)
              have n1_:=aMk (Kd.R_drew HO_6.out)
              have n2_:=aMk (bDr BK268.out)
              have n3_:=aMk (bDr BK275.out)
              have n4_:=aMk (bDr BK289.out)
              have n5_:=aMk (bw1 HB.out)
              clear HO_4
              clear HO_6
              clear BK268
              clear BK275
              clear BK289
              clear HB
              have HO_4:=n0_
              have HO_6:=n1_
              have BK268:=n2_
              have BK275:=n3_
              have BK289:=n4_
              have HB:=n5_
              clear n0_ n1_ n2_ n3_ n4_ n5_
              refine start_ (n:=14) (S:=fun w' => w'.cell? ⟨gb275,0,none⟩ = some (.int .i64 x276000_2) ∧ w'.cell? ⟨gb275,1,none⟩ = some (.int .i64 t286) ∧ w'.cell? ⟨gb275,2,none⟩ = some (.int .i64 t287) ∧ w'.cell? ⟨gb275,3,none⟩ = some (.int .i64 t291) ∧ w'.cell? ⟨gb275,4,none⟩ = some (.int .i64 t294) ∧ w'.cell? ⟨gb275,5,none⟩ = some (.bool ((rdOf ByteArray.empty t269 0).toList == ([97,108,108,111,119] : List UInt8)))) (ds:=[]) #[false,false,false,false,false,false,false,false,false,false,false,false,false,false] (by kernel_rfl) rfl rfl ⟨(bCe BK275.out 0).trans rfl,(bCe BK275.out 1).trans rfl,(bCe BK275.out 2).trans rfl,(bCe BK275.out 3).trans rfl,(bCe BK275.out 4).trans rfl,(bCe BK275.out 5).trans rfl⟩ (fun hHeld => ?_);refine with_tabW spec_l07Read.tab16 spec_l07Read.bits16 (fun HT_ HW_ => ?_)
              generalize w70.drew = w71 at HO_4 HO_6 BK268 BK275 BK289 HB hHeld ⊢
              refine pure_ (i:=1) (N:=some 85) (v:=?_) (a':=?_) #[false,true,false,false,false,false,false,false,false,false,false,false,false,false] rfl rfl (any_of HT_.out (by kernel_rfl)) (fun _ _ _ h => h) (Or.inl ⟨by rfl,?_⟩) ?_ ?_
              rotate_left
              ·intro w'
               go_simp
               with_reducible rfl
              rotate_left
              ·simp only [Act.put,List.setIfInBounds_toArray,List.set_cons_zero,List.set_cons_succ,i64_w,i32_w]
               rfl
              refine pure_ (i:=2) (N:=some 86) (v:=?_) (a':=?_) #[false,true,true,false,false,false,false,false,false,false,false,false,false,false] rfl rfl (any_of HT_.out (by kernel_rfl)) (fun _ _ _ h => h) (Or.inl ⟨by rfl,?_⟩) ?_ ?_
              rotate_left
              ·intro w'
               go_simp
               with_reducible rfl
              rotate_left
              ·simp only [Act.put,List.setIfInBounds_toArray,List.set_cons_zero,List.set_cons_succ,i64_w,i32_w]
               rfl
              refine pure_ (i:=3) (N:=some 87) (v:=?_) (a':=?_) #[false,true,true,true,false,false,false,false,false,false,false,false,false,false] rfl rfl (any_of HT_.out (by kernel_rfl)) (fun _ _ _ h => h) (Or.inl ⟨by rfl,?_⟩) ?_ ?_
              rotate_left
              ·intro w'
               go_simp
               with_reducible rfl
              rotate_left
              ·simp only [Act.put,List.setIfInBounds_toArray,List.set_cons_zero,List.set_cons_succ,i64_w,i32_w]
               rfl
              refine pure_ (i:=4) (N:=some 88) (v:=?_) (a':=?_) #[false,true,true,true,true,false,false,false,false,false,false,false,false,false] rfl rfl (any_of HT_.out (by kernel_rfl)) (fun _ _ _ h => h) (Or.inl ⟨by rfl,?_⟩) ?_ ?_
              rotate_left
              ·intro w'
               go_simp
               with_reducible rfl
              rotate_left
              ·simp only [Act.put,List.setIfInBounds_toArray,List.set_cons_zero,List.set_cons_succ,i64_w,i32_w]
               rfl
              refine pure_ (i:=5) (N:=some 89) (v:=?_) (a':=?_) #[false,true,true,true,true,true,false,false,false,false,false,false,false,false] rfl rfl (any_of HT_.out (by kernel_rfl)) (fun _ _ _ h => h) (Or.inl ⟨by rfl,?_⟩) ?_ ?_
              rotate_left
              ·intro w'
               go_simp
               with_reducible rfl
              rotate_left
              ·simp only [Act.put,List.setIfInBounds_toArray,List.set_cons_zero,List.set_cons_succ,i64_w,i32_w]
               rfl
              refine pure_ (i:=6) (N:=some 90) (v:=?_) (a':=?_) #[false,true,true,true,true,true,true,false,false,false,false,false,false,false] rfl rfl (any_of HT_.out (by kernel_rfl)) (fun _ _ _ h => h) (Or.inl ⟨by rfl,?_⟩) ?_ ?_
              rotate_left
              ·intro w'
               go_simp
               with_reducible rfl
              rotate_left
              ·simp only [Act.put,List.setIfInBounds_toArray,List.set_cons_zero,List.set_cons_succ,i64_w,i32_w]
               rfl
              refine pure_ (i:=7) (N:=some 91) (v:=?_) (a':=?_) #[false,true,true,true,true,true,true,true,false,false,false,false,false,false] rfl rfl (any_of HT_.out (by kernel_rfl)) (fun _ _ _ h => h) (Or.inl ⟨by rfl,?_⟩) ?_ ?_
              rotate_left
              ·intro w'
               go_simp
               with_reducible rfl
              rotate_left
              ·simp only [Act.put,List.setIfInBounds_toArray,List.set_cons_zero,List.set_cons_succ,i64_w,i32_w]
               rfl
              refine pure_ (i:=8) (N:=some 92) (v:=?_) (a':=?_) #[false,true,true,true,true,true,true,true,true,false,false,false,false,false] rfl rfl (any_of HT_.out (by kernel_rfl)) (fun _ _ _ h => h) (Or.inl ⟨by rfl,?_⟩) ?_ ?_
              rotate_left
              ·intro w'
               go_simp
               with_reducible rfl
              rotate_left
              ·simp only [Act.put,List.setIfInBounds_toArray,List.set_cons_zero,List.set_cons_succ,i64_w,i32_w]
               rfl
              refine pure_ (i:=9) (N:=some 93) (v:=undef) (a':=?_) #[false,true,true,true,true,true,true,true,true,true,false,false,false,false] rfl rfl (any_of HT_.out (by kernel_rfl)) (fun _ _ _ h => h) (Or.inr ⟨by rfl,rfl⟩) ?_ ?_
              rotate_left
              ·simp only [Act.put,List.setIfInBounds_toArray,List.set_cons_zero,List.set_cons_succ,i64_w,i32_w]
               rfl
              refine pure_ (i:=10) (N:=some 94) (v:=undef) (a':=?_) #[false,true,true,true,true,true,true,true,true,true,true,false,false,false] rfl rfl (any_of HT_.out (by kernel_rfl)) (fun _ _ _ h => h) (Or.inr ⟨by rfl,rfl⟩) ?_ ?_
              rotate_left
              ·simp only [Act.put,List.setIfInBounds_toArray,List.set_cons_zero,List.set_cons_succ,i64_w,i32_w]
               rfl
              refine pure_ (i:=11) (N:=some 95) (v:=?_) (a':=?_) #[false,true,true,true,true,true,true,true,true,true,true,true,false,false] rfl rfl (any_of HT_.out (by kernel_rfl)) (fun _ _ _ h => h) (Or.inl ⟨by rfl,?_⟩) ?_ ?_
              rotate_left
              ·intro w'
               go_simp
               with_reducible rfl
              rotate_left
              ·simp only [Act.put,List.setIfInBounds_toArray,List.set_cons_zero,List.set_cons_succ,i64_w,i32_w]
               rfl
              refine take_ (i:=0) (N:=some 84) (v:=?_) (a':=?_) #[true,true,true,true,true,true,true,true,true,true,true,true,false,false] rfl rfl (take_ofW HT_.out HW_.out (by kernel_rfl)) (fun _ _ _ h => h) (Or.inl ⟨by rfl,?_⟩) hHeld ?_ ?_
              rotate_left
              ·rintro w' ⟨s0,s1,s2,s3,s4,s5⟩
               go_simp
               with_reducible rfl
              rotate_left
              ·simp only [Act.put,List.setIfInBounds_toArray,List.set_cons_zero,List.set_cons_succ,i64_w,i32_w]
               rfl
              refine one_ (i:=12) (N:=none) #[true,true,true,true,true,true,true,true,true,true,true,true,true,false] rfl rfl (one_of HT_.out (by kernel_rfl)) (by decide) (fun K hK => ?_)
              have hs72 : w71.cell? ⟨gb268,0,none⟩ = some (.int .i64 0):=(bCe BK268.out 0).trans rfl
              have hfs72:=bFr BK268.out 0
              have hns72_1:=NB275_268.out
              have hns72_2:=NB289_268.out
              have hms72_1:=NB268_275.out
              have hms72_2:=NB268_289.out
              have hs73 : w71.cell? ⟨gb268,1,none⟩ = some (.int .i64 0):=(bCe BK268.out 1).trans rfl
              have hfs73:=bFr BK268.out 1
              have hns73_1:=NB275_268.out
              have hns73_2:=NB289_268.out
              have hms73_1:=NB268_275.out
              have hms73_2:=NB268_289.out
              have hs74 : w71.cell? ⟨gb268,2,none⟩ = some (.int .i64 0):=(bCe BK268.out 2).trans rfl
              have hfs74:=bFr BK268.out 2
              have hns74_1:=NB275_268.out
              have hns74_2:=NB289_268.out
              have hms74_1:=NB268_275.out
              have hms74_2:=NB268_289.out
              have hs75 : w71.cell? ⟨gb268,3,none⟩ = some (.int .i64 0):=(bCe BK268.out 3).trans rfl
              have hfs75:=bFr BK268.out 3
              have hns75_1:=NB275_268.out
              have hns75_2:=NB289_268.out
              have hms75_1:=NB268_275.out
              have hms75_2:=NB268_289.out
              have hs76 : w71.cell? ⟨gb268,4,none⟩ = some (.int .i64 0):=(bCe BK268.out 4).trans rfl
              have hfs76:=bFr BK268.out 4
              have hns76_1:=NB275_268.out
              have hns76_2:=NB289_268.out
              have hms76_1:=NB268_275.out
              have hms76_2:=NB268_289.out
              have hs77 : w71.cell? ⟨gb268,5,none⟩ = some (.bool false):=(bCe BK268.out 5).trans rfl
              have hfs77:=bFr BK268.out 5
              have hns77_1:=NB275_268.out
              have hns77_2:=NB289_268.out
              have hms77_1:=NB268_275.out
              have hms77_2:=NB268_289.out
              refine skip_ (w1:=?_) (by rfl) rfl ?_ ?_
              rotate_left
              ·go_simp
               rfl
              refine hK.out _ _ ⟨((cell_far (p:=⟨gb268,_,none⟩) NB275_268.out _).trans (((cell_far (p:=⟨gb268,_,none⟩) NB275_268.out _).trans (((cell_far (p:=⟨gb268,_,none⟩) NB275_268.out _).trans (((cell_far (p:=⟨gb268,_,none⟩) NB275_268.out _).trans (((cell_far (p:=⟨gb268,_,none⟩) NB275_268.out _).trans (((cell_far (p:=⟨gb268,_,none⟩) NB275_268.out _).trans (hHeld.1)))))))))))),((cell_far (p:=⟨gb268,_,none⟩) NB275_268.out _).trans (((cell_far (p:=⟨gb268,_,none⟩) NB275_268.out _).trans (((cell_far (p:=⟨gb268,_,none⟩) NB275_268.out _).trans (((cell_far (p:=⟨gb268,_,none⟩) NB275_268.out _).trans (((cell_far (p:=⟨gb268,_,none⟩) NB275_268.out _).trans (((cell_far (p:=⟨gb268,_,none⟩) NB275_268.out _).trans (hHeld.2.1)))))))))))),((cell_far (p:=⟨gb268,_,none⟩) NB275_268.out _).trans (((cell_far (p:=⟨gb268,_,none⟩) NB275_268.out _).trans (((cell_far (p:=⟨gb268,_,none⟩) NB275_268.out _).trans (((cell_far (p:=⟨gb268,_,none⟩) NB275_268.out _).trans (((cell_far (p:=⟨gb268,_,none⟩) NB275_268.out _).trans (((cell_far (p:=⟨gb268,_,none⟩) NB275_268.out _).trans (hHeld.2.2.1)))))))))))),((cell_far (p:=⟨gb268,_,none⟩) NB275_268.out _).trans (((cell_far (p:=⟨gb268,_,none⟩) NB275_268.out _).trans (((cell_far (p:=⟨gb268,_,none⟩) NB275_268.out _).trans (((cell_far (p:=⟨gb268,_,none⟩) NB275_268.out _).trans (((cell_far (p:=⟨gb268,_,none⟩) NB275_268.out _).trans (((cell_far (p:=⟨gb268,_,none⟩) NB275_268.out _).trans (hHeld.2.2.2.1)))))))))))),((cell_far (p:=⟨gb268,_,none⟩) NB275_268.out _).trans (((cell_far (p:=⟨gb268,_,none⟩) NB275_268.out _).trans (((cell_far (p:=⟨gb268,_,none⟩) NB275_268.out _).trans (((cell_far (p:=⟨gb268,_,none⟩) NB275_268.out _).trans (((cell_far (p:=⟨gb268,_,none⟩) NB275_268.out _).trans (((cell_far (p:=⟨gb268,_,none⟩) NB275_268.out _).trans (hHeld.2.2.2.2.1)))))))))))),((cell_far (p:=⟨gb268,_,none⟩) NB275_268.out _).trans (((cell_far (p:=⟨gb268,_,none⟩) NB275_268.out _).trans (((cell_far (p:=⟨gb268,_,none⟩) NB275_268.out _).trans (((cell_far (p:=⟨gb268,_,none⟩) NB275_268.out _).trans (((cell_far (p:=⟨gb268,_,none⟩) NB275_268.out _).trans (((cell_far (p:=⟨gb268,_,none⟩) NB275_268.out _).trans (hHeld.2.2.2.2.2))))))))))))⟩ (fun hHeld => ?_)
              clear hK K
              refine pure_ (i:=13) (N:=some 3) (v:=?_) (a':=?_) #[true,true,true,true,true,true,true,true,true,true,true,true,true,true] rfl rfl (any_of HT_.out (by kernel_rfl)) (fun _ _ _ h => h) (Or.inl ⟨by rfl,?_⟩) ?_ ?_
              rotate_left
              ·intro w'
               go_simp
               with_reducible rfl
              rotate_left
              ·simp only [Act.put,List.setIfInBounds_toArray,List.set_cons_zero,List.set_cons_succ,i64_w,i32_w]
               rfl
              refine done_ (done_of HT_.out (by kernel_rfl)) ?_
              try go_wp2
              refine bodyPost_ret (results_ct rfl _ _ gb268 33 #[.int .i64 x276000_2,.int .i64 t286,.int .i64 t287,.int .i64 t291,.int .i64 t294,.bool ((rdOf ByteArray.empty t269 0).toList == ([97,108,108,111,119] : List UInt8))] (0,0) _ rfl (by (with_reducible repeat (first|refine bDn ?_ _|refine bDr ?_|refine bAl ?_ _));refine blk_put (cs:=#[.int .i64 x276000_2,.int .i64 t286,.int .i64 t287,.int .i64 t291,.int .i64 t294,.bool false]) ?_ 5 _ rfl;(with_reducible repeat (first|refine bDn ?_ _|refine bDr ?_|refine bAl ?_ _));refine blk_put (cs:=#[.int .i64 x276000_2,.int .i64 t286,.int .i64 t287,.int .i64 t291,.int .i64 0,.bool false]) ?_ 4 _ rfl;(with_reducible repeat (first|refine bDn ?_ _|refine bDr ?_|refine bAl ?_ _));refine blk_put (cs:=#[.int .i64 x276000_2,.int .i64 t286,.int .i64 t287,.int .i64 0,.int .i64 0,.bool false]) ?_ 3 _ rfl;(with_reducible repeat (first|refine bDn ?_ _|refine bDr ?_|refine bAl ?_ _));refine blk_put (cs:=#[.int .i64 x276000_2,.int .i64 t286,.int .i64 0,.int .i64 0,.int .i64 0,.bool false]) ?_ 2 _ rfl;(with_reducible repeat (first|refine bDn ?_ _|refine bDr ?_|refine bAl ?_ _));refine blk_put (cs:=#[.int .i64 x276000_2,.int .i64 0,.int .i64 0,.int .i64 0,.int .i64 0,.bool false]) ?_ 1 _ rfl;(with_reducible repeat (first|refine bDn ?_ _|refine bDr ?_|refine bAl ?_ _));refine blk_put (cs:=#[.int .i64 0,.int .i64 0,.int .i64 0,.int .i64 0,.int .i64 0,.bool false]) ?_ 0 _ rfl;(with_reducible repeat (first|refine bDn ?_ _|refine bDr ?_|refine bAl ?_ _));exact BK268.out) Tryd.underlying33 rfl (by kernel_rfl)) rfl ?_
              exact ⟨by first | rfl|(simp [errW_none,errW_some] <;> rfl)|(simp [*,errW_none,errW_some] <;> rfl),by repeat (first|(with_reducible first|exact HB.out|apply bwA|apply bwN|apply bw1|refine below_set ?_ GE268.out|refine below_set ?_ GE275.out|refine below_set ?_ GE289.out)|exact HB.out)⟩
            ·replace c42:=Bool.eq_false_iff.mpr c42
             subst c42
             have H1 : (some (x276000_2,t286,t287,t291,t294,((rdOf ByteArray.empty t269 0).toList == ([97,108,108,111,119] : List UInt8)),false)) = some (r1,r2,r3,r4,r5,r6,r7):=by rw [if_neg (show ¬ (false = true) by decide)] at H;exact H
             clear H
             have H:=H1
             clear H1
             simp only [Option.some.injEq,Prod.mk.injEq] at H
             obtain ⟨rfl,rfl,rfl,rfl,rfl,rfl,rfl⟩:=H
             obtain ⟨Ao78,co78,eo78⟩:=Kd.R_slice HO_6.out
             subst eo78
             have p285 : 0 ≤ (2 : Int):=(by omega)
             have q285 : 2 < (t269.length : Int):=of_decide_eq_true (by first|(with_reducible assumption) | assumption)
             obtain ⟨ad285,e285,hx285_0⟩:=Kd.at_string (Kd.R_reads' HO_4.out).2.2 2 p285 q285
             obtain rfl : ad274 = ad285:=(by injection e285)
             (try simp only [show (2 : Int).toNat = 2 from rfl,Nat.reduceMul,Nat.reduceEqDiff,Go.Addr.add,↓reduceIte] at hx285_0)
             have qi285 : (2 < t269.length) = True:=eq_true (by omega)
             (try rw [show ((2 : Int)).toNat = 2 from rfl] at hx285_0)
             replace p285:=eq_true p285
             replace q285:=eq_true q285
             try go_wp2_with (first|((with_reducible refine gate_callee (f:=41) rfl ?_);refine goesL_ (some 61) rfl rfl Tryd.func41 (by kernel_rfl) rfl #[.string (rdOf ByteArray.empty t269 2)] rfl (by (try simp only [List.map_toArray,List.map_cons,List.map_nil]);first | done | rfl|(simp only [List.length_drop,List.length_take];rfl)) ?_;(with_reducible refine (spec_l05Read.calls k2 (rdOf ByteArray.empty t269 2) t286 t287 true _ A36.out).mono ?_);rintro e w79 ⟨rfl,hb⟩;refine ⟨_,rfl,?_⟩;have n0_:=aMk (Kd.R_below (by (with_reducible repeat (first|apply Kd.R_alloc|apply Kd.R_drewN|apply Kd.R_drew));exact HO_4.out) hb);have n1_:=aMk (Kd.R_below (by (with_reducible repeat (first|apply Kd.R_alloc|apply Kd.R_drewN|apply Kd.R_drew));exact HO_6.out) hb);have n2_:=aMk (blk_below (g:=gb268) (o:=.cells #[.int .i64 0,.int .i64 0,.int .i64 0,.int .i64 0,.int .i64 0,.bool false] 33 (0,0)) (by (with_reducible repeat (first|refine bDn ?_ _|refine bDr ?_|refine bAl ?_ _));exact BK268.out) hb);have n3_:=aMk (blk_below (g:=gb275) (o:=.cells #[.int .i64 x276000_2,.int .i64 0,.int .i64 0,.int .i64 0,.int .i64 0,.bool ((rdOf ByteArray.empty t269 0).toList == ([97,108,108,111,119] : List UInt8))] 33 (0,0)) (by (with_reducible repeat (first|refine bDn ?_ _|refine bDr ?_|refine bAl ?_ _));exact BK275.out) hb);have n4_:=aMk (below_step (by repeat (first|(with_reducible first|exact HB.out|apply bwA|apply bwN|apply bw1|refine below_set ?_ GE268.out|refine below_set ?_ GE275.out)|exact HB.out)) hb);clear HO_4;clear HO_6;clear BK268;clear BK275;clear HB;have HO_4:=n0_;have HO_6:=n1_;have BK268:=n2_;have BK275:=n3_;have HB:=n4_;clear n0_ n1_ n2_ n3_ n4_;(try clear hb);(try clear hb2);(try clear hk);(try clear hi))|((with_reducible refine gate_dst (N:=8) rfl ?_);refine box_event ?hg (N:=8) ?hd (cs:=#[.int .i64 0,.int .i64 0]) (t:=30) ?hr ?_;(case hd => rfl);(case hg => rfl);(case hr => first|(go_simp;done)|(go_simp;rfl));intro gb289 hg w80 hbox hb;have n0_:=aMk (Kd.R_below (by (with_reducible repeat (first|apply Kd.R_alloc|apply Kd.R_drewN|apply Kd.R_drew));exact HO_4.out) hb);have n1_:=aMk (Kd.R_below (by (with_reducible repeat (first|apply Kd.R_alloc|apply Kd.R_drewN|apply Kd.R_drew));exact HO_6.out) hb);have n2_:=aMk (blk_below (g:=gb268) (o:=.cells #[.int .i64 0,.int .i64 0,.int .i64 0,.int .i64 0,.int .i64 0,.bool false] 33 (0,0)) (by (with_reducible repeat (first|refine bDn ?_ _|refine bDr ?_|refine bAl ?_ _));exact BK268.out) hb);have n3_:=aMk (blk_below (g:=gb275) (o:=.cells #[.int .i64 x276000_2,.int .i64 0,.int .i64 0,.int .i64 0,.int .i64 0,.bool ((rdOf ByteArray.empty t269 0).toList == ([97,108,108,111,119] : List UInt8))] 33 (0,0)) (by (with_reducible repeat (first|refine bDn ?_ _|refine bDr ?_|refine bAl ?_ _));exact BK275.out) hb);have n4_:=aMk (below_step (by repeat (first|(with_reducible first|exact HB.out|apply bwA|apply bwN|apply bw1|refine below_set ?_ GE268.out|refine below_set ?_ GE275.out)|exact HB.out)) hb);have n5_:=aMk (hbox);have n6_:=aMk ((by rw [hg];exact (below_size (by repeat (first|(with_reducible first|exact HB.out|apply bwA|apply bwN|apply bw1|refine below_set ?_ GE268.out|refine below_set ?_ GE275.out)|exact HB.out))) : w.heap.size ≤ gb289));have n7_:=aMk ((by rw [hg];exact (below_size (by repeat (first|(with_reducible first|exact HB.out|apply bwA|apply bwN|apply bw1|refine below_set ?_ GE268.out|refine below_set ?_ GE275.out)|exact HB.out))) : w.heap.size ≤ gb289));have n8_:=aMk ((by rw [hg];exact Nat.ne_of_lt (blk_lt (g:=gb268) (o:=.cells #[.int .i64 0,.int .i64 0,.int .i64 0,.int .i64 0,.int .i64 0,.bool false] 33 (0,0)) (by (with_reducible repeat (first|refine bDn ?_ _|refine bDr ?_|refine bAl ?_ _));exact BK268.out)) : gb268 ≠ gb289));have n9_:=aMk ((by rw [hg];exact Nat.ne_of_gt (blk_lt (g:=gb268) (o:=.cells #[.int .i64 0,.int .i64 0,.int .i64 0,.int .i64 0,.int .i64 0,.bool false] 33 (0,0)) (by (with_reducible repeat (first|refine bDn ?_ _|refine bDr ?_|refine bAl ?_ _));exact BK268.out)) : gb289 ≠ gb268));have n10_:=aMk ((by rw [hg];exact Nat.ne_of_lt (blk_lt (g:=gb275) (o:=.cells #[.int .i64 x276000_2,.int .i64 0,.int .i64 0,.int .i64 0,.int .i64 0,.bool ((rdOf ByteArray.empty t269 0).toList == ([97,108,108,111,119] : List UInt8))] 33 (0,0)) (by (with_reducible repeat (first|refine bDn ?_ _|refine bDr ?_|refine bAl ?_ _));exact BK275.out)) : gb275 ≠ gb289));have n11_:=aMk ((by rw [hg];exact Nat.ne_of_gt (blk_lt (g:=gb275) (o:=.cells #[.int .i64 x276000_2,.int .i64 0,.int .i64 0,.int .i64 0,.int .i64 0,.bool ((rdOf ByteArray.empty t269 0).toList == ([97,108,108,111,119] : List UInt8))] 33 (0,0)) (by (with_reducible repeat (first|refine bDn ?_ _|refine bDr ?_|refine bAl ?_ _));exact BK275.out)) : gb289 ≠ gb275));clear HO_4;clear HO_6;clear BK268;clear BK275;clear HB;have HO_4:=n0_;have HO_6:=n1_;have BK268:=n2_;have BK275:=n3_;have HB:=n4_;have BK289:=n5_;have GW289:=n6_;have GE289:=n7_;have NB268_289:=n8_;have NB289_268:=n9_;have NB275_289:=n10_;have NB289_275:=n11_;clear n0_ n1_ n2_ n3_ n4_ n5_ n6_ n7_ n8_ n9_ n10_ n11_;clear hb hbox hg;have hnb81:=NB289_268.out;have hnc81:=NB268_289.out;have hnb82:=NB289_275.out;have hnc82:=NB275_289.out;have hcz83_0 : w80.cell? ⟨gb289,0,none⟩ = some (.int .i64 0):=(bCe BK289.out 0).trans rfl;have hcz83_1 : w80.cell? ⟨gb289,1,none⟩ = some (.int .i64 0):=(bCe BK289.out 1).trans rfl;have hfz83_0:=bFr BK289.out 0;have hfz83_1:=bFr BK289.out 1;have p290 : 0 ≤ (3 : Int):=(by omega);have q290 : 3 < (t269.length : Int):=of_decide_eq_true (by first|(with_reducible assumption) | assumption);obtain ⟨ad290,e290,hx290_0⟩:=Kd.at_string (Kd.R_reads' HO_4.out).2.2 3 p290 q290;obtain rfl : ad274 = ad290:=(by injection e290);(try simp only [show (3 : Int).toNat = 3 from rfl,Nat.reduceMul,Nat.reduceEqDiff,Go.Addr.add,↓reduceIte] at hx290_0);have qi290 : (3 < t269.length) = True:=eq_true (by omega);(try rw [show ((3 : Int)).toNat = 3 from rfl] at hx290_0);have hn290_0 : ad274.block ≠ gb289:=Kd.own_blk (Kd.R_ne HO_4.out BK289.out (by decide));have hn290_1 : ad274.block ≠ gb289:=Kd.own_blk (Kd.R_ne HO_4.out BK289.out (by decide));replace hx290_0:=(cell_far (p:=⟨gb289,0,none⟩) (by first|(rw [add_block];exact hn290_0)|(show (Addr.add _ _).block ≠ _;rw [add_block];exact hn290_0)|exact hn290_0) (.int .i64 t286)).trans hx290_0;replace hx290_0:=(cell_far (p:=⟨gb289,1,none⟩) (by first|(rw [add_block];exact hn290_1)|(show (Addr.add _ _).block ≠ _;rw [add_block];exact hn290_1)|exact hn290_1) (.int .i64 t287)).trans hx290_0;clear hn290_0;clear hn290_1;replace p290:=eq_true p290;replace q290:=eq_true q290)|((with_reducible refine gate_callee (f:=42) rfl ?_);refine goesL_ (some 68) rfl rfl Tryd.func42 (by kernel_rfl) rfl #[.string (rdOf ByteArray.empty t269 3)] rfl (by (try simp only [List.map_toArray,List.map_cons,List.map_nil]);first | done | rfl|(simp only [List.length_drop,List.length_take];rfl)) ?_;(with_reducible refine (spec_l00Number.calls k2 (rdOf ByteArray.empty t269 3) t291 false _ A38.out).mono ?_);rintro e w' ⟨rfl,⟨nd,rfl⟩⟩;refine ⟨_,rfl,?_⟩;have p293 : 0 ≤ (4 : Int):=(by omega);have q293 : 4 < (t269.length : Int):=of_decide_eq_true (by first|(with_reducible assumption) | assumption);obtain ⟨ad293,e293,hx293_0⟩:=Kd.at_string (Kd.R_reads' HO_4.out).2.2 4 p293 q293;obtain rfl : ad274 = ad293:=(by injection e293);(try simp only [show (4 : Int).toNat = 4 from rfl,Nat.reduceMul,Nat.reduceEqDiff,Go.Addr.add,↓reduceIte] at hx293_0);have qi293 : (4 < t269.length) = True:=eq_true (by omega);(try rw [show ((4 : Int)).toNat = 4 from rfl] at hx293_0);have hn293_0 : ad274.block ≠ gb289:=Kd.own_blk (Kd.R_ne HO_4.out BK289.out (by decide));have hn293_1 : ad274.block ≠ gb289:=Kd.own_blk (Kd.R_ne HO_4.out BK289.out (by decide));replace hx293_0:=(cell_far (p:=⟨gb289,0,none⟩) (by first|(rw [add_block];exact hn293_0)|(show (Addr.add _ _).block ≠ _;rw [add_block];exact hn293_0)|exact hn293_0) (.int .i64 t286)).trans hx293_0;replace hx293_0:=(cell_far (p:=⟨gb289,1,none⟩) (by first|(rw [add_block];exact hn293_1)|(show (Addr.add _ _).block ≠ _;rw [add_block];exact hn293_1)|exact hn293_1) (.int .i64 t287)).trans hx293_0;clear hn293_0;clear hn293_1;replace p293:=eq_true p293;replace q293:=eq_true q293)|((with_reducible refine gate_callee (f:=42) rfl ?_);refine goesL_ (some 75) rfl rfl Tryd.func42 (by kernel_rfl) rfl #[.string (rdOf ByteArray.empty t269 4)] rfl (by (try simp only [List.map_toArray,List.map_cons,List.map_nil]);first | done | rfl|(simp only [List.length_drop,List.length_take];rfl)) ?_;(with_reducible refine (spec_l00Number.calls k2 (rdOf ByteArray.empty t269 4) t294 t295 _ A40.out).mono ?_);rintro e w' ⟨rfl,⟨nd,rfl⟩⟩;refine ⟨_,rfl,?_⟩;have hnb84:=NB275_268.out;have hnc84:=NB268_275.out;have hcz85_0 : w80.cell? ⟨gb275,0,none⟩ = some (.int .i64 x276000_2):=(bCe BK275.out 0).trans rfl;have hcz85_1 : w80.cell? ⟨gb275,1,none⟩ = some (.int .i64 0):=(bCe BK275.out 1).trans rfl;have hcz85_2 : w80.cell? ⟨gb275,2,none⟩ = some (.int .i64 0):=(bCe BK275.out 2).trans rfl;have hcz85_3 : w80.cell? ⟨gb275,3,none⟩ = some (.int .i64 0):=(bCe BK275.out 3).trans rfl;have hcz85_4 : w80.cell? ⟨gb275,4,none⟩ = some (.int .i64 0):=(bCe BK275.out 4).trans rfl;have hcz85_5 : w80.cell? ⟨gb275,5,none⟩ = some (.bool ((rdOf ByteArray.empty t269 0).toList == ([97,108,108,111,119] : List UInt8))):=(bCe BK275.out 5).trans rfl;have hfz85_0:=bFr BK275.out 0;have hfz85_1:=bFr BK275.out 1;have hfz85_2:=bFr BK275.out 2;have hfz85_3:=bFr BK275.out 3;have hfz85_4:=bFr BK275.out 4;have hfz85_5:=bFr BK275.out 5))
             (try (repeat rw [show ∀ (w_ : World) (n_ : Nat) (a_ : Addr) (v_ : Value),(w_.drewN n_).setCell a_ v_ = (w_.setCell a_ v_).drewN n_ from fun _ _ _ _ => rfl]));(try (repeat rw [World.drewN_drewN]))
             have n0_ : Aside0 (Kd.R Kd.string 9 ((((((w80.setCell ⟨gb289,0,none⟩ (.int .i64 t286)).setCell ⟨gb289,1,none⟩ (.int .i64 t287)).setCell ⟨gb275,1,none⟩ (.int .i64 t286)).setCell ⟨gb275,2,none⟩ (.int .i64 t287)).setCell ⟨gb275,3,none⟩ (.int .i64 t291)).setCell ⟨gb275,4,none⟩ (.int .i64 t294)) w.heap.size (fun k_ => some k_ ≠ (.slice Ao78 t276.length co78 : Value).ownBlock) (.slice (some ad274) t269.length co16) t269):=⟨by (with_reducible repeat (first|apply Kd.R_alloc|apply Kd.R_drewN|apply Kd.R_drew));exact Kd.R_mono (Kd.R_far (p:=⟨gb275,4,none⟩) (Kd.R_far (p:=⟨gb275,3,none⟩) (Kd.R_far (p:=⟨gb275,2,none⟩) (Kd.R_far (p:=⟨gb275,1,none⟩) (Kd.R_far (p:=⟨gb289,1,none⟩) (Kd.R_far (p:=⟨gb289,0,none⟩) (Kd.R_types (Kd.R_types HO_4.out BK289.out (by decide)) BK275.out (by decide)) (fun _ hk => hk.1.2) (.int .i64 t286)) (fun _ hk => hk.1.2) (.int .i64 t287)) (fun _ hk => hk.2) (.int .i64 t286)) (fun _ hk => hk.2) (.int .i64 t287)) (fun _ hk => hk.2) (.int .i64 t291)) (fun _ hk => hk.2) (.int .i64 t294)) (fun _ hk => hk.1.1)⟩
             have n1_ : Aside0 (Kd.R Kd.string 9 ((((((w80.setCell ⟨gb289,0,none⟩ (.int .i64 t286)).setCell ⟨gb289,1,none⟩ (.int .i64 t287)).setCell ⟨gb275,1,none⟩ (.int .i64 t286)).setCell ⟨gb275,2,none⟩ (.int .i64 t287)).setCell ⟨gb275,3,none⟩ (.int .i64 t291)).setCell ⟨gb275,4,none⟩ (.int .i64 t294)) w.heap.size (fun k_ => some k_ ≠ (.slice (some ad274) t269.length co16 : Value).ownBlock) (.slice Ao78 t276.length co78) t276):=⟨by (with_reducible repeat (first|apply Kd.R_alloc|apply Kd.R_drewN|apply Kd.R_drew));exact Kd.R_mono (Kd.R_far (p:=⟨gb275,4,none⟩) (Kd.R_far (p:=⟨gb275,3,none⟩) (Kd.R_far (p:=⟨gb275,2,none⟩) (Kd.R_far (p:=⟨gb275,1,none⟩) (Kd.R_far (p:=⟨gb289,1,none⟩) (Kd.R_far (p:=⟨gb289,0,none⟩) (Kd.R_types (Kd.R_types HO_6.out BK289.out (by decide)) BK275.out (by decide)) (fun _ hk => hk.1.2) (.int .i64 t286)) (fun _ hk => hk.1.2) (.int .i64 t287)) (fun _ hk => hk.2) (.int .i64 t286)) (fun _ hk => hk.2) (.int .i64 t287)) (fun _ hk => hk.2) (.int .i64 t291)) (fun _ hk => hk.2) (.int .i64 t294)) (fun _ hk => hk.1.1)⟩
             have n2_ : Aside0 (((((((w80.setCell ⟨gb289,0,none⟩ (.int .i64 t286)).setCell ⟨gb289,1,none⟩ (.int .i64 t287)).setCell ⟨gb275,1,none⟩ (.int .i64 t286)).setCell ⟨gb275,2,none⟩ (.int .i64 t287)).setCell ⟨gb275,3,none⟩ (.int .i64 t291)).setCell ⟨gb275,4,none⟩ (.int .i64 t294)).heap[gb268]? = some (.cells #[.int .i64 0,.int .i64 0,.int .i64 0,.int .i64 0,.int .i64 0,.bool false] 33 (0,0))):=⟨by (with_reducible repeat (first|refine bDn ?_ _|refine bDr ?_|refine bAl ?_ _));refine blk_far ?_ NB268_275.out _;(with_reducible repeat (first|refine bDn ?_ _|refine bDr ?_|refine bAl ?_ _));refine blk_far ?_ NB268_275.out _;(with_reducible repeat (first|refine bDn ?_ _|refine bDr ?_|refine bAl ?_ _));refine blk_far ?_ NB268_275.out _;(with_reducible repeat (first|refine bDn ?_ _|refine bDr ?_|refine bAl ?_ _));refine blk_far ?_ NB268_275.out _;(with_reducible repeat (first|refine bDn ?_ _|refine bDr ?_|refine bAl ?_ _));refine blk_far ?_ NB268_289.out _;(with_reducible repeat (first|refine bDn ?_ _|refine bDr ?_|refine bAl ?_ _));refine blk_far ?_ NB268_289.out _;(with_reducible repeat (first|refine bDn ?_ _|refine bDr ?_|refine bAl ?_ _));exact BK268.out⟩
             have n3_ : Aside0 (((((((w80.setCell ⟨gb289,0,none⟩ (.int .i64 t286)).setCell ⟨gb289,1,none⟩ (.int .i64 t287)).setCell ⟨gb275,1,none⟩ (.int .i64 t286)).setCell ⟨gb275,2,none⟩ (.int .i64 t287)).setCell ⟨gb275,3,none⟩ (.int .i64 t291)).setCell ⟨gb275,4,none⟩ (.int .i64 t294)).heap[gb275]? = some (.cells #[.int .i64 x276000_2,.int .i64 t286,.int .i64 t287,.int .i64 t291,.int .i64 t294,.bool ((rdOf ByteArray.empty t269 0).toList == ([97,108,108,111,119] : List UInt8))] 33 (0,0))):=⟨by (with_reducible repeat (first|refine bDn ?_ _|refine bDr ?_|refine bAl ?_ _));refine blk_put (cs:=#[.int .i64 x276000_2,.int .i64 t286,.int .i64 t287,.int .i64 t291,.int .i64 0,.bool ((rdOf ByteArray.empty t269 0).toList == ([97,108,108,111,119] : List UInt8))]) ?_ 4 _ rfl;(with_reducible repeat (first|refine bDn ?_ _|refine bDr ?_|refine bAl ?_ _));refine blk_put (cs:=#[.int .i64 x276000_2,.int .i64 t286,.int .i64 t287,.int .i64 0,.int .i64 0,.bool ((rdOf ByteArray.empty t269 0).toList == ([97,108,108,111,119] : List UInt8))]) ?_ 3 _ rfl;(with_reducible repeat (first|refine bDn ?_ _|refine bDr ?_|refine bAl ?_ _));refine blk_put (cs:=#[.int .i64 x276000_2,.int .i64 t286,.int .i64 0,.int .i64 0,.int .i64 0,.bool ((rdOf ByteArray.empty t269 0).toList == ([97,108,108,111,119] : List UInt8))]) ?_ 2 _ rfl;(with_reducible repeat (first|refine bDn ?_ _|refine bDr ?_|refine bAl ?_ _));refine blk_put (cs:=#[.int .i64 x276000_2,.int .i64 0,.int .i64 0,.int .i64 0,.int .i64 0,.bool ((rdOf ByteArray.empty t269 0).toList == ([97,108,108,111,119] : List UInt8))]) ?_ 1 _ rfl;(with_reducible repeat (first|refine bDn ?_ _|refine bDr ?_|refine bAl ?_ _));refine blk_far ?_ NB275_289.out _;(with_reducible repeat (first|refine bDn ?_ _|refine bDr ?_|refine bAl ?_ _));refine blk_far ?_ NB275_289.out _;(with_reducible repeat (first|refine bDn ?_ _|refine bDr ?_|refine bAl ?_ _));exact BK275.out⟩
             have n4_ : Aside0 (((((((w80.setCell ⟨gb289,0,none⟩ (.int .i64 t286)).setCell ⟨gb289,1,none⟩ (.int .i64 t287)).setCell ⟨gb275,1,none⟩ (.int .i64 t286)).setCell ⟨gb275,2,none⟩ (.int .i64 t287)).setCell ⟨gb275,3,none⟩ (.int .i64 t291)).setCell ⟨gb275,4,none⟩ (.int .i64 t294)).heap[gb289]? = some (.cells #[.int .i64 t286,.int .i64 t287] 30 (0,0))):=⟨by (with_reducible repeat (first|refine bDn ?_ _|refine bDr ?_|refine bAl ?_ _));refine blk_far ?_ NB289_275.out _;(with_reducible repeat (first|refine bDn ?_ _|refine bDr ?_|refine bAl ?_ _));refine blk_far ?_ NB289_275.out _;(with_reducible repeat (first|refine bDn ?_ _|refine bDr ?_|refine bAl ?_ _));refine blk_far ?_ NB289_275.out _;(with_reducible repeat (first|refine bDn ?_ _|refine bDr ?_|refine bAl ?_ _));refine blk_far ?_ NB289_275.out _;(with_reducible repeat (first|refine bDn ?_ _|refine bDr ?_|refine bAl ?_ _));refine blk_put (cs:=#[.int .i64 t286,.int .i64 0]) ?_ 1 _ rfl;(with_reducible repeat (first|refine bDn ?_ _|refine bDr ?_|refine bAl ?_ _));refine blk_put (cs:=#[.int .i64 0,.int .i64 0]) ?_ 0 _ rfl;(with_reducible repeat (first|refine bDn ?_ _|refine bDr ?_|refine bAl ?_ _));exact BK289.out⟩
             have n5_ : Aside0 (Below w.heap.size w ((((((w80.setCell ⟨gb289,0,none⟩ (.int .i64 t286)).setCell ⟨gb289,1,none⟩ (.int .i64 t287)).setCell ⟨gb275,1,none⟩ (.int .i64 t286)).setCell ⟨gb275,2,none⟩ (.int .i64 t287)).setCell ⟨gb275,3,none⟩ (.int .i64 t291)).setCell ⟨gb275,4,none⟩ (.int .i64 t294))):=⟨by repeat (first|(with_reducible first|exact HB.out|apply bwA|apply bwN|apply bw1|refine below_set ?_ GE268.out|refine below_set ?_ GE275.out|refine below_set ?_ GE289.out)|exact HB.out)⟩
             (try clear HO_4)
             (try clear HO_6)
             (try clear BK268)
             (try clear BK275)
             (try clear BK289)
             (try clear HB)
             generalize ((((((w80.setCell ⟨gb289,0,none⟩ (.int .i64 t286)).setCell ⟨gb289,1,none⟩ (.int .i64 t287)).setCell ⟨gb275,1,none⟩ (.int .i64 t286)).setCell ⟨gb275,2,none⟩ (.int .i64 t287)).setCell ⟨gb275,3,none⟩ (.int .i64 t291)).setCell ⟨gb275,4,none⟩ (.int .i64 t294)) = w86 at n0_ n1_ n2_ n3_ n4_ n5_ ⊢
             have HO_4:=n0_
             have HO_6:=n1_
             have BK268:=n2_
             have BK275:=n3_
             have BK289:=n4_
             have HB:=n5_
             clear n0_ n1_ n2_ n3_ n4_ n5_
             (try (rw [drewN_self w86];generalize hq_ : World.drewN w86 _ = w86;have n0_ : Aside0 (Kd.R Kd.string 9 w86 w.heap.size (fun k_ => some k_ ≠ (.slice Ao78 t276.length co78 : Value).ownBlock) (.slice (some ad274) t269.length co16) t269):=⟨by rw [← hq_];exact (by (with_reducible repeat (first|apply Kd.R_alloc|apply Kd.R_drewN|apply Kd.R_drew));exact HO_4.out)⟩;have n1_ : Aside0 (Kd.R Kd.string 9 w86 w.heap.size (fun k_ => some k_ ≠ (.slice (some ad274) t269.length co16 : Value).ownBlock) (.slice Ao78 t276.length co78) t276):=⟨by rw [← hq_];exact (by (with_reducible repeat (first|apply Kd.R_alloc|apply Kd.R_drewN|apply Kd.R_drew));exact HO_6.out)⟩;have n2_ : Aside0 (w86.heap[gb268]? = some (.cells #[.int .i64 0,.int .i64 0,.int .i64 0,.int .i64 0,.int .i64 0,.bool false] 33 (0,0))):=⟨by rw [← hq_];exact (by (with_reducible repeat (first|refine bDn ?_ _|refine bDr ?_|refine bAl ?_ _));exact BK268.out)⟩;have n3_ : Aside0 (w86.heap[gb275]? = some (.cells #[.int .i64 x276000_2,.int .i64 t286,.int .i64 t287,.int .i64 t291,.int .i64 t294,.bool ((rdOf ByteArray.empty t269 0).toList == ([97,108,108,111,119] : List UInt8))] 33 (0,0))):=⟨by rw [← hq_];exact (by (with_reducible repeat (first|refine bDn ?_ _|refine bDr ?_|refine bAl ?_ _));exact BK275.out)⟩;have n4_ : Aside0 (w86.heap[gb289]? = some (.cells #[.int .i64 t286,.int .i64 t287] 30 (0,0))):=⟨by rw [← hq_];exact (by (with_reducible repeat (first|refine bDn ?_ _|refine bDr ?_|refine bAl ?_ _));exact BK289.out)⟩;have n5_ : Aside0 (Below w.heap.size w w86):=⟨by rw [← hq_];exact (by repeat (first|(with_reducible first|exact HB.out|apply bwA|apply bwN|apply bw1|refine below_set ?_ GE268.out|refine below_set ?_ GE275.out|refine below_set ?_ GE289.out)|exact HB.out))⟩;clear HO_4 HO_6 BK268 BK275 BK289 HB hq_;have HO_4:=n0_;have HO_6:=n1_;have BK268:=n2_;have BK275:=n3_;have BK289:=n4_;have HB:=n5_;clear n0_ n1_ n2_ n3_ n4_ n5_))
             have n0_:=aMk (Kd.R_drew HO_4.out)
             have n1_:=aMk (Kd.R_drew HO_6.out)
             have n2_:=aMk (bDr BK268.out)
             have n3_:=aMk (bDr BK275.out)
             have n4_:=aMk (bDr BK289.out)
             have n5_:=aMk (bw1 HB.out)
             clear HO_4
             clear HO_6
             clear BK268
             clear BK275
             clear BK289
             clear HB
             have HO_4:=n0_
             have HO_6:=n1_
             have BK268:=n2_
             have BK275:=n3_
             have BK289:=n4_
             have HB:=n5_
             clear n0_ n1_ n2_ n3_ n4_ n5_
             refine start_ (n:=14) (S:=fun w' => w'.cell? ⟨gb275,0,none⟩ = some (.int .i64 x276000_2) ∧ w'.cell? ⟨gb275,1,none⟩ = some (.int .i64 t286) ∧ w'.cell? ⟨gb275,2,none⟩ = some (.int .i64 t287) ∧ w'.cell? ⟨gb275,3,none⟩ = some (.int .i64 t291) ∧ w'.cell? ⟨gb275,4,none⟩ = some (.int .i64 t294) ∧ w'.cell? ⟨gb275,5,none⟩ = some (.bool ((rdOf ByteArray.empty t269 0).toList == ([97,108,108,111,119] : List UInt8)))) (ds:=[]) #[false,false,false,false,false,false,false,false,false,false,false,false,false,false] (by kernel_rfl) rfl rfl ⟨(bCe BK275.out 0).trans rfl,(bCe BK275.out 1).trans rfl,(bCe BK275.out 2).trans rfl,(bCe BK275.out 3).trans rfl,(bCe BK275.out 4).trans rfl,(bCe BK275.out 5).trans rfl⟩ (fun hHeld => ?_);refine with_tabW spec_l07Read.tab16 spec_l07Read.bits16 (fun HT_ HW_ => ?_)
             generalize w86.drew = w87 at HO_4 HO_6 BK268 BK275 BK289 HB hHeld ⊢
             refine pure_ (i:=1) (N:=some 85) (v:=?_) (a':=?_) #[false,true,false,false,false,false,false,false,false,false,false,false,false,false] rfl rfl (any_of HT_.out (by kernel_rfl)) (fun _ _ _ h => h) (Or.inl ⟨by rfl,?_⟩) ?_ ?_
             rotate_left
             ·intro w'
              go_simp
              with_reducible rfl
             rotate_left
             ·simp only [Act.put,List.setIfInBounds_toArray,List.set_cons_zero,List.set_cons_succ,i64_w,i32_w]
              rfl
             refine pure_ (i:=2) (N:=some 86) (v:=?_) (a':=?_) #[false,true,true,false,false,false,false,false,false,false,false,false,false,false] rfl rfl (any_of HT_.out (by kernel_rfl)) (fun _ _ _ h => h) (Or.inl ⟨by rfl,?_⟩) ?_ ?_
             rotate_left
             ·intro w'
              go_simp
              with_reducible rfl
             rotate_left
             ·simp only [Act.put,List.setIfInBounds_toArray,List.set_cons_zero,List.set_cons_succ,i64_w,i32_w]
              rfl
             refine pure_ (i:=3) (N:=some 87) (v:=?_) (a':=?_) #[false,true,true,true,false,false,false,false,false,false,false,false,false,false] rfl rfl (any_of HT_.out (by kernel_rfl)) (fun _ _ _ h => h) (Or.inl ⟨by rfl,?_⟩) ?_ ?_
             rotate_left
             ·intro w'
              go_simp
              with_reducible rfl
             rotate_left
             ·simp only [Act.put,List.setIfInBounds_toArray,List.set_cons_zero,List.set_cons_succ,i64_w,i32_w]
              rfl
             refine pure_ (i:=4) (N:=some 88) (v:=?_) (a':=?_) #[false,true,true,true,true,false,false,false,false,false,false,false,false,false] rfl rfl (any_of HT_.out (by kernel_rfl)) (fun _ _ _ h => h) (Or.inl ⟨by rfl,?_⟩) ?_ ?_
             rotate_left
             ·intro w'
              go_simp
              with_reducible rfl
             rotate_left
             ·simp only [Act.put,List.setIfInBounds_toArray,List.set_cons_zero,List.set_cons_succ,i64_w,i32_w]
              rfl
             refine pure_ (i:=5) (N:=some 89) (v:=?_) (a':=?_) #[false,true,true,true,true,true,false,false,false,false,false,false,false,false] rfl rfl (any_of HT_.out (by kernel_rfl)) (fun _ _ _ h => h) (Or.inl ⟨by rfl,?_⟩) ?_ ?_
             rotate_left
             ·intro w'
              go_simp
              with_reducible rfl
             rotate_left
             ·simp only [Act.put,List.setIfInBounds_toArray,List.set_cons_zero,List.set_cons_succ,i64_w,i32_w]
              rfl
             refine pure_ (i:=6) (N:=some 90) (v:=undef) (a':=?_) #[false,true,true,true,true,true,true,false,false,false,false,false,false,false] rfl rfl (any_of HT_.out (by kernel_rfl)) (fun _ _ _ h => h) (Or.inr ⟨by rfl,rfl⟩) ?_ ?_
             rotate_left
             ·simp only [Act.put,List.setIfInBounds_toArray,List.set_cons_zero,List.set_cons_succ,i64_w,i32_w]
              rfl
             refine pure_ (i:=7) (N:=some 91) (v:=?_) (a':=?_) #[false,true,true,true,true,true,true,true,false,false,false,false,false,false] rfl rfl (any_of HT_.out (by kernel_rfl)) (fun _ _ _ h => h) (Or.inl ⟨by rfl,?_⟩) ?_ ?_
             rotate_left
             ·intro w'
              go_simp
              with_reducible rfl
             rotate_left
             ·simp only [Act.put,List.setIfInBounds_toArray,List.set_cons_zero,List.set_cons_succ,i64_w,i32_w]
              rfl
             refine pure_ (i:=8) (N:=some 92) (v:=?_) (a':=?_) #[false,true,true,true,true,true,true,true,true,false,false,false,false,false] rfl rfl (any_of HT_.out (by kernel_rfl)) (fun _ _ _ h => h) (Or.inl ⟨by rfl,?_⟩) ?_ ?_
             rotate_left
             ·intro w'
              go_simp
              with_reducible rfl
             rotate_left
             ·simp only [Act.put,List.setIfInBounds_toArray,List.set_cons_zero,List.set_cons_succ,i64_w,i32_w]
              rfl
             refine pure_ (i:=9) (N:=some 93) (v:=undef) (a':=?_) #[false,true,true,true,true,true,true,true,true,true,false,false,false,false] rfl rfl (any_of HT_.out (by kernel_rfl)) (fun _ _ _ h => h) (Or.inr ⟨by rfl,rfl⟩) ?_ ?_
             rotate_left
             ·simp only [Act.put,List.setIfInBounds_toArray,List.set_cons_zero,List.set_cons_succ,i64_w,i32_w]
              rfl
             refine pure_ (i:=10) (N:=some 94) (v:=undef) (a':=?_) #[false,true,true,true,true,true,true,true,true,true,true,false,false,false] rfl rfl (any_of HT_.out (by kernel_rfl)) (fun _ _ _ h => h) (Or.inr ⟨by rfl,rfl⟩) ?_ ?_
             rotate_left
             ·simp only [Act.put,List.setIfInBounds_toArray,List.set_cons_zero,List.set_cons_succ,i64_w,i32_w]
              rfl
             refine pure_ (i:=11) (N:=some 95) (v:=?_) (a':=?_) #[false,true,true,true,true,true,true,true,true,true,true,true,false,false] rfl rfl (any_of HT_.out (by kernel_rfl)) (fun _ _ _ h => h) (Or.inl ⟨by rfl,?_⟩) ?_ ?_
             rotate_left
             ·intro w'
              go_simp
              with_reducible rfl
             rotate_left
             ·simp only [Act.put,List.setIfInBounds_toArray,List.set_cons_zero,List.set_cons_succ,i64_w,i32_w]
              rfl
             refine take_ (i:=0) (N:=some 84) (v:=?_) (a':=?_) #[true,true,true,true,true,true,true,true,true,true,true,true,false,false] rfl rfl (take_ofW HT_.out HW_.out (by kernel_rfl)) (fun _ _ _ h => h) (Or.inl ⟨by rfl,?_⟩) hHeld ?_ ?_
             rotate_left
             ·rintro w' ⟨s0,s1,s2,s3,s4,s5⟩
              go_simp
              with_reducible rfl
             rotate_left
             ·simp only [Act.put,List.setIfInBounds_toArray,List.set_cons_zero,List.set_cons_succ,i64_w,i32_w]
              rfl
             refine one_ (i:=12) (N:=none) #[true,true,true,true,true,true,true,true,true,true,true,true,true,false] rfl rfl (one_of HT_.out (by kernel_rfl)) (by decide) (fun K hK => ?_)
             have hs88 : w87.cell? ⟨gb268,0,none⟩ = some (.int .i64 0):=(bCe BK268.out 0).trans rfl
             have hfs88:=bFr BK268.out 0
             have hns88_1:=NB275_268.out
             have hns88_2:=NB289_268.out
             have hms88_1:=NB268_275.out
             have hms88_2:=NB268_289.out
             have hs89 : w87.cell? ⟨gb268,1,none⟩ = some (.int .i64 0):=(bCe BK268.out 1).trans rfl
             have hfs89:=bFr BK268.out 1
             have hns89_1:=NB275_268.out
             have hns89_2:=NB289_268.out
             have hms89_1:=NB268_275.out
             have hms89_2:=NB268_289.out
             have hs90 : w87.cell? ⟨gb268,2,none⟩ = some (.int .i64 0):=(bCe BK268.out 2).trans rfl
             have hfs90:=bFr BK268.out 2
             have hns90_1:=NB275_268.out
             have hns90_2:=NB289_268.out
             have hms90_1:=NB268_275.out
             have hms90_2:=NB268_289.out
             have hs91 : w87.cell? ⟨gb268,3,none⟩ = some (.int .i64 0):=(bCe BK268.out 3).trans rfl
             have hfs91:=bFr BK268.out 3
             have hns91_1:=NB275_268.out
             have hns91_2:=NB289_268.out
             have hms91_1:=NB268_275.out
             have hms91_2:=NB268_289.out
             have hs92 : w87.cell? ⟨gb268,4,none⟩ = some (.int .i64 0):=(bCe BK268.out 4).trans rfl
             have hfs92:=bFr BK268.out 4
             have hns92_1:=NB275_268.out
             have hns92_2:=NB289_268.out
             have hms92_1:=NB268_275.out
             have hms92_2:=NB268_289.out
             have hs93 : w87.cell? ⟨gb268,5,none⟩ = some (.bool false):=(bCe BK268.out 5).trans rfl
             have hfs93:=bFr BK268.out 5
             have hns93_1:=NB275_268.out
             have hns93_2:=NB289_268.out
             have hms93_1:=NB268_275.out
             have hms93_2:=NB268_289.out
             refine skip_ (w1:=?_) (by rfl) rfl ?_ ?_
             rotate_left
             ·go_simp
              rfl
             refine hK.out _ _ ⟨((cell_far (p:=⟨gb268,_,none⟩) NB275_268.out _).trans (((cell_far (p:=⟨gb268,_,none⟩) NB275_268.out _).trans (((cell_far (p:=⟨gb268,_,none⟩) NB275_268.out _).trans (((cell_far (p:=⟨gb268,_,none⟩) NB275_268.out _).trans (((cell_far (p:=⟨gb268,_,none⟩) NB275_268.out _).trans (((cell_far (p:=⟨gb268,_,none⟩) NB275_268.out _).trans (hHeld.1)))))))))))),((cell_far (p:=⟨gb268,_,none⟩) NB275_268.out _).trans (((cell_far (p:=⟨gb268,_,none⟩) NB275_268.out _).trans (((cell_far (p:=⟨gb268,_,none⟩) NB275_268.out _).trans (((cell_far (p:=⟨gb268,_,none⟩) NB275_268.out _).trans (((cell_far (p:=⟨gb268,_,none⟩) NB275_268.out _).trans (((cell_far (p:=⟨gb268,_,none⟩) NB275_268.out _).trans (hHeld.2.1)))))))))))),((cell_far (p:=⟨gb268,_,none⟩) NB275_268.out _).trans (((cell_far (p:=⟨gb268,_,none⟩) NB275_268.out _).trans (((cell_far (p:=⟨gb268,_,none⟩) NB275_268.out _).trans (((cell_far (p:=⟨gb268,_,none⟩) NB275_268.out _).trans (((cell_far (p:=⟨gb268,_,none⟩) NB275_268.out _).trans (((cell_far (p:=⟨gb268,_,none⟩) NB275_268.out _).trans (hHeld.2.2.1)))))))))))),((cell_far (p:=⟨gb268,_,none⟩) NB275_268.out _).trans (((cell_far (p:=⟨gb268,_,none⟩) NB275_268.out _).trans (((cell_far (p:=⟨gb268,_,none⟩) NB275_268.out _).trans (((cell_far (p:=⟨gb268,_,none⟩) NB275_268.out _).trans (((cell_far (p:=⟨gb268,_,none⟩) NB275_268.out _).trans (((cell_far (p:=⟨gb268,_,none⟩) NB275_268.out _).trans (hHeld.2.2.2.1)))))))))))),((cell_far (p:=⟨gb268,_,none⟩) NB275_268.out _).trans (((cell_far (p:=⟨gb268,_,none⟩) NB275_268.out _).trans (((cell_far (p:=⟨gb268,_,none⟩) NB275_268.out _).trans (((cell_far (p:=⟨gb268,_,none⟩) NB275_268.out _).trans (((cell_far (p:=⟨gb268,_,none⟩) NB275_268.out _).trans (((cell_far (p:=⟨gb268,_,none⟩) NB275_268.out _).trans (hHeld.2.2.2.2.1)))))))))))),((cell_far (p:=⟨gb268,_,none⟩) NB275_268.out _).trans (((cell_far (p:=⟨gb268,_,none⟩) NB275_268.out _).trans (((cell_far (p:=⟨gb268,_,none⟩) NB275_268.out _).trans (((cell_far (p:=⟨gb268,_,none⟩) NB275_268.out _).trans (((cell_far (p:=⟨gb268,_,none⟩) NB275_268.out _).trans (((cell_far (p:=⟨gb268,_,none⟩) NB275_268.out _).trans (hHeld.2.2.2.2.2))))))))))))⟩ (fun hHeld => ?_)
             clear hK K
             refine pure_ (i:=13) (N:=some 3) (v:=?_) (a':=?_) #[true,true,true,true,true,true,true,true,true,true,true,true,true,true] rfl rfl (any_of HT_.out (by kernel_rfl)) (fun _ _ _ h => h) (Or.inl ⟨by rfl,?_⟩) ?_ ?_
             rotate_left
             ·intro w'
              go_simp
              with_reducible rfl
             rotate_left
             ·simp only [Act.put,List.setIfInBounds_toArray,List.set_cons_zero,List.set_cons_succ,i64_w,i32_w]
              rfl
             refine done_ (done_of HT_.out (by kernel_rfl)) ?_
             try go_wp2
             refine bodyPost_ret (results_ct rfl _ _ gb268 33 #[.int .i64 x276000_2,.int .i64 t286,.int .i64 t287,.int .i64 t291,.int .i64 t294,.bool ((rdOf ByteArray.empty t269 0).toList == ([97,108,108,111,119] : List UInt8))] (0,0) _ rfl (by (with_reducible repeat (first|refine bDn ?_ _|refine bDr ?_|refine bAl ?_ _));refine blk_put (cs:=#[.int .i64 x276000_2,.int .i64 t286,.int .i64 t287,.int .i64 t291,.int .i64 t294,.bool false]) ?_ 5 _ rfl;(with_reducible repeat (first|refine bDn ?_ _|refine bDr ?_|refine bAl ?_ _));refine blk_put (cs:=#[.int .i64 x276000_2,.int .i64 t286,.int .i64 t287,.int .i64 t291,.int .i64 0,.bool false]) ?_ 4 _ rfl;(with_reducible repeat (first|refine bDn ?_ _|refine bDr ?_|refine bAl ?_ _));refine blk_put (cs:=#[.int .i64 x276000_2,.int .i64 t286,.int .i64 t287,.int .i64 0,.int .i64 0,.bool false]) ?_ 3 _ rfl;(with_reducible repeat (first|refine bDn ?_ _|refine bDr ?_|refine bAl ?_ _));refine blk_put (cs:=#[.int .i64 x276000_2,.int .i64 t286,.int .i64 0,.int .i64 0,.int .i64 0,.bool false]) ?_ 2 _ rfl;(with_reducible repeat (first|refine bDn ?_ _|refine bDr ?_|refine bAl ?_ _));refine blk_put (cs:=#[.int .i64 x276000_2,.int .i64 0,.int .i64 0,.int .i64 0,.int .i64 0,.bool false]) ?_ 1 _ rfl;(with_reducible repeat (first|refine bDn ?_ _|refine bDr ?_|refine bAl ?_ _));refine blk_put (cs:=#[.int .i64 0,.int .i64 0,.int .i64 0,.int .i64 0,.int .i64 0,.bool false]) ?_ 0 _ rfl;(with_reducible repeat (first|refine bDn ?_ _|refine bDr ?_|refine bAl ?_ _));exact BK268.out) Tryd.underlying33 rfl (by kernel_rfl)) rfl ?_
             exact ⟨by first | rfl|(simp [errW_none,errW_some] <;> rfl)|(simp [*,errW_none,errW_some] <;> rfl),by repeat (first|(with_reducible first|exact HB.out|apply bwA|apply bwN|apply bw1|refine below_set ?_ GE268.out|refine below_set ?_ GE275.out|refine below_set ?_ GE289.out)|exact HB.out)⟩
           ·replace c41:=Bool.eq_false_iff.mpr c41
            subst c41
            have H1 : (some (x276000_2,t286,t287,t291,t294,((rdOf ByteArray.empty t269 0).toList == ([97,108,108,111,119] : List UInt8)),false)) = some (r1,r2,r3,r4,r5,r6,r7):=by rw [if_neg (show ¬ (false = true) by decide)] at H;exact H
            clear H
            have H:=H1
            clear H1
            simp only [Option.some.injEq,Prod.mk.injEq] at H
            obtain ⟨rfl,rfl,rfl,rfl,rfl,rfl,rfl⟩:=H
            obtain ⟨Ao94,co94,eo94⟩:=Kd.R_slice HO_6.out
            subst eo94
            have p285 : 0 ≤ (2 : Int):=(by omega)
            have q285 : 2 < (t269.length : Int):=of_decide_eq_true (by first|(with_reducible assumption) | assumption)
            obtain ⟨ad285,e285,hx285_0⟩:=Kd.at_string (Kd.R_reads' HO_4.out).2.2 2 p285 q285
            obtain rfl : ad274 = ad285:=(by injection e285)
            (try simp only [show (2 : Int).toNat = 2 from rfl,Nat.reduceMul,Nat.reduceEqDiff,Go.Addr.add,↓reduceIte] at hx285_0)
            have qi285 : (2 < t269.length) = True:=eq_true (by omega)
            (try rw [show ((2 : Int)).toNat = 2 from rfl] at hx285_0)
            replace p285:=eq_true p285
            replace q285:=eq_true q285
            try go_wp2_with (first|((with_reducible refine gate_callee (f:=41) rfl ?_);refine goesL_ (some 61) rfl rfl Tryd.func41 (by kernel_rfl) rfl #[.string (rdOf ByteArray.empty t269 2)] rfl (by (try simp only [List.map_toArray,List.map_cons,List.map_nil]);first | done | rfl|(simp only [List.length_drop,List.length_take];rfl)) ?_;(with_reducible refine (spec_l05Read.calls k2 (rdOf ByteArray.empty t269 2) t286 t287 false _ A36.out).mono ?_);rintro e w95 ⟨rfl,hb⟩;refine ⟨_,rfl,?_⟩;have n0_:=aMk (Kd.R_below (by (with_reducible repeat (first|apply Kd.R_alloc|apply Kd.R_drewN|apply Kd.R_drew));exact HO_4.out) hb);have n1_:=aMk (Kd.R_below (by (with_reducible repeat (first|apply Kd.R_alloc|apply Kd.R_drewN|apply Kd.R_drew));exact HO_6.out) hb);have n2_:=aMk (blk_below (g:=gb268) (o:=.cells #[.int .i64 0,.int .i64 0,.int .i64 0,.int .i64 0,.int .i64 0,.bool false] 33 (0,0)) (by (with_reducible repeat (first|refine bDn ?_ _|refine bDr ?_|refine bAl ?_ _));exact BK268.out) hb);have n3_:=aMk (blk_below (g:=gb275) (o:=.cells #[.int .i64 x276000_2,.int .i64 0,.int .i64 0,.int .i64 0,.int .i64 0,.bool ((rdOf ByteArray.empty t269 0).toList == ([97,108,108,111,119] : List UInt8))] 33 (0,0)) (by (with_reducible repeat (first|refine bDn ?_ _|refine bDr ?_|refine bAl ?_ _));exact BK275.out) hb);have n4_:=aMk (below_step (by repeat (first|(with_reducible first|exact HB.out|apply bwA|apply bwN|apply bw1|refine below_set ?_ GE268.out|refine below_set ?_ GE275.out)|exact HB.out)) hb);clear HO_4;clear HO_6;clear BK268;clear BK275;clear HB;have HO_4:=n0_;have HO_6:=n1_;have BK268:=n2_;have BK275:=n3_;have HB:=n4_;clear n0_ n1_ n2_ n3_ n4_;(try clear hb);(try clear hb2);(try clear hk);(try clear hi))|((with_reducible refine gate_dst (N:=8) rfl ?_);refine box_event ?hg (N:=8) ?hd (cs:=#[.int .i64 0,.int .i64 0]) (t:=30) ?hr ?_;(case hd => rfl);(case hg => rfl);(case hr => first|(go_simp;done)|(go_simp;rfl));intro gb289 hg w96 hbox hb;have n0_:=aMk (Kd.R_below (by (with_reducible repeat (first|apply Kd.R_alloc|apply Kd.R_drewN|apply Kd.R_drew));exact HO_4.out) hb);have n1_:=aMk (Kd.R_below (by (with_reducible repeat (first|apply Kd.R_alloc|apply Kd.R_drewN|apply Kd.R_drew));exact HO_6.out) hb);have n2_:=aMk (blk_below (g:=gb268) (o:=.cells #[.int .i64 0,.int .i64 0,.int .i64 0,.int .i64 0,.int .i64 0,.bool false] 33 (0,0)) (by (with_reducible repeat (first|refine bDn ?_ _|refine bDr ?_|refine bAl ?_ _));exact BK268.out) hb);have n3_:=aMk (blk_below (g:=gb275) (o:=.cells #[.int .i64 x276000_2,.int .i64 0,.int .i64 0,.int .i64 0,.int .i64 0,.bool ((rdOf ByteArray.empty t269 0).toList == ([97,108,108,111,119] : List UInt8))] 33 (0,0)) (by (with_reducible repeat (first|refine bDn ?_ _|refine bDr ?_|refine bAl ?_ _));exact BK275.out) hb);have n4_:=aMk (below_step (by repeat (first|(with_reducible first|exact HB.out|apply bwA|apply bwN|apply bw1|refine below_set ?_ GE268.out|refine below_set ?_ GE275.out)|exact HB.out)) hb);have n5_:=aMk (hbox);have n6_:=aMk ((by rw [hg];exact (below_size (by repeat (first|(with_reducible first|exact HB.out|apply bwA|apply bwN|apply bw1|refine below_set ?_ GE268.out|refine below_set ?_ GE275.out)|exact HB.out))) : w.heap.size ≤ gb289));have n7_:=aMk ((by rw [hg];exact (below_size (by repeat (first|(with_reducible first|exact HB.out|apply bwA|apply bwN|apply bw1|refine below_set ?_ GE268.out|refine below_set ?_ GE275.out)|exact HB.out))) : w.heap.size ≤ gb289));have n8_:=aMk ((by rw [hg];exact Nat.ne_of_lt (blk_lt (g:=gb268) (o:=.cells #[.int .i64 0,.int .i64 0,.int .i64 0,.int .i64 0,.int .i64 0,.bool false] 33 (0,0)) (by (with_reducible repeat (first|refine bDn ?_ _|refine bDr ?_|refine bAl ?_ _));exact BK268.out)) : gb268 ≠ gb289));have n9_:=aMk ((by rw [hg];exact Nat.ne_of_gt (blk_lt (g:=gb268) (o:=.cells #[.int .i64 0,.int .i64 0,.int .i64 0,.int .i64 0,.int .i64 0,.bool false] 33 (0,0)) (by (with_reducible repeat (first|refine bDn ?_ _|refine bDr ?_|refine bAl ?_ _));exact BK268.out)) : gb289 ≠ gb268));have n10_:=aMk ((by rw [hg];exact Nat.ne_of_lt (blk_lt (g:=gb275) (o:=.cells #[.int .i64 x276000_2,.int .i64 0,.int .i64 0,.int .i64 0,.int .i64 0,.bool ((rdOf ByteArray.empty t269 0).toList == ([97,108,108,111,119] : List UInt8))] 33 (0,0)) (by (with_reducible repeat (first|refine bDn ?_ _|refine bDr ?_|refine bAl ?_ _));exact BK275.out)) : gb275 ≠ gb289));have n11_:=aMk ((by rw [hg];exact Nat.ne_of_gt (blk_lt (g:=gb275) (o:=.cells #[.int .i64 x276000_2,.int .i64 0,.int .i64 0,.int .i64 0,.int .i64 0,.bool ((rdOf ByteArray.empty t269 0).toList == ([97,108,108,111,119] : List UInt8))] 33 (0,0)) (by (with_reducible repeat (first|refine bDn ?_ _|refine bDr ?_|refine bAl ?_ _));exact BK275.out)) : gb289 ≠ gb275));clear HO_4;clear HO_6;clear BK268;clear BK275;clear HB;have HO_4:=n0_;have HO_6:=n1_;have BK268:=n2_;have BK275:=n3_;have HB:=n4_;have BK289:=n5_;have GW289:=n6_;have GE289:=n7_;have NB268_289:=n8_;have NB289_268:=n9_;have NB275_289:=n10_;have NB289_275:=n11_;clear n0_ n1_ n2_ n3_ n4_ n5_ n6_ n7_ n8_ n9_ n10_ n11_;clear hb hbox hg;have hnb97:=NB289_268.out;have hnc97:=NB268_289.out;have hnb98:=NB289_275.out;have hnc98:=NB275_289.out;have hcz99_0 : w96.cell? ⟨gb289,0,none⟩ = some (.int .i64 0):=(bCe BK289.out 0).trans rfl;have hcz99_1 : w96.cell? ⟨gb289,1,none⟩ = some (.int .i64 0):=(bCe BK289.out 1).trans rfl;have hfz99_0:=bFr BK289.out 0;have hfz99_1:=bFr BK289.out 1;have p290 : 0 ≤ (3 : Int):=(by omega);have q290 : 3 < (t269.length : Int):=of_decide_eq_true (by first|(with_reducible assumption) | assumption);obtain ⟨ad290,e290,hx290_0⟩:=Kd.at_string (Kd.R_reads' HO_4.out).2.2 3 p290 q290;obtain rfl : ad274 = ad290:=(by injection e290);(try simp only [show (3 : Int).toNat = 3 from rfl,Nat.reduceMul,Nat.reduceEqDiff,Go.Addr.add,↓reduceIte] at hx290_0);have qi290 : (3 < t269.length) = True:=eq_true (by omega);(try rw [show ((3 : Int)).toNat = 3 from rfl] at hx290_0);have hn290_0 : ad274.block ≠ gb289:=Kd.own_blk (Kd.R_ne HO_4.out BK289.out (by decide));have hn290_1 : ad274.block ≠ gb289:=Kd.own_blk (Kd.R_ne HO_4.out BK289.out (by decide));replace hx290_0:=(cell_far (p:=⟨gb289,0,none⟩) (by first|(rw [add_block];exact hn290_0)|(show (Addr.add _ _).block ≠ _;rw [add_block];exact hn290_0)|exact hn290_0) (.int .i64 t286)).trans hx290_0;replace hx290_0:=(cell_far (p:=⟨gb289,1,none⟩) (by first|(rw [add_block];exact hn290_1)|(show (Addr.add _ _).block ≠ _;rw [add_block];exact hn290_1)|exact hn290_1) (.int .i64 t287)).trans hx290_0;clear hn290_0;clear hn290_1;replace p290:=eq_true p290;replace q290:=eq_true q290)|((with_reducible refine gate_callee (f:=42) rfl ?_);refine goesL_ (some 68) rfl rfl Tryd.func42 (by kernel_rfl) rfl #[.string (rdOf ByteArray.empty t269 3)] rfl (by (try simp only [List.map_toArray,List.map_cons,List.map_nil]);first | done | rfl|(simp only [List.length_drop,List.length_take];rfl)) ?_;(with_reducible refine (spec_l00Number.calls k2 (rdOf ByteArray.empty t269 3) t291 t292 _ A38.out).mono ?_);rintro e w' ⟨rfl,⟨nd,rfl⟩⟩;refine ⟨_,rfl,?_⟩;have p293 : 0 ≤ (4 : Int):=(by omega);have q293 : 4 < (t269.length : Int):=of_decide_eq_true (by first|(with_reducible assumption) | assumption);obtain ⟨ad293,e293,hx293_0⟩:=Kd.at_string (Kd.R_reads' HO_4.out).2.2 4 p293 q293;obtain rfl : ad274 = ad293:=(by injection e293);(try simp only [show (4 : Int).toNat = 4 from rfl,Nat.reduceMul,Nat.reduceEqDiff,Go.Addr.add,↓reduceIte] at hx293_0);have qi293 : (4 < t269.length) = True:=eq_true (by omega);(try rw [show ((4 : Int)).toNat = 4 from rfl] at hx293_0);have hn293_0 : ad274.block ≠ gb289:=Kd.own_blk (Kd.R_ne HO_4.out BK289.out (by decide));have hn293_1 : ad274.block ≠ gb289:=Kd.own_blk (Kd.R_ne HO_4.out BK289.out (by decide));replace hx293_0:=(cell_far (p:=⟨gb289,0,none⟩) (by first|(rw [add_block];exact hn293_0)|(show (Addr.add _ _).block ≠ _;rw [add_block];exact hn293_0)|exact hn293_0) (.int .i64 t286)).trans hx293_0;replace hx293_0:=(cell_far (p:=⟨gb289,1,none⟩) (by first|(rw [add_block];exact hn293_1)|(show (Addr.add _ _).block ≠ _;rw [add_block];exact hn293_1)|exact hn293_1) (.int .i64 t287)).trans hx293_0;clear hn293_0;clear hn293_1;replace p293:=eq_true p293;replace q293:=eq_true q293)|((with_reducible refine gate_callee (f:=42) rfl ?_);refine goesL_ (some 75) rfl rfl Tryd.func42 (by kernel_rfl) rfl #[.string (rdOf ByteArray.empty t269 4)] rfl (by (try simp only [List.map_toArray,List.map_cons,List.map_nil]);first | done | rfl|(simp only [List.length_drop,List.length_take];rfl)) ?_;(with_reducible refine (spec_l00Number.calls k2 (rdOf ByteArray.empty t269 4) t294 t295 _ A40.out).mono ?_);rintro e w' ⟨rfl,⟨nd,rfl⟩⟩;refine ⟨_,rfl,?_⟩;have hnb100:=NB275_268.out;have hnc100:=NB268_275.out;have hcz101_0 : w96.cell? ⟨gb275,0,none⟩ = some (.int .i64 x276000_2):=(bCe BK275.out 0).trans rfl;have hcz101_1 : w96.cell? ⟨gb275,1,none⟩ = some (.int .i64 0):=(bCe BK275.out 1).trans rfl;have hcz101_2 : w96.cell? ⟨gb275,2,none⟩ = some (.int .i64 0):=(bCe BK275.out 2).trans rfl;have hcz101_3 : w96.cell? ⟨gb275,3,none⟩ = some (.int .i64 0):=(bCe BK275.out 3).trans rfl;have hcz101_4 : w96.cell? ⟨gb275,4,none⟩ = some (.int .i64 0):=(bCe BK275.out 4).trans rfl;have hcz101_5 : w96.cell? ⟨gb275,5,none⟩ = some (.bool ((rdOf ByteArray.empty t269 0).toList == ([97,108,108,111,119] : List UInt8))):=(bCe BK275.out 5).trans rfl;have hfz101_0:=bFr BK275.out 0;have hfz101_1:=bFr BK275.out 1;have hfz101_2:=bFr BK275.out 2;have hfz101_3:=bFr BK275.out 3;have hfz101_4:=bFr BK275.out 4;have hfz101_5:=bFr BK275.out 5))
            (try (repeat rw [show ∀ (w_ : World) (n_ : Nat) (a_ : Addr) (v_ : Value),(w_.drewN n_).setCell a_ v_ = (w_.setCell a_ v_).drewN n_ from fun _ _ _ _ => rfl]));(try (repeat rw [World.drewN_drewN]))
            have n0_ : Aside0 (Kd.R Kd.string 9 ((((((w96.setCell ⟨gb289,0,none⟩ (.int .i64 t286)).setCell ⟨gb289,1,none⟩ (.int .i64 t287)).setCell ⟨gb275,1,none⟩ (.int .i64 t286)).setCell ⟨gb275,2,none⟩ (.int .i64 t287)).setCell ⟨gb275,3,none⟩ (.int .i64 t291)).setCell ⟨gb275,4,none⟩ (.int .i64 t294)) w.heap.size (fun k_ => some k_ ≠ (.slice Ao94 t276.length co94 : Value).ownBlock) (.slice (some ad274) t269.length co16) t269):=⟨by (with_reducible repeat (first|apply Kd.R_alloc|apply Kd.R_drewN|apply Kd.R_drew));exact Kd.R_mono (Kd.R_far (p:=⟨gb275,4,none⟩) (Kd.R_far (p:=⟨gb275,3,none⟩) (Kd.R_far (p:=⟨gb275,2,none⟩) (Kd.R_far (p:=⟨gb275,1,none⟩) (Kd.R_far (p:=⟨gb289,1,none⟩) (Kd.R_far (p:=⟨gb289,0,none⟩) (Kd.R_types (Kd.R_types HO_4.out BK289.out (by decide)) BK275.out (by decide)) (fun _ hk => hk.1.2) (.int .i64 t286)) (fun _ hk => hk.1.2) (.int .i64 t287)) (fun _ hk => hk.2) (.int .i64 t286)) (fun _ hk => hk.2) (.int .i64 t287)) (fun _ hk => hk.2) (.int .i64 t291)) (fun _ hk => hk.2) (.int .i64 t294)) (fun _ hk => hk.1.1)⟩
            have n1_ : Aside0 (Kd.R Kd.string 9 ((((((w96.setCell ⟨gb289,0,none⟩ (.int .i64 t286)).setCell ⟨gb289,1,none⟩ (.int .i64 t287)).setCell ⟨gb275,1,none⟩ (.int .i64 t286)).setCell ⟨gb275,2,none⟩ (.int .i64 t287)).setCell ⟨gb275,3,none⟩ (.int .i64 t291)).setCell ⟨gb275,4,none⟩ (.int .i64 t294)) w.heap.size (fun k_ => some k_ ≠ (.slice (some ad274) t269.length co16 : Value).ownBlock) (.slice Ao94 t276.length co94) t276):=⟨by (with_reducible repeat (first|apply Kd.R_alloc|apply Kd.R_drewN|apply Kd.R_drew));exact Kd.R_mono (Kd.R_far (p:=⟨gb275,4,none⟩) (Kd.R_far (p:=⟨gb275,3,none⟩) (Kd.R_far (p:=⟨gb275,2,none⟩) (Kd.R_far (p:=⟨gb275,1,none⟩) (Kd.R_far (p:=⟨gb289,1,none⟩) (Kd.R_far (p:=⟨gb289,0,none⟩) (Kd.R_types (Kd.R_types HO_6.out BK289.out (by decide)) BK275.out (by decide)) (fun _ hk => hk.1.2) (.int .i64 t286)) (fun _ hk => hk.1.2) (.int .i64 t287)) (fun _ hk => hk.2) (.int .i64 t286)) (fun _ hk => hk.2) (.int .i64 t287)) (fun _ hk => hk.2) (.int .i64 t291)) (fun _ hk => hk.2) (.int .i64 t294)) (fun _ hk => hk.1.1)⟩
            have n2_ : Aside0 (((((((w96.setCell ⟨gb289,0,none⟩ (.int .i64 t286)).setCell ⟨gb289,1,none⟩ (.int .i64 t287)).setCell ⟨gb275,1,none⟩ (.int .i64 t286)).setCell ⟨gb275,2,none⟩ (.int .i64 t287)).setCell ⟨gb275,3,none⟩ (.int .i64 t291)).setCell ⟨gb275,4,none⟩ (.int .i64 t294)).heap[gb268]? = some (.cells #[.int .i64 0,.int .i64 0,.int .i64 0,.int .i64 0,.int .i64 0,.bool false] 33 (0,0))):=⟨by (with_reducible repeat (first|refine bDn ?_ _|refine bDr ?_|refine bAl ?_ _));refine blk_far ?_ NB268_275.out _;(with_reducible repeat (first|refine bDn ?_ _|refine bDr ?_|refine bAl ?_ _));refine blk_far ?_ NB268_275.out _;(with_reducible repeat (first|refine bDn ?_ _|refine bDr ?_|refine bAl ?_ _));refine blk_far ?_ NB268_275.out _;(with_reducible repeat (first|refine bDn ?_ _|refine bDr ?_|refine bAl ?_ _));refine blk_far ?_ NB268_275.out _;(with_reducible repeat (first|refine bDn ?_ _|refine bDr ?_|refine bAl ?_ _));refine blk_far ?_ NB268_289.out _;(with_reducible repeat (first|refine bDn ?_ _|refine bDr ?_|refine bAl ?_ _));refine blk_far ?_ NB268_289.out _;(with_reducible repeat (first|refine bDn ?_ _|refine bDr ?_|refine bAl ?_ _));exact BK268.out⟩
            have n3_ : Aside0 (((((((w96.setCell ⟨gb289,0,none⟩ (.int .i64 t286)).setCell ⟨gb289,1,none⟩ (.int .i64 t287)).setCell ⟨gb275,1,none⟩ (.int .i64 t286)).setCell ⟨gb275,2,none⟩ (.int .i64 t287)).setCell ⟨gb275,3,none⟩ (.int .i64 t291)).setCell ⟨gb275,4,none⟩ (.int .i64 t294)).heap[gb275]? = some (.cells #[.int .i64 x276000_2,.int .i64 t286,.int .i64 t287,.int .i64 t291,.int .i64 t294,.bool ((rdOf ByteArray.empty t269 0).toList == ([97,108,108,111,119] : List UInt8))] 33 (0,0))):=⟨by (with_reducible repeat (first|refine bDn ?_ _|refine bDr ?_|refine bAl ?_ _));refine blk_put (cs:=#[.int .i64 x276000_2,.int .i64 t286,.int .i64 t287,.int .i64 t291,.int .i64 0,.bool ((rdOf ByteArray.empty t269 0).toList == ([97,108,108,111,119] : List UInt8))]) ?_ 4 _ rfl;(with_reducible repeat (first|refine bDn ?_ _|refine bDr ?_|refine bAl ?_ _));refine blk_put (cs:=#[.int .i64 x276000_2,.int .i64 t286,.int .i64 t287,.int .i64 0,.int .i64 0,.bool ((rdOf ByteArray.empty t269 0).toList == ([97,108,108,111,119] : List UInt8))]) ?_ 3 _ rfl;(with_reducible repeat (first|refine bDn ?_ _|refine bDr ?_|refine bAl ?_ _));refine blk_put (cs:=#[.int .i64 x276000_2,.int .i64 t286,.int .i64 0,.int .i64 0,.int .i64 0,.bool ((rdOf ByteArray.empty t269 0).toList == ([97,108,108,111,119] : List UInt8))]) ?_ 2 _ rfl;(with_reducible repeat (first|refine bDn ?_ _|refine bDr ?_|refine bAl ?_ _));refine blk_put (cs:=#[.int .i64 x276000_2,.int .i64 0,.int .i64 0,.int .i64 0,.int .i64 0,.bool ((rdOf ByteArray.empty t269 0).toList == ([97,108,108,111,119] : List UInt8))]) ?_ 1 _ rfl;(with_reducible repeat (first|refine bDn ?_ _|refine bDr ?_|refine bAl ?_ _));refine blk_far ?_ NB275_289.out _;(with_reducible repeat (first|refine bDn ?_ _|refine bDr ?_|refine bAl ?_ _));refine blk_far ?_ NB275_289.out _;(with_reducible repeat (first|refine bDn ?_ _|refine bDr ?_|refine bAl ?_ _));exact BK275.out⟩
            have n4_ : Aside0 (((((((w96.setCell ⟨gb289,0,none⟩ (.int .i64 t286)).setCell ⟨gb289,1,none⟩ (.int .i64 t287)).setCell ⟨gb275,1,none⟩ (.int .i64 t286)).setCell ⟨gb275,2,none⟩ (.int .i64 t287)).setCell ⟨gb275,3,none⟩ (.int .i64 t291)).setCell ⟨gb275,4,none⟩ (.int .i64 t294)).heap[gb289]? = some (.cells #[.int .i64 t286,.int .i64 t287] 30 (0,0))):=⟨by (with_reducible repeat (first|refine bDn ?_ _|refine bDr ?_|refine bAl ?_ _));refine blk_far ?_ NB289_275.out _;(with_reducible repeat (first|refine bDn ?_ _|refine bDr ?_|refine bAl ?_ _));refine blk_far ?_ NB289_275.out _;(with_reducible repeat (first|refine bDn ?_ _|refine bDr ?_|refine bAl ?_ _));refine blk_far ?_ NB289_275.out _;(with_reducible repeat (first|refine bDn ?_ _|refine bDr ?_|refine bAl ?_ _));refine blk_far ?_ NB289_275.out _;(with_reducible repeat (first|refine bDn ?_ _|refine bDr ?_|refine bAl ?_ _));refine blk_put (cs:=#[.int .i64 t286,.int .i64 0]) ?_ 1 _ rfl;(with_reducible repeat (first|refine bDn ?_ _|refine bDr ?_|refine bAl ?_ _));refine blk_put (cs:=#[.int .i64 0,.int .i64 0]) ?_ 0 _ rfl;(with_reducible repeat (first|refine bDn ?_ _|refine bDr ?_|refine bAl ?_ _));exact BK289.out⟩
            have n5_ : Aside0 (Below w.heap.size w ((((((w96.setCell ⟨gb289,0,none⟩ (.int .i64 t286)).setCell ⟨gb289,1,none⟩ (.int .i64 t287)).setCell ⟨gb275,1,none⟩ (.int .i64 t286)).setCell ⟨gb275,2,none⟩ (.int .i64 t287)).setCell ⟨gb275,3,none⟩ (.int .i64 t291)).setCell ⟨gb275,4,none⟩ (.int .i64 t294))):=⟨by repeat (first|(with_reducible first|exact HB.out|apply bwA|apply bwN|apply bw1|refine below_set ?_ GE268.out|refine below_set ?_ GE275.out|refine below_set ?_ GE289.out)|exact HB.out)⟩
            (try clear HO_4)
            (try clear HO_6)
            (try clear BK268)
            (try clear BK275)
            (try clear BK289)
            (try clear HB)
            generalize ((((((w96.setCell ⟨gb289,0,none⟩ (.int .i64 t286)).setCell ⟨gb289,1,none⟩ (.int .i64 t287)).setCell ⟨gb275,1,none⟩ (.int .i64 t286)).setCell ⟨gb275,2,none⟩ (.int .i64 t287)).setCell ⟨gb275,3,none⟩ (.int .i64 t291)).setCell ⟨gb275,4,none⟩ (.int .i64 t294)) = w102 at n0_ n1_ n2_ n3_ n4_ n5_ ⊢
            have HO_4:=n0_
            have HO_6:=n1_
            have BK268:=n2_
            have BK275:=n3_
            have BK289:=n4_
            have HB:=n5_
            clear n0_ n1_ n2_ n3_ n4_ n5_
            (try (rw [drewN_self w102];generalize hq_ : World.drewN w102 _ = w102;have n0_ : Aside0 (Kd.R Kd.string 9 w102 w.heap.size (fun k_ => some k_ ≠ (.slice Ao94 t276.length co94 : Value).ownBlock) (.slice (some ad274) t269.length co16) t269):=⟨by rw [← hq_];exact (by (with_reducible repeat (first|apply Kd.R_alloc|apply Kd.R_drewN|apply Kd.R_drew));exact HO_4.out)⟩;have n1_ : Aside0 (Kd.R Kd.string 9 w102 w.heap.size (fun k_ => some k_ ≠ (.slice (some ad274) t269.length co16 : Value).ownBlock) (.slice Ao94 t276.length co94) t276):=⟨by rw [← hq_];exact (by (with_reducible repeat (first|apply Kd.R_alloc|apply Kd.R_drewN|apply Kd.R_drew));exact HO_6.out)⟩;have n2_ : Aside0 (w102.heap[gb268]? = some (.cells #[.int .i64 0,.int .i64 0,.int .i64 0,.int .i64 0,.int .i64 0,.bool false] 33 (0,0))):=⟨by rw [← hq_];exact (by (with_reducible repeat (first|refine bDn ?_ _|refine bDr ?_|refine bAl ?_ _));exact BK268.out)⟩;have n3_ : Aside0 (w102.heap[gb275]? = some (.cells #[.int .i64 x276000_2,.int .i64 t286,.int .i64 t287,.int .i64 t291,.int .i64 t294,.bool ((rdOf ByteArray.empty t269 0).toList == ([97,108,108,111,119] : List UInt8))] 33 (0,0))):=⟨by rw [← hq_];exact (by (with_reducible repeat (first|refine bDn ?_ _|refine bDr ?_|refine bAl ?_ _));exact BK275.out)⟩;have n4_ : Aside0 (w102.heap[gb289]? = some (.cells #[.int .i64 t286,.int .i64 t287] 30 (0,0))):=⟨by rw [← hq_];exact (by (with_reducible repeat (first|refine bDn ?_ _|refine bDr ?_|refine bAl ?_ _));exact BK289.out)⟩;have n5_ : Aside0 (Below w.heap.size w w102):=⟨by rw [← hq_];exact (by repeat (first|(with_reducible first|exact HB.out|apply bwA|apply bwN|apply bw1|refine below_set ?_ GE268.out|refine below_set ?_ GE275.out|refine below_set ?_ GE289.out)|exact HB.out))⟩;clear HO_4 HO_6 BK268 BK275 BK289 HB hq_;have HO_4:=n0_;have HO_6:=n1_;have BK268:=n2_;have BK275:=n3_;have BK289:=n4_;have HB:=n5_;clear n0_ n1_ n2_ n3_ n4_ n5_))
            have n0_:=aMk (Kd.R_drew HO_4.out)
            have n1_:=aMk (Kd.R_drew HO_6.out)
            have n2_:=aMk (bDr BK268.out)
            have n3_:=aMk (bDr BK275.out)
            have n4_:=aMk (bDr BK289.out)
            have n5_:=aMk (bw1 HB.out)
            clear HO_4
            clear HO_6
            clear BK268
            clear BK275
            clear BK289
            clear HB
            have HO_4:=n0_
            have HO_6:=n1_
            have BK268:=n2_
            have BK275:=n3_
            have BK289:=n4_
            have HB:=n5_
            clear n0_ n1_ n2_ n3_ n4_ n5_
            refine start_ (n:=14) (S:=fun w' => w'.cell? ⟨gb275,0,none⟩ = some (.int .i64 x276000_2) ∧ w'.cell? ⟨gb275,1,none⟩ = some (.int .i64 t286) ∧ w'.cell? ⟨gb275,2,none⟩ = some (.int .i64 t287) ∧ w'.cell? ⟨gb275,3,none⟩ = some (.int .i64 t291) ∧ w'.cell? ⟨gb275,4,none⟩ = some (.int .i64 t294) ∧ w'.cell? ⟨gb275,5,none⟩ = some (.bool ((rdOf ByteArray.empty t269 0).toList == ([97,108,108,111,119] : List UInt8)))) (ds:=[]) #[false,false,false,false,false,false,false,false,false,false,false,false,false,false] (by kernel_rfl) rfl rfl ⟨(bCe BK275.out 0).trans rfl,(bCe BK275.out 1).trans rfl,(bCe BK275.out 2).trans rfl,(bCe BK275.out 3).trans rfl,(bCe BK275.out 4).trans rfl,(bCe BK275.out 5).trans rfl⟩ (fun hHeld => ?_);refine with_tabW spec_l07Read.tab16 spec_l07Read.bits16 (fun HT_ HW_ => ?_)
            generalize w102.drew = w103 at HO_4 HO_6 BK268 BK275 BK289 HB hHeld ⊢
            refine pure_ (i:=1) (N:=some 85) (v:=?_) (a':=?_) #[false,true,false,false,false,false,false,false,false,false,false,false,false,false] rfl rfl (any_of HT_.out (by kernel_rfl)) (fun _ _ _ h => h) (Or.inl ⟨by rfl,?_⟩) ?_ ?_
            rotate_left
            ·intro w'
             go_simp
             with_reducible rfl
            rotate_left
            ·simp only [Act.put,List.setIfInBounds_toArray,List.set_cons_zero,List.set_cons_succ,i64_w,i32_w]
             rfl
            refine pure_ (i:=2) (N:=some 86) (v:=?_) (a':=?_) #[false,true,true,false,false,false,false,false,false,false,false,false,false,false] rfl rfl (any_of HT_.out (by kernel_rfl)) (fun _ _ _ h => h) (Or.inl ⟨by rfl,?_⟩) ?_ ?_
            rotate_left
            ·intro w'
             go_simp
             with_reducible rfl
            rotate_left
            ·simp only [Act.put,List.setIfInBounds_toArray,List.set_cons_zero,List.set_cons_succ,i64_w,i32_w]
             rfl
            refine pure_ (i:=3) (N:=some 87) (v:=undef) (a':=?_) #[false,true,true,true,false,false,false,false,false,false,false,false,false,false] rfl rfl (any_of HT_.out (by kernel_rfl)) (fun _ _ _ h => h) (Or.inr ⟨by rfl,rfl⟩) ?_ ?_
            rotate_left
            ·simp only [Act.put,List.setIfInBounds_toArray,List.set_cons_zero,List.set_cons_succ,i64_w,i32_w]
             rfl
            refine pure_ (i:=4) (N:=some 88) (v:=?_) (a':=?_) #[false,true,true,true,true,false,false,false,false,false,false,false,false,false] rfl rfl (any_of HT_.out (by kernel_rfl)) (fun _ _ _ h => h) (Or.inl ⟨by rfl,?_⟩) ?_ ?_
            rotate_left
            ·intro w'
             go_simp
             with_reducible rfl
            rotate_left
            ·simp only [Act.put,List.setIfInBounds_toArray,List.set_cons_zero,List.set_cons_succ,i64_w,i32_w]
             rfl
            refine pure_ (i:=5) (N:=some 89) (v:=?_) (a':=?_) #[false,true,true,true,true,true,false,false,false,false,false,false,false,false] rfl rfl (any_of HT_.out (by kernel_rfl)) (fun _ _ _ h => h) (Or.inl ⟨by rfl,?_⟩) ?_ ?_
            rotate_left
            ·intro w'
             go_simp
             with_reducible rfl
            rotate_left
            ·simp only [Act.put,List.setIfInBounds_toArray,List.set_cons_zero,List.set_cons_succ,i64_w,i32_w]
             rfl
            refine pure_ (i:=6) (N:=some 90) (v:=undef) (a':=?_) #[false,true,true,true,true,true,true,false,false,false,false,false,false,false] rfl rfl (any_of HT_.out (by kernel_rfl)) (fun _ _ _ h => h) (Or.inr ⟨by rfl,rfl⟩) ?_ ?_
            rotate_left
            ·simp only [Act.put,List.setIfInBounds_toArray,List.set_cons_zero,List.set_cons_succ,i64_w,i32_w]
             rfl
            refine pure_ (i:=7) (N:=some 91) (v:=?_) (a':=?_) #[false,true,true,true,true,true,true,true,false,false,false,false,false,false] rfl rfl (any_of HT_.out (by kernel_rfl)) (fun _ _ _ h => h) (Or.inl ⟨by rfl,?_⟩) ?_ ?_
            rotate_left
            ·intro w'
             go_simp
             with_reducible rfl
            rotate_left
            ·simp only [Act.put,List.setIfInBounds_toArray,List.set_cons_zero,List.set_cons_succ,i64_w,i32_w]
             rfl
            refine pure_ (i:=8) (N:=some 92) (v:=?_) (a':=?_) #[false,true,true,true,true,true,true,true,true,false,false,false,false,false] rfl rfl (any_of HT_.out (by kernel_rfl)) (fun _ _ _ h => h) (Or.inl ⟨by rfl,?_⟩) ?_ ?_
            rotate_left
            ·intro w'
             go_simp
             with_reducible rfl
            rotate_left
            ·simp only [Act.put,List.setIfInBounds_toArray,List.set_cons_zero,List.set_cons_succ,i64_w,i32_w]
             rfl
            refine pure_ (i:=9) (N:=some 93) (v:=undef) (a':=?_) #[false,true,true,true,true,true,true,true,true,true,false,false,false,false] rfl rfl (any_of HT_.out (by kernel_rfl)) (fun _ _ _ h => h) (Or.inr ⟨by rfl,rfl⟩) ?_ ?_
            rotate_left
            ·simp only [Act.put,List.setIfInBounds_toArray,List.set_cons_zero,List.set_cons_succ,i64_w,i32_w]
             rfl
            refine pure_ (i:=10) (N:=some 94) (v:=undef) (a':=?_) #[false,true,true,true,true,true,true,true,true,true,true,false,false,false] rfl rfl (any_of HT_.out (by kernel_rfl)) (fun _ _ _ h => h) (Or.inr ⟨by rfl,rfl⟩) ?_ ?_
            rotate_left
            ·simp only [Act.put,List.setIfInBounds_toArray,List.set_cons_zero,List.set_cons_succ,i64_w,i32_w]
             rfl
            refine pure_ (i:=11) (N:=some 95) (v:=?_) (a':=?_) #[false,true,true,true,true,true,true,true,true,true,true,true,false,false] rfl rfl (any_of HT_.out (by kernel_rfl)) (fun _ _ _ h => h) (Or.inl ⟨by rfl,?_⟩) ?_ ?_
            rotate_left
            ·intro w'
             go_simp
             with_reducible rfl
            rotate_left
            ·simp only [Act.put,List.setIfInBounds_toArray,List.set_cons_zero,List.set_cons_succ,i64_w,i32_w]
             rfl
            refine take_ (i:=0) (N:=some 84) (v:=?_) (a':=?_) #[true,true,true,true,true,true,true,true,true,true,true,true,false,false] rfl rfl (take_ofW HT_.out HW_.out (by kernel_rfl)) (fun _ _ _ h => h) (Or.inl ⟨by rfl,?_⟩) hHeld ?_ ?_
            rotate_left
            ·rintro w' ⟨s0,s1,s2,s3,s4,s5⟩
             go_simp
             with_reducible rfl
            rotate_left
            ·simp only [Act.put,List.setIfInBounds_toArray,List.set_cons_zero,List.set_cons_succ,i64_w,i32_w]
             rfl
            refine one_ (i:=12) (N:=none) #[true,true,true,true,true,true,true,true,true,true,true,true,true,false] rfl rfl (one_of HT_.out (by kernel_rfl)) (by decide) (fun K hK => ?_)
            have hs104 : w103.cell? ⟨gb268,0,none⟩ = some (.int .i64 0):=(bCe BK268.out 0).trans rfl
            have hfs104:=bFr BK268.out 0
            have hns104_1:=NB275_268.out
            have hns104_2:=NB289_268.out
            have hms104_1:=NB268_275.out
            have hms104_2:=NB268_289.out
            have hs105 : w103.cell? ⟨gb268,1,none⟩ = some (.int .i64 0):=(bCe BK268.out 1).trans rfl
            have hfs105:=bFr BK268.out 1
            have hns105_1:=NB275_268.out
            have hns105_2:=NB289_268.out
            have hms105_1:=NB268_275.out
            have hms105_2:=NB268_289.out
            have hs106 : w103.cell? ⟨gb268,2,none⟩ = some (.int .i64 0):=(bCe BK268.out 2).trans rfl
            have hfs106:=bFr BK268.out 2
            have hns106_1:=NB275_268.out
            have hns106_2:=NB289_268.out
            have hms106_1:=NB268_275.out
            have hms106_2:=NB268_289.out
            have hs107 : w103.cell? ⟨gb268,3,none⟩ = some (.int .i64 0):=(bCe BK268.out 3).trans rfl
            have hfs107:=bFr BK268.out 3
            have hns107_1:=NB275_268.out
            have hns107_2:=NB289_268.out
            have hms107_1:=NB268_275.out
            have hms107_2:=NB268_289.out
            have hs108 : w103.cell? ⟨gb268,4,none⟩ = some (.int .i64 0):=(bCe BK268.out 4).trans rfl
            have hfs108:=bFr BK268.out 4
            have hns108_1:=NB275_268.out
            have hns108_2:=NB289_268.out
            have hms108_1:=NB268_275.out
            have hms108_2:=NB268_289.out
            have hs109 : w103.cell? ⟨gb268,5,none⟩ = some (.bool false):=(bCe BK268.out 5).trans rfl
            have hfs109:=bFr BK268.out 5
            have hns109_1:=NB275_268.out
            have hns109_2:=NB289_268.out
            have hms109_1:=NB268_275.out
            have hms109_2:=NB268_289.out
            refine skip_ (w1:=?_) (by rfl) rfl ?_ ?_
            rotate_left
            ·go_simp
             rfl
            refine hK.out _ _ ⟨((cell_far (p:=⟨gb268,_,none⟩) NB275_268.out _).trans (((cell_far (p:=⟨gb268,_,none⟩) NB275_268.out _).trans (((cell_far (p:=⟨gb268,_,none⟩) NB275_268.out _).trans (((cell_far (p:=⟨gb268,_,none⟩) NB275_268.out _).trans (((cell_far (p:=⟨gb268,_,none⟩) NB275_268.out _).trans (((cell_far (p:=⟨gb268,_,none⟩) NB275_268.out _).trans (hHeld.1)))))))))))),((cell_far (p:=⟨gb268,_,none⟩) NB275_268.out _).trans (((cell_far (p:=⟨gb268,_,none⟩) NB275_268.out _).trans (((cell_far (p:=⟨gb268,_,none⟩) NB275_268.out _).trans (((cell_far (p:=⟨gb268,_,none⟩) NB275_268.out _).trans (((cell_far (p:=⟨gb268,_,none⟩) NB275_268.out _).trans (((cell_far (p:=⟨gb268,_,none⟩) NB275_268.out _).trans (hHeld.2.1)))))))))))),((cell_far (p:=⟨gb268,_,none⟩) NB275_268.out _).trans (((cell_far (p:=⟨gb268,_,none⟩) NB275_268.out _).trans (((cell_far (p:=⟨gb268,_,none⟩) NB275_268.out _).trans (((cell_far (p:=⟨gb268,_,none⟩) NB275_268.out _).trans (((cell_far (p:=⟨gb268,_,none⟩) NB275_268.out _).trans (((cell_far (p:=⟨gb268,_,none⟩) NB275_268.out _).trans (hHeld.2.2.1)))))))))))),((cell_far (p:=⟨gb268,_,none⟩) NB275_268.out _).trans (((cell_far (p:=⟨gb268,_,none⟩) NB275_268.out _).trans (((cell_far (p:=⟨gb268,_,none⟩) NB275_268.out _).trans (((cell_far (p:=⟨gb268,_,none⟩) NB275_268.out _).trans (((cell_far (p:=⟨gb268,_,none⟩) NB275_268.out _).trans (((cell_far (p:=⟨gb268,_,none⟩) NB275_268.out _).trans (hHeld.2.2.2.1)))))))))))),((cell_far (p:=⟨gb268,_,none⟩) NB275_268.out _).trans (((cell_far (p:=⟨gb268,_,none⟩) NB275_268.out _).trans (((cell_far (p:=⟨gb268,_,none⟩) NB275_268.out _).trans (((cell_far (p:=⟨gb268,_,none⟩) NB275_268.out _).trans (((cell_far (p:=⟨gb268,_,none⟩) NB275_268.out _).trans (((cell_far (p:=⟨gb268,_,none⟩) NB275_268.out _).trans (hHeld.2.2.2.2.1)))))))))))),((cell_far (p:=⟨gb268,_,none⟩) NB275_268.out _).trans (((cell_far (p:=⟨gb268,_,none⟩) NB275_268.out _).trans (((cell_far (p:=⟨gb268,_,none⟩) NB275_268.out _).trans (((cell_far (p:=⟨gb268,_,none⟩) NB275_268.out _).trans (((cell_far (p:=⟨gb268,_,none⟩) NB275_268.out _).trans (((cell_far (p:=⟨gb268,_,none⟩) NB275_268.out _).trans (hHeld.2.2.2.2.2))))))))))))⟩ (fun hHeld => ?_)
            clear hK K
            refine pure_ (i:=13) (N:=some 3) (v:=?_) (a':=?_) #[true,true,true,true,true,true,true,true,true,true,true,true,true,true] rfl rfl (any_of HT_.out (by kernel_rfl)) (fun _ _ _ h => h) (Or.inl ⟨by rfl,?_⟩) ?_ ?_
            rotate_left
            ·intro w'
             go_simp
             with_reducible rfl
            rotate_left
            ·simp only [Act.put,List.setIfInBounds_toArray,List.set_cons_zero,List.set_cons_succ,i64_w,i32_w]
             rfl
            refine done_ (done_of HT_.out (by kernel_rfl)) ?_
            try go_wp2
            refine bodyPost_ret (results_ct rfl _ _ gb268 33 #[.int .i64 x276000_2,.int .i64 t286,.int .i64 t287,.int .i64 t291,.int .i64 t294,.bool ((rdOf ByteArray.empty t269 0).toList == ([97,108,108,111,119] : List UInt8))] (0,0) _ rfl (by (with_reducible repeat (first|refine bDn ?_ _|refine bDr ?_|refine bAl ?_ _));refine blk_put (cs:=#[.int .i64 x276000_2,.int .i64 t286,.int .i64 t287,.int .i64 t291,.int .i64 t294,.bool false]) ?_ 5 _ rfl;(with_reducible repeat (first|refine bDn ?_ _|refine bDr ?_|refine bAl ?_ _));refine blk_put (cs:=#[.int .i64 x276000_2,.int .i64 t286,.int .i64 t287,.int .i64 t291,.int .i64 0,.bool false]) ?_ 4 _ rfl;(with_reducible repeat (first|refine bDn ?_ _|refine bDr ?_|refine bAl ?_ _));refine blk_put (cs:=#[.int .i64 x276000_2,.int .i64 t286,.int .i64 t287,.int .i64 0,.int .i64 0,.bool false]) ?_ 3 _ rfl;(with_reducible repeat (first|refine bDn ?_ _|refine bDr ?_|refine bAl ?_ _));refine blk_put (cs:=#[.int .i64 x276000_2,.int .i64 t286,.int .i64 0,.int .i64 0,.int .i64 0,.bool false]) ?_ 2 _ rfl;(with_reducible repeat (first|refine bDn ?_ _|refine bDr ?_|refine bAl ?_ _));refine blk_put (cs:=#[.int .i64 x276000_2,.int .i64 0,.int .i64 0,.int .i64 0,.int .i64 0,.bool false]) ?_ 1 _ rfl;(with_reducible repeat (first|refine bDn ?_ _|refine bDr ?_|refine bAl ?_ _));refine blk_put (cs:=#[.int .i64 0,.int .i64 0,.int .i64 0,.int .i64 0,.int .i64 0,.bool false]) ?_ 0 _ rfl;(with_reducible repeat (first|refine bDn ?_ _|refine bDr ?_|refine bAl ?_ _));exact BK268.out) Tryd.underlying33 rfl (by kernel_rfl)) rfl ?_
            exact ⟨by first | rfl|(simp [errW_none,errW_some] <;> rfl)|(simp [*,errW_none,errW_some] <;> rfl),by repeat (first|(with_reducible first|exact HB.out|apply bwA|apply bwN|apply bw1|refine below_set ?_ GE268.out|refine below_set ?_ GE275.out|refine below_set ?_ GE289.out)|exact HB.out)⟩
          ·rw [if_neg c39] at H
           exact absurd H (by simp)
         ·rw [if_neg c37] at H
          exact absurd H (by simp)
        ·rw [if_neg c35] at H
         exact absurd H (by simp)
    ·rw [if_neg c14] at H
     exact absurd H (by simp)
end
section
/-! ### spec_ReadRule: function 8 -/
def spec_ReadRule.f (k : Nat) (a0 : ByteArray) : Option (Int × Int × Int × Int × Int × Bool × Int):=if (a0.size : Int) > 65536 then (some (0,0,0,0,0,false,2)) else ((spec_l07Read.f k a0).bind fun bt298 => (if bt298.2.2.2.2.2.2 = true then (some (bt298.1,bt298.2.1,bt298.2.2.1,bt298.2.2.2.1,bt298.2.2.2.2.1,bt298.2.2.2.2.2.1,0)) else (some (0,0,0,0,0,false,3))))
theorem spec_ReadRule.mono : ∀ a0 k,LeO (spec_ReadRule.f k a0) (spec_ReadRule.f (k + 1) a0):=by
 intro a0 k
 unfold spec_ReadRule.f
 repeat' first
   | (with_reducible exact spec_l07Read.mono ..)
   | (with_reducible exact LeO.refl _)
   | (with_reducible exact LeO.none _)
   | (with_reducible refine LeO.ite ?_ ?_)
   | (with_reducible refine LeO.bind ?_ (fun _ => ?_))
   | exact spec_l07Read.mono ..
   | exact LeO.none _
   | refine LeO.ite ?_ ?_
   | refine LeO.bind ?_ (fun _ => ?_)
set_option maxHeartbeats 8000000 in
set_option maxRecDepth 100000 in
theorem spec_ReadRule.calls (k : Nat) (a0 : ByteArray) (r1 : Int) (r2 : Int) (r3 : Int) (r4 : Int) (r5 : Int) (r6 : Bool) (r7 : Int) (w : World) (h : spec_ReadRule.f k a0 = some (r1,r2,r3,r4,r5,r6,r7)) :
  Calls Tryd.prog 8 #[.string a0] w fun e w' => e = .returned (.tuple #[.agg #[.int .i64 r1,.int .i64 r2,.int .i64 r3,.int .i64 r4,.int .i64 r5,.bool r6],.int .i64 r7]) ∧ Below w.heap.size w w':=by
 have hu33:=Tryd.underlying33
 have HB:=aMk (Below.refl w.heap.size w)
 have H : (if (a0.size : Int) > 65536 then (some (0,0,0,0,0,false,2)) else ((spec_l07Read.f k a0).bind fun bt298 => (if bt298.2.2.2.2.2.2 = true then (some (bt298.1,bt298.2.1,bt298.2.2.1,bt298.2.2.2.1,bt298.2.2.2.2.1,bt298.2.2.2.2.2.1,0)) else (some (0,0,0,0,0,false,3))))) = some (r1,r2,r3,r4,r5,r6,r7):=h
 clear h
 by_cases c2 : (a0.size : Int) > 65536
 ·rw [if_pos c2] at H
  have c2b0 : decide (65536 < (a0.size : Int)) = true:=decide_eq_true c2
  have c2b1 : decide (65536 < a0.size) = true:=decide_eq_true (by omega)
  clear c2
  simp only [Option.some.injEq,Prod.mk.injEq] at H
  obtain ⟨rfl,rfl,rfl,rfl,rfl,rfl,rfl⟩:=H
  go_enter Tryd.func8,Tryd.ntmps8
  go_wp2_with (first|((with_reducible refine gate_dst (N:=2) rfl ?_);refine box_event ?hg (N:=2) ?hd (cs:=#[.int .i64 0,.int .i64 0,.int .i64 0,.int .i64 0,.int .i64 0,.bool false]) (t:=33) ?hr ?_;(case hd => rfl);(case hg => rfl);(case hr => first|(go_simp;done)|(go_simp;rfl));intro gb297 hg w3 hbox hb;have n0_:=aMk (below_step (by repeat first|exact HB.out|apply bwA|apply bwN|apply bw1) hb);have n1_:=aMk (hbox);have n2_:=aMk ((by rw [hg];exact (below_size (by repeat first|exact HB.out|apply bwA|apply bwN|apply bw1)) : w.heap.size ≤ gb297));have n3_:=aMk ((by rw [hg];exact (below_size (by repeat first|exact HB.out|apply bwA|apply bwN|apply bw1)) : w.heap.size ≤ gb297));clear HB;have HB:=n0_;have BK297:=n1_;have GW297:=n2_;have GE297:=n3_;clear n0_ n1_ n2_ n3_;clear hb hbox hg;have hcz4_0 : w3.cell? ⟨gb297,0,none⟩ = some (.int .i64 0):=(bCe BK297.out 0).trans rfl;have hcz4_1 : w3.cell? ⟨gb297,1,none⟩ = some (.int .i64 0):=(bCe BK297.out 1).trans rfl;have hcz4_2 : w3.cell? ⟨gb297,2,none⟩ = some (.int .i64 0):=(bCe BK297.out 2).trans rfl;have hcz4_3 : w3.cell? ⟨gb297,3,none⟩ = some (.int .i64 0):=(bCe BK297.out 3).trans rfl;have hcz4_4 : w3.cell? ⟨gb297,4,none⟩ = some (.int .i64 0):=(bCe BK297.out 4).trans rfl;have hcz4_5 : w3.cell? ⟨gb297,5,none⟩ = some (.bool false):=(bCe BK297.out 5).trans rfl;have hfz4_0:=bFr BK297.out 0;have hfz4_1:=bFr BK297.out 1;have hfz4_2:=bFr BK297.out 2;have hfz4_3:=bFr BK297.out 3;have hfz4_4:=bFr BK297.out 4;have hfz4_5:=bFr BK297.out 5))
  refine bodyPost_ret (results_ct rfl _ _ gb297 33 #[.int .i64 0,.int .i64 0,.int .i64 0,.int .i64 0,.int .i64 0,.bool false] (0,0) _ rfl (by (with_reducible repeat (first|refine bDn ?_ _|refine bDr ?_|refine bAl ?_ _));refine blk_put (cs:=#[.int .i64 0,.int .i64 0,.int .i64 0,.int .i64 0,.int .i64 0,.bool false]) ?_ 5 _ rfl;(with_reducible repeat (first|refine bDn ?_ _|refine bDr ?_|refine bAl ?_ _));refine blk_put (cs:=#[.int .i64 0,.int .i64 0,.int .i64 0,.int .i64 0,.int .i64 0,.bool false]) ?_ 4 _ rfl;(with_reducible repeat (first|refine bDn ?_ _|refine bDr ?_|refine bAl ?_ _));refine blk_put (cs:=#[.int .i64 0,.int .i64 0,.int .i64 0,.int .i64 0,.int .i64 0,.bool false]) ?_ 3 _ rfl;(with_reducible repeat (first|refine bDn ?_ _|refine bDr ?_|refine bAl ?_ _));refine blk_put (cs:=#[.int .i64 0,.int .i64 0,.int .i64 0,.int .i64 0,.int .i64 0,.bool false]) ?_ 2 _ rfl;(with_reducible repeat (first|refine bDn ?_ _|refine bDr ?_|refine bAl ?_ _));refine blk_put (cs:=#[.int .i64 0,.int .i64 0,.int .i64 0,.int .i64 0,.int .i64 0,.bool false]) ?_ 1 _ rfl;(with_reducible repeat (first|refine bDn ?_ _|refine bDr ?_|refine bAl ?_ _));refine blk_put (cs:=#[.int .i64 0,.int .i64 0,.int .i64 0,.int .i64 0,.int .i64 0,.bool false]) ?_ 0 _ rfl;(with_reducible repeat (first|refine bDn ?_ _|refine bDr ?_|refine bAl ?_ _));exact BK297.out) Tryd.underlying33 rfl (by kernel_rfl)) rfl ?_
  exact ⟨by first | rfl|(simp [errW_none,errW_some] <;> rfl)|(simp [*,errW_none,errW_some] <;> rfl),by repeat (first|(with_reducible first|exact HB.out|apply bwA|apply bwN|apply bw1|refine below_set ?_ GE297.out)|exact HB.out)⟩
 ·rw [if_neg c2] at H
  have c2b0 : decide (65536 < (a0.size : Int)) = false:=decide_eq_false c2
  have c2b1 : decide (65536 < a0.size) = false:=decide_eq_false (by omega)
  clear c2
  replace H:=Option.bind_eq_some_iff.mp H
  obtain ⟨⟨t298,t299,t300,t301,t302,t303,t304⟩,A50,H⟩:=H
  replace H : (if t304 = true then (some (t298,t299,t300,t301,t302,t303,0)) else (some (0,0,0,0,0,false,3))) = some (r1,r2,r3,r4,r5,r6,r7):=H
  have A5:=aMk A50
  clear A50
  by_cases c6 : t304 = true
  ·subst c6
   have H1 : (some (t298,t299,t300,t301,t302,t303,0)) = some (r1,r2,r3,r4,r5,r6,r7):=by rw [if_pos rfl] at H;exact H
   clear H
   have H:=H1
   clear H1
   simp only [Option.some.injEq,Prod.mk.injEq] at H
   obtain ⟨rfl,rfl,rfl,rfl,rfl,rfl,rfl⟩:=H
   go_enter Tryd.func8,Tryd.ntmps8
   go_wp2_with (first|((with_reducible refine gate_dst (N:=2) rfl ?_);refine box_event ?hg (N:=2) ?hd (cs:=#[.int .i64 0,.int .i64 0,.int .i64 0,.int .i64 0,.int .i64 0,.bool false]) (t:=33) ?hr ?_;(case hd => rfl);(case hg => rfl);(case hr => first|(go_simp;done)|(go_simp;rfl));intro gb297 hg w7 hbox hb;have n0_:=aMk (below_step (by repeat first|exact HB.out|apply bwA|apply bwN|apply bw1) hb);have n1_:=aMk (hbox);have n2_:=aMk ((by rw [hg];exact (below_size (by repeat first|exact HB.out|apply bwA|apply bwN|apply bw1)) : w.heap.size ≤ gb297));have n3_:=aMk ((by rw [hg];exact (below_size (by repeat first|exact HB.out|apply bwA|apply bwN|apply bw1)) : w.heap.size ≤ gb297));clear HB;have HB:=n0_;have BK297:=n1_;have GW297:=n2_;have GE297:=n3_;clear n0_ n1_ n2_ n3_;clear hb hbox hg)|((with_reducible refine gate_callee (f:=23) rfl ?_);refine goesL_ (some 12) rfl rfl Tryd.func23 (by kernel_rfl) rfl #[.string a0] rfl (by (try simp only [List.map_toArray,List.map_cons,List.map_nil]);first | done | rfl|(simp only [List.length_drop,List.length_take];rfl)) ?_;(with_reducible refine (spec_l07Read.calls k a0 t298 t299 t300 t301 t302 t303 true _ A5.out).mono ?_);rintro e w8 ⟨rfl,hb⟩;refine ⟨_,rfl,?_⟩;have n0_:=aMk (blk_below (g:=gb297) (o:=.cells #[.int .i64 0,.int .i64 0,.int .i64 0,.int .i64 0,.int .i64 0,.bool false] 33 (0,0)) (by (with_reducible repeat (first|refine bDn ?_ _|refine bDr ?_|refine bAl ?_ _));exact BK297.out) hb);have n1_:=aMk (below_step (by repeat (first|(with_reducible first|exact HB.out|apply bwA|apply bwN|apply bw1|refine below_set ?_ GE297.out)|exact HB.out)) hb);clear BK297;clear HB;have BK297:=n0_;have HB:=n1_;clear n0_ n1_;(try clear hb);(try clear hb2);(try clear hk);(try clear hi))|((with_reducible refine gate_dst (N:=4) rfl ?_);refine box_event ?hg (N:=4) ?hd (cs:=#[.int .i64 0,.int .i64 0,.int .i64 0,.int .i64 0,.int .i64 0,.bool false]) (t:=33) ?hr ?_;(case hd => rfl);(case hg => rfl);(case hr => first|(go_simp;done)|(go_simp;rfl));intro gb305 hg w9 hbox hb;have n0_:=aMk (blk_below (g:=gb297) (o:=.cells #[.int .i64 0,.int .i64 0,.int .i64 0,.int .i64 0,.int .i64 0,.bool false] 33 (0,0)) (by (with_reducible repeat (first|refine bDn ?_ _|refine bDr ?_|refine bAl ?_ _));exact BK297.out) hb);have n1_:=aMk (below_step (by repeat (first|(with_reducible first|exact HB.out|apply bwA|apply bwN|apply bw1|refine below_set ?_ GE297.out)|exact HB.out)) hb);have n2_:=aMk (hbox);have n3_:=aMk ((by rw [hg];exact (below_size (by repeat (first|(with_reducible first|exact HB.out|apply bwA|apply bwN|apply bw1|refine below_set ?_ GE297.out)|exact HB.out))) : w.heap.size ≤ gb305));have n4_:=aMk ((by rw [hg];exact (below_size (by repeat (first|(with_reducible first|exact HB.out|apply bwA|apply bwN|apply bw1|refine below_set ?_ GE297.out)|exact HB.out))) : w.heap.size ≤ gb305));have n5_:=aMk ((by rw [hg];exact Nat.ne_of_lt (blk_lt (g:=gb297) (o:=.cells #[.int .i64 0,.int .i64 0,.int .i64 0,.int .i64 0,.int .i64 0,.bool false] 33 (0,0)) (by (with_reducible repeat (first|refine bDn ?_ _|refine bDr ?_|refine bAl ?_ _));exact BK297.out)) : gb297 ≠ gb305));have n6_:=aMk ((by rw [hg];exact Nat.ne_of_gt (blk_lt (g:=gb297) (o:=.cells #[.int .i64 0,.int .i64 0,.int .i64 0,.int .i64 0,.int .i64 0,.bool false] 33 (0,0)) (by (with_reducible repeat (first|refine bDn ?_ _|refine bDr ?_|refine bAl ?_ _));exact BK297.out)) : gb305 ≠ gb297));clear BK297;clear HB;have BK297:=n0_;have HB:=n1_;have BK305:=n2_;have GW305:=n3_;have GE305:=n4_;have NB297_305:=n5_;have NB305_297:=n6_;clear n0_ n1_ n2_ n3_ n4_ n5_ n6_;clear hb hbox hg;have hnb10:=NB305_297.out;have hnc10:=NB297_305.out;have hcz11_0 : w9.cell? ⟨gb305,0,none⟩ = some (.int .i64 0):=(bCe BK305.out 0).trans rfl;have hcz11_1 : w9.cell? ⟨gb305,1,none⟩ = some (.int .i64 0):=(bCe BK305.out 1).trans rfl;have hcz11_2 : w9.cell? ⟨gb305,2,none⟩ = some (.int .i64 0):=(bCe BK305.out 2).trans rfl;have hcz11_3 : w9.cell? ⟨gb305,3,none⟩ = some (.int .i64 0):=(bCe BK305.out 3).trans rfl;have hcz11_4 : w9.cell? ⟨gb305,4,none⟩ = some (.int .i64 0):=(bCe BK305.out 4).trans rfl;have hcz11_5 : w9.cell? ⟨gb305,5,none⟩ = some (.bool false):=(bCe BK305.out 5).trans rfl;have hfz11_0:=bFr BK305.out 0;have hfz11_1:=bFr BK305.out 1;have hfz11_2:=bFr BK305.out 2;have hfz11_3:=bFr BK305.out 3;have hfz11_4:=bFr BK305.out 4;have hfz11_5:=bFr BK305.out 5;have hcz12_0 : w9.cell? ⟨gb297,0,none⟩ = some (.int .i64 0):=(bCe BK297.out 0).trans rfl;have hcz12_1 : w9.cell? ⟨gb297,1,none⟩ = some (.int .i64 0):=(bCe BK297.out 1).trans rfl;have hcz12_2 : w9.cell? ⟨gb297,2,none⟩ = some (.int .i64 0):=(bCe BK297.out 2).trans rfl;have hcz12_3 : w9.cell? ⟨gb297,3,none⟩ = some (.int .i64 0):=(bCe BK297.out 3).trans rfl;have hcz12_4 : w9.cell? ⟨gb297,4,none⟩ = some (.int .i64 0):=(bCe BK297.out 4).trans rfl;have hcz12_5 : w9.cell? ⟨gb297,5,none⟩ = some (.bool false):=(bCe BK297.out 5).trans rfl;have hfz12_0:=bFr BK297.out 0;have hfz12_1:=bFr BK297.out 1;have hfz12_2:=bFr BK297.out 2;have hfz12_3:=bFr BK297.out 3;have hfz12_4:=bFr BK297.out 4;have hfz12_5:=bFr BK297.out 5))
   refine bodyPost_ret (results_ct rfl _ _ gb297 33 #[.int .i64 t298,.int .i64 t299,.int .i64 t300,.int .i64 t301,.int .i64 t302,.bool t303] (0,0) _ rfl (by (with_reducible repeat (first|refine bDn ?_ _|refine bDr ?_|refine bAl ?_ _));refine blk_put (cs:=#[.int .i64 t298,.int .i64 t299,.int .i64 t300,.int .i64 t301,.int .i64 t302,.bool false]) ?_ 5 _ rfl;(with_reducible repeat (first|refine bDn ?_ _|refine bDr ?_|refine bAl ?_ _));refine blk_put (cs:=#[.int .i64 t298,.int .i64 t299,.int .i64 t300,.int .i64 t301,.int .i64 0,.bool false]) ?_ 4 _ rfl;(with_reducible repeat (first|refine bDn ?_ _|refine bDr ?_|refine bAl ?_ _));refine blk_put (cs:=#[.int .i64 t298,.int .i64 t299,.int .i64 t300,.int .i64 0,.int .i64 0,.bool false]) ?_ 3 _ rfl;(with_reducible repeat (first|refine bDn ?_ _|refine bDr ?_|refine bAl ?_ _));refine blk_put (cs:=#[.int .i64 t298,.int .i64 t299,.int .i64 0,.int .i64 0,.int .i64 0,.bool false]) ?_ 2 _ rfl;(with_reducible repeat (first|refine bDn ?_ _|refine bDr ?_|refine bAl ?_ _));refine blk_put (cs:=#[.int .i64 t298,.int .i64 0,.int .i64 0,.int .i64 0,.int .i64 0,.bool false]) ?_ 1 _ rfl;(with_reducible repeat (first|refine bDn ?_ _|refine bDr ?_|refine bAl ?_ _));refine blk_put (cs:=#[.int .i64 0,.int .i64 0,.int .i64 0,.int .i64 0,.int .i64 0,.bool false]) ?_ 0 _ rfl;(with_reducible repeat (first|refine bDn ?_ _|refine bDr ?_|refine bAl ?_ _));refine blk_far ?_ NB297_305.out _;(with_reducible repeat (first|refine bDn ?_ _|refine bDr ?_|refine bAl ?_ _));refine blk_far ?_ NB297_305.out _;(with_reducible repeat (first|refine bDn ?_ _|refine bDr ?_|refine bAl ?_ _));refine blk_far ?_ NB297_305.out _;(with_reducible repeat (first|refine bDn ?_ _|refine bDr ?_|refine bAl ?_ _));refine blk_far ?_ NB297_305.out _;(with_reducible repeat (first|refine bDn ?_ _|refine bDr ?_|refine bAl ?_ _));refine blk_far ?_ NB297_305.out _;(with_reducible repeat (first|refine bDn ?_ _|refine bDr ?_|refine bAl ?_ _));refine blk_far ?_ NB297_305.out _;(with_reducible repeat (first|refine bDn ?_ _|refine bDr ?_|refine bAl ?_ _));exact BK297.out) Tryd.underlying33 rfl (by kernel_rfl)) rfl ?_
   exact ⟨by first | rfl|(simp [errW_none,errW_some] <;> rfl)|(simp [*,errW_none,errW_some] <;> rfl),by repeat (first|(with_reducible first|exact HB.out|apply bwA|apply bwN|apply bw1|refine below_set ?_ GE297.out|refine below_set ?_ GE305.out)|exact HB.out)⟩
  ·replace c6:=Bool.eq_false_iff.mpr c6
   subst c6
   have H1 : (some (0,0,0,0,0,false,3)) = some (r1,r2,r3,r4,r5,r6,r7):=by rw [if_neg (show ¬ (false = true) by decide)] at H;exact H
   clear H
   have H:=H1
   clear H1
   simp only [Option.some.injEq,Prod.mk.injEq] at H
   obtain ⟨rfl,rfl,rfl,rfl,rfl,rfl,rfl⟩:=H
   go_enter Tryd.func8,Tryd.ntmps8
   go_wp2_with (first|((with_reducible refine gate_dst (N:=2) rfl ?_);refine box_event ?hg (N:=2) ?hd (cs:=#[.int .i64 0,.int .i64 0,.int .i64 0,.int .i64 0,.int .i64 0,.bool false]) (t:=33) ?hr ?_;(case hd => rfl);(case hg => rfl);(case hr => first|(go_simp;done)|(go_simp;rfl));intro gb297 hg w13 hbox hb;have n0_:=aMk (below_step (by repeat first|exact HB.out|apply bwA|apply bwN|apply bw1) hb);have n1_:=aMk (hbox);have n2_:=aMk ((by rw [hg];exact (below_size (by repeat first|exact HB.out|apply bwA|apply bwN|apply bw1)) : w.heap.size ≤ gb297));have n3_:=aMk ((by rw [hg];exact (below_size (by repeat first|exact HB.out|apply bwA|apply bwN|apply bw1)) : w.heap.size ≤ gb297));clear HB;have HB:=n0_;have BK297:=n1_;have GW297:=n2_;have GE297:=n3_;clear n0_ n1_ n2_ n3_;clear hb hbox hg)|((with_reducible refine gate_callee (f:=23) rfl ?_);refine goesL_ (some 12) rfl rfl Tryd.func23 (by kernel_rfl) rfl #[.string a0] rfl (by (try simp only [List.map_toArray,List.map_cons,List.map_nil]);first | done | rfl|(simp only [List.length_drop,List.length_take];rfl)) ?_;(with_reducible refine (spec_l07Read.calls k a0 t298 t299 t300 t301 t302 t303 false _ A5.out).mono ?_);rintro e w14 ⟨rfl,hb⟩;refine ⟨_,rfl,?_⟩;have n0_:=aMk (blk_below (g:=gb297) (o:=.cells #[.int .i64 0,.int .i64 0,.int .i64 0,.int .i64 0,.int .i64 0,.bool false] 33 (0,0)) (by (with_reducible repeat (first|refine bDn ?_ _|refine bDr ?_|refine bAl ?_ _));exact BK297.out) hb);have n1_:=aMk (below_step (by repeat (first|(with_reducible first|exact HB.out|apply bwA|apply bwN|apply bw1|refine below_set ?_ GE297.out)|exact HB.out)) hb);clear BK297;clear HB;have BK297:=n0_;have HB:=n1_;clear n0_ n1_;(try clear hb);(try clear hb2);(try clear hk);(try clear hi))|((with_reducible refine gate_dst (N:=4) rfl ?_);refine box_event ?hg (N:=4) ?hd (cs:=#[.int .i64 0,.int .i64 0,.int .i64 0,.int .i64 0,.int .i64 0,.bool false]) (t:=33) ?hr ?_;(case hd => rfl);(case hg => rfl);(case hr => first|(go_simp;done)|(go_simp;rfl));intro gb305 hg w15 hbox hb;have n0_:=aMk (blk_below (g:=gb297) (o:=.cells #[.int .i64 0,.int .i64 0,.int .i64 0,.int .i64 0,.int .i64 0,.bool false] 33 (0,0)) (by (with_reducible repeat (first|refine bDn ?_ _|refine bDr ?_|refine bAl ?_ _));exact BK297.out) hb);have n1_:=aMk (below_step (by repeat (first|(with_reducible first|exact HB.out|apply bwA|apply bwN|apply bw1|refine below_set ?_ GE297.out)|exact HB.out)) hb);have n2_:=aMk (hbox);have n3_:=aMk ((by rw [hg];exact (below_size (by repeat (first|(with_reducible first|exact HB.out|apply bwA|apply bwN|apply bw1|refine below_set ?_ GE297.out)|exact HB.out))) : w.heap.size ≤ gb305));have n4_:=aMk ((by rw [hg];exact (below_size (by repeat (first|(with_reducible first|exact HB.out|apply bwA|apply bwN|apply bw1|refine below_set ?_ GE297.out)|exact HB.out))) : w.heap.size ≤ gb305));have n5_:=aMk ((by rw [hg];exact Nat.ne_of_lt (blk_lt (g:=gb297) (o:=.cells #[.int .i64 0,.int .i64 0,.int .i64 0,.int .i64 0,.int .i64 0,.bool false] 33 (0,0)) (by (with_reducible repeat (first|refine bDn ?_ _|refine bDr ?_|refine bAl ?_ _));exact BK297.out)) : gb297 ≠ gb305));have n6_:=aMk ((by rw [hg];exact Nat.ne_of_gt (blk_lt (g:=gb297) (o:=.cells #[.int .i64 0,.int .i64 0,.int .i64 0,.int .i64 0,.int .i64 0,.bool false] 33 (0,0)) (by (with_reducible repeat (first|refine bDn ?_ _|refine bDr ?_|refine bAl ?_ _));exact BK297.out)) : gb305 ≠ gb297));clear BK297;clear HB;have BK297:=n0_;have HB:=n1_;have BK305:=n2_;have GW305:=n3_;have GE305:=n4_;have NB297_305:=n5_;have NB305_297:=n6_;clear n0_ n1_ n2_ n3_ n4_ n5_ n6_;clear hb hbox hg;have hnb16:=NB305_297.out;have hnc16:=NB297_305.out;have hcz17_0 : w15.cell? ⟨gb305,0,none⟩ = some (.int .i64 0):=(bCe BK305.out 0).trans rfl;have hcz17_1 : w15.cell? ⟨gb305,1,none⟩ = some (.int .i64 0):=(bCe BK305.out 1).trans rfl;have hcz17_2 : w15.cell? ⟨gb305,2,none⟩ = some (.int .i64 0):=(bCe BK305.out 2).trans rfl;have hcz17_3 : w15.cell? ⟨gb305,3,none⟩ = some (.int .i64 0):=(bCe BK305.out 3).trans rfl;have hcz17_4 : w15.cell? ⟨gb305,4,none⟩ = some (.int .i64 0):=(bCe BK305.out 4).trans rfl;have hcz17_5 : w15.cell? ⟨gb305,5,none⟩ = some (.bool false):=(bCe BK305.out 5).trans rfl;have hfz17_0:=bFr BK305.out 0;have hfz17_1:=bFr BK305.out 1;have hfz17_2:=bFr BK305.out 2;have hfz17_3:=bFr BK305.out 3;have hfz17_4:=bFr BK305.out 4;have hfz17_5:=bFr BK305.out 5;have hcz18_0 : w15.cell? ⟨gb297,0,none⟩ = some (.int .i64 0):=(bCe BK297.out 0).trans rfl;have hcz18_1 : w15.cell? ⟨gb297,1,none⟩ = some (.int .i64 0):=(bCe BK297.out 1).trans rfl;have hcz18_2 : w15.cell? ⟨gb297,2,none⟩ = some (.int .i64 0):=(bCe BK297.out 2).trans rfl;have hcz18_3 : w15.cell? ⟨gb297,3,none⟩ = some (.int .i64 0):=(bCe BK297.out 3).trans rfl;have hcz18_4 : w15.cell? ⟨gb297,4,none⟩ = some (.int .i64 0):=(bCe BK297.out 4).trans rfl;have hcz18_5 : w15.cell? ⟨gb297,5,none⟩ = some (.bool false):=(bCe BK297.out 5).trans rfl;have hfz18_0:=bFr BK297.out 0;have hfz18_1:=bFr BK297.out 1;have hfz18_2:=bFr BK297.out 2;have hfz18_3:=bFr BK297.out 3;have hfz18_4:=bFr BK297.out 4;have hfz18_5:=bFr BK297.out 5))
   refine bodyPost_ret (results_ct rfl _ _ gb297 33 #[.int .i64 0,.int .i64 0,.int .i64 0,.int .i64 0,.int .i64 0,.bool false] (0,0) _ rfl (by (with_reducible repeat (first|refine bDn ?_ _|refine bDr ?_|refine bAl ?_ _));refine blk_put (cs:=#[.int .i64 0,.int .i64 0,.int .i64 0,.int .i64 0,.int .i64 0,.bool false]) ?_ 5 _ rfl;(with_reducible repeat (first|refine bDn ?_ _|refine bDr ?_|refine bAl ?_ _));refine blk_put (cs:=#[.int .i64 0,.int .i64 0,.int .i64 0,.int .i64 0,.int .i64 0,.bool false]) ?_ 4 _ rfl;(with_reducible repeat (first|refine bDn ?_ _|refine bDr ?_|refine bAl ?_ _));refine blk_put (cs:=#[.int .i64 0,.int .i64 0,.int .i64 0,.int .i64 0,.int .i64 0,.bool false]) ?_ 3 _ rfl;(with_reducible repeat (first|refine bDn ?_ _|refine bDr ?_|refine bAl ?_ _));refine blk_put (cs:=#[.int .i64 0,.int .i64 0,.int .i64 0,.int .i64 0,.int .i64 0,.bool false]) ?_ 2 _ rfl;(with_reducible repeat (first|refine bDn ?_ _|refine bDr ?_|refine bAl ?_ _));refine blk_put (cs:=#[.int .i64 0,.int .i64 0,.int .i64 0,.int .i64 0,.int .i64 0,.bool false]) ?_ 1 _ rfl;(with_reducible repeat (first|refine bDn ?_ _|refine bDr ?_|refine bAl ?_ _));refine blk_put (cs:=#[.int .i64 0,.int .i64 0,.int .i64 0,.int .i64 0,.int .i64 0,.bool false]) ?_ 0 _ rfl;(with_reducible repeat (first|refine bDn ?_ _|refine bDr ?_|refine bAl ?_ _));refine blk_far ?_ NB297_305.out _;(with_reducible repeat (first|refine bDn ?_ _|refine bDr ?_|refine bAl ?_ _));refine blk_far ?_ NB297_305.out _;(with_reducible repeat (first|refine bDn ?_ _|refine bDr ?_|refine bAl ?_ _));refine blk_far ?_ NB297_305.out _;(with_reducible repeat (first|refine bDn ?_ _|refine bDr ?_|refine bAl ?_ _));refine blk_far ?_ NB297_305.out _;(with_reducible repeat (first|refine bDn ?_ _|refine bDr ?_|refine bAl ?_ _));refine blk_far ?_ NB297_305.out _;(with_reducible repeat (first|refine bDn ?_ _|refine bDr ?_|refine bAl ?_ _));refine blk_far ?_ NB297_305.out _;(with_reducible repeat (first|refine bDn ?_ _|refine bDr ?_|refine bAl ?_ _));exact BK297.out) Tryd.underlying33 rfl (by kernel_rfl)) rfl ?_
   exact ⟨by first | rfl|(simp [errW_none,errW_some] <;> rfl)|(simp [*,errW_none,errW_some] <;> rfl),by repeat (first|(with_reducible first|exact HB.out|apply bwA|apply bwN|apply bw1|refine below_set ?_ GE297.out|refine below_set ?_ GE305.out)|exact HB.out)⟩
end
section
/-! ### slices_Index_int_int: function 53 -/
def slices_Index_int_int.l0 : Nat → List Int → Int → Int → Int → Option (Int)
 | 0,_,_,_,_ => none
 | k + 1,x0,x1,x7,x8 => if x8 < x7 then (if 0 ≤ x8 then (if x8 < (x0.length : Int) then (if x1 = (rd x0 x8) then (some x8) else (slices_Index_int_int.l0 k x0 x1 x7 (wrap64 (x8 + 1)))) else (none)) else (none)) else (some (-1))
def slices_Index_int_int.f (k : Nat) (l0 : List Int) (a1 : Int) : Option (Int):=slices_Index_int_int.l0 k l0 a1 (l0.length : Int) 0
theorem slices_Index_int_int.mono_l : ∀ k,(∀ y0 y1 y2 y3,LeO (slices_Index_int_int.l0 k y0 y1 y2 y3) (slices_Index_int_int.l0 (k + 1) y0 y1 y2 y3))
 | 0 => fun _ _ _ _ r h => by simp [slices_Index_int_int.l0] at h
 | k + 1 => by
  have ih0:=slices_Index_int_int.mono_l k
  ·intro y0 y1 y2 y3
   unfold slices_Index_int_int.l0
   repeat' first
   | (with_reducible exact ih0 _ _ _ _)
   | (with_reducible exact LeO.refl _)
   | (with_reducible exact LeO.none _)
   | (with_reducible refine LeO.ite ?_ ?_)
   | (with_reducible refine LeO.bind ?_ (fun _ => ?_))
   | exact ih0 _ _ _ _
   | exact LeO.none _
   | refine LeO.ite ?_ ?_
   | refine LeO.bind ?_ (fun _ => ?_)
theorem slices_Index_int_int.mono : ∀ a0 a1 k,LeO (slices_Index_int_int.f k a0 a1) (slices_Index_int_int.f (k + 1) a0 a1):=by
 intro a0 a1 k
 have ih0:=slices_Index_int_int.mono_l k
 unfold slices_Index_int_int.f
 repeat' first
   | (with_reducible exact ih0 _ _ _ _)
   | (with_reducible exact LeO.refl _)
   | (with_reducible exact LeO.none _)
   | (with_reducible refine LeO.ite ?_ ?_)
   | (with_reducible refine LeO.bind ?_ (fun _ => ?_))
   | exact ih0 _ _ _ _
   | exact LeO.none _
   | refine LeO.ite ?_ ?_
   | refine LeO.bind ?_ (fun _ => ?_)
set_option maxHeartbeats 8000000 in
set_option maxRecDepth 100000 in
theorem slices_Index_int_int.calls (k : Nat) (A0 : Option Addr) (c0 : Nat) (l0 : List Int) (a1 : Int) (r : Int) (w : World) (hr0 : Kd.C (Kd.int .i64) w A0 l0.length l0) (hc0 : l0.length ≤ c0) (h : slices_Index_int_int.f k l0 a1 = some r) :
  Calls Tryd.prog 53 #[.slice A0 l0.length c0,.int .i64 a1] w fun e w' => e = .returned (.int .i64 r) ∧ Drawn0 w w':=by
 have HR0:=aMk hr0
 have HC0:=aMk hc0
 clear hr0 hc0
 have H : (slices_Index_int_int.l0 k l0 a1 (l0.length : Int) 0) = some r:=h
 clear h
 have H':=aMk H
 clear H
 go_enter Tryd.func53,Tryd.ntmps53
 go_wp2
 go_loopg [8] k (fun kq v8 w' => ∃ (x8_1 : Int),v8 = .int .i64 x8_1 ∧ Aside0 (slices_Index_int_int.l0 kq l0 a1 (l0.length : Int) x8_1 = some r) ∧ Aside0 (kq ≤ k) ∧ Drawn0 w w')
 case atStart => exact ⟨(0),(by first | rfl|(simp;done)|(simp [*];done)|(simp [ne_nil_b];done)|(simp [ne_nil_b, *];done)),H',⟨Nat.le_refl _⟩,by repeat (first|exact Drawn0.refl _|apply Drawn0.step)⟩
 case round =>
  clear H'
  try clear p2
  obtain ⟨x8_1,rfl,HA,HK1,⟨m1,rfl⟩⟩:=hrel
  cases gk with
  | zero => exact absurd HA.out (by simp [slices_Index_int_int.l0])
  | succ k1 =>
   have H:=HA.out
   clear HA
   simp only [slices_Index_int_int.l0] at H
   by_cases c3 : x8_1 < (l0.length : Int)
   ·rw [if_pos c3] at H
    have c3b0 : decide (x8_1 < (l0.length : Int)) = true:=decide_eq_true c3
    clear c3
    by_cases c4 : 0 ≤ x8_1
    ·rw [if_pos c4] at H
     have c4b0 : decide (0 ≤ x8_1) = true:=decide_eq_true c4
     clear c4
     by_cases c5 : x8_1 < (l0.length : Int)
     ·rw [if_pos c5] at H
      have c5b0 : decide (x8_1 < (l0.length : Int)) = true:=decide_eq_true c5
      clear c5
      by_cases c6 : a1 = (rd l0 x8_1)
      ·rw [if_pos c6] at H
       have c6b0 : (a1 == (rd l0 x8_1)) = true:=beq_iff_eq.mpr c6
       have c6b1 : (a1 != (rd l0 x8_1)) = false:=bne_eq_false_iff_eq.mpr c6
       clear c6
       obtain rfl:=Option.some.inj H
       have p162 : 0 ≤ (x8_1 : Int):=of_decide_eq_true (by first|(with_reducible assumption) | assumption)
       have q162 : x8_1 < (l0.length : Int):=of_decide_eq_true (by first|(with_reducible assumption) | assumption)
       obtain ⟨ad162,e162,hx162_0⟩:=Kd.at_int HR0.out x8_1 p162 q162
       cases e162
       replace p162:=eq_true p162
       replace q162:=eq_true q162
       go_wp2
       go_ret
       exact ⟨by first | rfl|(simp;done)|(simp [*];done)|(simp [ne_nil_b];done)|(simp [ne_nil_b, *];done),by repeat (first|exact Drawn0.refl _|apply Drawn0.step)⟩
      ·rw [if_neg c6] at H
       have c6b0 : (a1 == (rd l0 x8_1)) = false:=beq_eq_false_iff_ne.mpr c6
       have c6b1 : (a1 != (rd l0 x8_1)) = true:=bne_iff_ne.mpr c6
       have H':=aMk H
       clear H
       have p162 : 0 ≤ (x8_1 : Int):=of_decide_eq_true (by first|(with_reducible assumption) | assumption)
       have q162 : x8_1 < (l0.length : Int):=of_decide_eq_true (by first|(with_reducible assumption) | assumption)
       obtain ⟨ad162,e162,hx162_0⟩:=Kd.at_int HR0.out x8_1 p162 q162
       cases e162
       replace p162:=eq_true p162
       replace q162:=eq_true q162
       go_wp2
       go_roundg k1
       case measure => have:=HK1.out;omega
       case rel => exact ⟨(wrap64 (x8_1 + 1)),(by first | rfl|(simp;done)|(simp [*];done)|(simp [ne_nil_b];done)|(simp [ne_nil_b, *];done)),H',⟨by have:=HK1.out;omega⟩,by repeat (first|exact Drawn0.refl _|apply Drawn0.step)⟩
     ·rw [if_neg c5] at H
      exact absurd H (by simp)
    ·rw [if_neg c4] at H
     exact absurd H (by simp)
   ·rw [if_neg c3] at H
    have c3b0 : decide (x8_1 < (l0.length : Int)) = false:=decide_eq_false c3
    clear c3
    obtain rfl:=Option.some.inj H
    go_wp2
    go_ret
    exact ⟨by first | rfl|(simp;done)|(simp [*];done)|(simp [ne_nil_b];done)|(simp [ne_nil_b, *];done),by repeat (first|exact Drawn0.refl _|apply Drawn0.step)⟩
end
section
/-! ### slices_Contains_int_int: function 32 -/
def slices_Contains_int_int.f (k : Nat) (l0 : List Int) (a1 : Int) : Option (Bool):=(slices_Index_int_int.f k l0 a1).bind fun t163 => (some (decide (t163 ≥ 0)))
theorem slices_Contains_int_int.mono : ∀ a0 a1 k,LeO (slices_Contains_int_int.f k a0 a1) (slices_Contains_int_int.f (k + 1) a0 a1):=by
 intro a0 a1 k
 unfold slices_Contains_int_int.f
 repeat' first
   | (with_reducible exact slices_Index_int_int.mono ..)
   | (with_reducible exact LeO.refl _)
   | (with_reducible exact LeO.none _)
   | (with_reducible refine LeO.ite ?_ ?_)
   | (with_reducible refine LeO.bind ?_ (fun _ => ?_))
   | exact slices_Index_int_int.mono ..
   | exact LeO.none _
   | refine LeO.ite ?_ ?_
   | refine LeO.bind ?_ (fun _ => ?_)
set_option maxHeartbeats 8000000 in
set_option maxRecDepth 100000 in
theorem slices_Contains_int_int.calls (k : Nat) (A0 : Option Addr) (c0 : Nat) (l0 : List Int) (a1 : Int) (r : Bool) (w : World) (hr0 : Kd.C (Kd.int .i64) w A0 l0.length l0) (hc0 : l0.length ≤ c0) (h : slices_Contains_int_int.f k l0 a1 = some r) :
  Calls Tryd.prog 32 #[.slice A0 l0.length c0,.int .i64 a1] w fun e w' => e = .returned (.bool r) ∧ Drawn0 w w':=by
 have HR0:=aMk hr0
 have HC0:=aMk hc0
 clear hr0 hc0
 have H : ((slices_Index_int_int.f k l0 a1).bind fun t163 => (some (decide (t163 ≥ 0)))) = some r:=h
 clear h
 replace H:=Option.bind_eq_some_iff.mp H
 obtain ⟨t163,A30,H⟩:=H
 replace H : (some (decide (t163 ≥ 0))) = some r:=H
 have A3:=aMk A30
 clear A30
 obtain rfl:=Option.some.inj H
 go_enter Tryd.func32,Tryd.ntmps32
 go_wp2_with (first|((with_reducible refine gate_callee (f:=53) rfl ?_);refine goesL_ (some 7) rfl rfl Tryd.func53 (by kernel_rfl) rfl #[.slice A0 l0.length c0,.int .i64 a1] rfl (by (try simp only [List.map_toArray,List.map_cons,List.map_nil]);first | done | rfl|(simp only [List.length_drop,List.length_take];rfl)) ?_;(with_reducible refine (slices_Index_int_int.calls k _ _ l0 a1 t163 _ ?side1 ?side2 A3.out).mono ?_);(case side1 => repeat (first|exact HR0.out|(with_reducible refine Kd.C_alloc ?_ _)|(with_reducible refine Kd.C_drewN ?_ _)|(with_reducible refine Kd.C_drew ?_)));(case side2 => exact HC0.out);rintro e w' ⟨rfl,⟨nd,rfl⟩⟩;refine ⟨_,rfl,?_⟩))
 go_ret
 exact ⟨by first | rfl|(simp;done)|(simp [*];done)|(simp [ne_nil_b];done)|(simp [ne_nil_b, *];done),by repeat (first|exact Drawn0.refl _|apply Drawn0.step)⟩
end
section
/-! ### impl_within: function 55 -/
def impl_within.f (a0 : Int) (a1 : Int) (a2 : Int) : Option (Bool):=if a0 ≥ a1 then (some (decide (a0 ≤ a2))) else (some false)
set_option maxHeartbeats 8000000 in
set_option maxRecDepth 100000 in
theorem impl_within.calls (a0 : Int) (a1 : Int) (a2 : Int) (r : Bool) (w : World) (h : impl_within.f a0 a1 a2 = some r) :
  Calls Tryd.prog 55 #[.int .i64 a0,.int .i64 a1,.int .i64 a2] w fun e w' => e = .returned (.bool r) ∧ Drawn0 w w':=by
 have H : (if a0 ≥ a1 then (some (decide (a0 ≤ a2))) else (some false)) = some r:=h
 clear h
 by_cases c4 : a0 ≥ a1
 ·rw [if_pos c4] at H
  have c4b0 : decide (a1 ≤ a0) = true:=decide_eq_true c4
  clear c4
  obtain rfl:=Option.some.inj H
  go_enter Tryd.func55,Tryd.ntmps55
  go_wp2
  go_ret
  exact ⟨by first | rfl|(simp;done)|(simp [*];done)|(simp [ne_nil_b];done)|(simp [ne_nil_b, *];done),by repeat (first|exact Drawn0.refl _|apply Drawn0.step)⟩
 ·rw [if_neg c4] at H
  have c4b0 : decide (a1 ≤ a0) = false:=decide_eq_false c4
  clear c4
  obtain rfl:=Option.some.inj H
  go_enter Tryd.func55,Tryd.ntmps55
  go_wp2
  go_ret
  exact ⟨by first | rfl|(simp;done)|(simp [*];done)|(simp [ne_nil_b];done)|(simp [ne_nil_b, *];done),by repeat (first|exact Drawn0.refl _|apply Drawn0.step)⟩
end
section
/-! ### impl_isAddress: function 54 -/
def impl_isAddress.f (a0 : Int) : Option (Bool):=(impl_within.f a0 0 4294967295).bind fun t164 => (some t164)
set_option maxHeartbeats 8000000 in
set_option maxRecDepth 100000 in
theorem impl_isAddress.calls (a0 : Int) (r : Bool) (w : World) (h : impl_isAddress.f a0 = some r) :
  Calls Tryd.prog 54 #[.int .i64 a0] w fun e w' => e = .returned (.bool r) ∧ Drawn0 w w':=by
 have H : ((impl_within.f a0 0 4294967295).bind fun t164 => (some t164)) = some r:=h
 clear h
 replace H:=Option.bind_eq_some_iff.mp H
 obtain ⟨t164,A20,H⟩:=H
 replace H : (some t164) = some r:=H
 have A2:=aMk A20
 clear A20
 obtain rfl:=Option.some.inj H
 go_enter Tryd.func54,Tryd.ntmps54
 go_wp2_with (first|((with_reducible refine gate_callee (f:=55) rfl ?_);refine goesL_ (some 4) rfl rfl Tryd.func55 (by kernel_rfl) rfl #[.int .i64 a0,.int .i64 0,.int .i64 4294967295] rfl (by (try simp only [List.map_toArray,List.map_cons,List.map_nil]);first | done | rfl|(simp only [List.length_drop,List.length_take];rfl)) ?_;(with_reducible refine (impl_within.calls a0 0 4294967295 t164 _ A2.out).mono ?_);rintro e w' ⟨rfl,⟨nd,rfl⟩⟩;refine ⟨_,rfl,?_⟩))
 go_ret
 exact ⟨by first | rfl|(simp;done)|(simp [*];done)|(simp [ne_nil_b];done)|(simp [ne_nil_b, *];done),by repeat (first|exact Drawn0.refl _|apply Drawn0.step)⟩
end
section
/-! ### impl_NetOK: function 33 -/
def impl_NetOK.f (a0_0 : Int) (a0_1 : Int) : Option (Bool):=(impl_isAddress.f a0_0).bind fun t166 => (if t166 = true then ((impl_within.f a0_1 0 32).bind fun t167 => (if t167 = true then (if 0 ≤ (wrap64 (32 - a0_1)) then (some ((Go.bits .and .i64 a0_0 (wrap64 ((shl .i64 1 (wrap64 (32 - a0_1))) - 1))) == 0)) else (none)) else (some false))) else (some false))
set_option maxHeartbeats 8000000 in
set_option maxRecDepth 100000 in
theorem impl_NetOK.calls (a0_0 : Int) (a0_1 : Int) (r : Bool) (w : World) (h : impl_NetOK.f a0_0 a0_1 = some r) :
  Calls Tryd.prog 33 #[.agg #[.int .i64 a0_0,.int .i64 a0_1]] w fun e w' => e = .returned (.bool r) ∧ Below w.heap.size w w':=by
 have hu30:=Tryd.underlying30
 have HB:=aMk (Below.refl w.heap.size w)
 have H : ((impl_isAddress.f a0_0).bind fun t166 => (if t166 = true then ((impl_within.f a0_1 0 32).bind fun t167 => (if t167 = true then (if 0 ≤ (wrap64 (32 - a0_1)) then (some ((Go.bits .and .i64 a0_0 (wrap64 ((shl .i64 1 (wrap64 (32 - a0_1))) - 1))) == 0)) else (none)) else (some false))) else (some false))) = some r:=h
 clear h
 replace H:=Option.bind_eq_some_iff.mp H
 obtain ⟨t166,A20,H⟩:=H
 replace H : (if t166 = true then ((impl_within.f a0_1 0 32).bind fun t167 => (if t167 = true then (if 0 ≤ (wrap64 (32 - a0_1)) then (some ((Go.bits .and .i64 a0_0 (wrap64 ((shl .i64 1 (wrap64 (32 - a0_1))) - 1))) == 0)) else (none)) else (some false))) else (some false)) = some r:=H
 have A2:=aMk A20
 clear A20
 by_cases c3 : t166 = true
 ·subst c3
  have H1 : ((impl_within.f a0_1 0 32).bind fun t167 => (if t167 = true then (if 0 ≤ (wrap64 (32 - a0_1)) then (some ((Go.bits .and .i64 a0_0 (wrap64 ((shl .i64 1 (wrap64 (32 - a0_1))) - 1))) == 0)) else (none)) else (some false))) = some r:=by rw [if_pos rfl] at H;exact H
  clear H
  have H:=H1
  clear H1
  replace H:=Option.bind_eq_some_iff.mp H
  obtain ⟨t167,A40,H⟩:=H
  replace H : (if t167 = true then (if 0 ≤ (wrap64 (32 - a0_1)) then (some ((Go.bits .and .i64 a0_0 (wrap64 ((shl .i64 1 (wrap64 (32 - a0_1))) - 1))) == 0)) else (none)) else (some false)) = some r:=H
  have A4:=aMk A40
  clear A40
  by_cases c5 : t167 = true
  ·subst c5
   have H1 : (if 0 ≤ (wrap64 (32 - a0_1)) then (some ((Go.bits .and .i64 a0_0 (wrap64 ((shl .i64 1 (wrap64 (32 - a0_1))) - 1))) == 0)) else (none)) = some r:=by rw [if_pos rfl] at H;exact H
   clear H
   have H:=H1
   clear H1
   obtain ⟨ji6,hji6⟩ : ∃ j_ : Int,(wrap64 (32 - a0_1)) = j_:=⟨_,rfl⟩
   replace H : (if 0 ≤ (ji6) then (some ((Go.bits .and .i64 a0_0 (wrap64 ((shl .i64 1 (ji6)) - 1))) == 0)) else (none)) = some r:=by first|(rw [hji6] at H;exact H)|(simp only [hji6] at H ⊢;exact H)
   (try rw [hji6] at A2)
   (try rw [hji6] at A4)
   have hji6w : (IntKind.i64.wrap (32 - a0_1)) = ji6:=(i64_w _).trans hji6
   by_cases c7 : 0 ≤ (ji6)
   ·rw [if_pos c7] at H
    have c7b0:=eq_true c7
    have c7b1 : decide (0 ≤ (ji6)) = true:=decide_eq_true c7
    clear c7
    obtain ⟨ji8,hji8⟩ : ∃ j_ : Int,(shl .i64 1 (ji6)) = j_:=⟨_,rfl⟩
    replace H : (some ((Go.bits .and .i64 a0_0 (wrap64 ((ji8) - 1))) == 0)) = some r:=by first|(rw [hji8] at H;exact H)|(simp only [hji8] at H ⊢;exact H)
    (try rw [hji8] at A2)
    (try rw [hji8] at A4)
    have hji8_ : (IntKind.i64.wrap (1 * 2 ^ min (ji6).toNat 64)) = ji8:=hji8
    have hji8z : (ji6) ≤ 64 → (IntKind.i64.wrap (1 * 2 ^ (ji6).toNat)) = ji8:=shl_small hji8
    have hji8u : (IntKind.i64.wrap (2 ^ min (ji6).toNat 64)) = ji8:=by have h_:=hji8_;rw [Int.one_mul] at h_;exact h_
    have hji8v : (ji6) ≤ 64 → (IntKind.i64.wrap (2 ^ (ji6).toNat)) = ji8:=fun hle_ => by have h_:=hji8z hle_;rw [Int.one_mul] at h_;exact h_
    have hji8y : (wrap64 (1 * 2 ^ min (ji6).toNat 64)) = ji8:=(i64_w _).symm.trans hji8_
    have hji8x : (ji6) ≤ 64 → (wrap64 (1 * 2 ^ (ji6).toNat)) = ji8:=fun h_ => (i64_w _).symm.trans (hji8z h_)
    obtain rfl:=Option.some.inj H
    go_enter Tryd.func33,Tryd.ntmps33
    go_wp2_with (first|((with_reducible refine gate_dst (N:=1) rfl ?_);refine box_event ?hg (N:=1) ?hd (cs:=#[.int .i64 a0_0,.int .i64 a0_1]) (t:=30) ?hr ?_;(case hd => rfl);(case hg => rfl);(case hr => first|(go_simp;done)|(go_simp;rfl));intro gb165 hg w9 hbox hb;have n0_:=aMk (below_step (by repeat first|exact HB.out|apply bwA|apply bwN|apply bw1) hb);have n1_:=aMk (hbox);have n2_:=aMk ((by rw [hg];exact (below_size (by repeat first|exact HB.out|apply bwA|apply bwN|apply bw1)) : w.heap.size ≤ gb165));have n3_:=aMk ((by rw [hg];exact (below_size (by repeat first|exact HB.out|apply bwA|apply bwN|apply bw1)) : w.heap.size ≤ gb165));clear HB;have HB:=n0_;have BK165:=n1_;have GW165:=n2_;have GE165:=n3_;clear n0_ n1_ n2_ n3_;clear hb hbox hg;have hcz10_0 : w9.cell? ⟨gb165,0,none⟩ = some (.int .i64 a0_0):=(bCe BK165.out 0).trans rfl;have hcz10_1 : w9.cell? ⟨gb165,1,none⟩ = some (.int .i64 a0_1):=(bCe BK165.out 1).trans rfl;have hfz10_0:=bFr BK165.out 0;have hfz10_1:=bFr BK165.out 1)|(go_at_call 54;(with_reducible refine (impl_isAddress.calls a0_0 true _ A2.out).mono ?_);rintro e w' ⟨rfl,⟨nd,rfl⟩⟩;(try first|exact ⟨rfl,_,World.drewN_drewN _ _ _⟩|exact ⟨rfl,_,Eq.trans (World.drewN_drewN _ _ _) (congrArg (World.drewN _) (Nat.add_assoc _ _ _))⟩))|(go_at_call 55;(with_reducible refine (impl_within.calls a0_1 0 32 true _ A4.out).mono ?_);rintro e w' ⟨rfl,⟨nd,rfl⟩⟩;(try first|exact ⟨rfl,_,World.drewN_drewN _ _ _⟩|exact ⟨rfl,_,Eq.trans (World.drewN_drewN _ _ _) (congrArg (World.drewN _) (Nat.add_assoc _ _ _))⟩)))
    repeat (go_quiet (first|((with_reducible refine gate_dst (N:=1) rfl ?_);refine box_event ?hg (N:=1) ?hd (cs:=#[.int .i64 a0_0,.int .i64 a0_1]) (t:=30) ?hr ?_;(case hd => rfl);(case hg => rfl);(case hr => first|(go_simp;done)|(go_simp;rfl));intro gb165 hg w9 hbox hb;have n0_:=aMk (below_step (by repeat first|exact HB.out|apply bwA|apply bwN|apply bw1) hb);have n1_:=aMk (hbox);have n2_:=aMk ((by rw [hg];exact (below_size (by repeat first|exact HB.out|apply bwA|apply bwN|apply bw1)) : w.heap.size ≤ gb165));have n3_:=aMk ((by rw [hg];exact (below_size (by repeat first|exact HB.out|apply bwA|apply bwN|apply bw1)) : w.heap.size ≤ gb165));clear HB;have HB:=n0_;have BK165:=n1_;have GW165:=n2_;have GE165:=n3_;clear n0_ n1_ n2_ n3_;clear hb hbox hg;have hcz10_0 : w9.cell? ⟨gb165,0,none⟩ = some (.int .i64 a0_0):=(bCe BK165.out 0).trans rfl;have hcz10_1 : w9.cell? ⟨gb165,1,none⟩ = some (.int .i64 a0_1):=(bCe BK165.out 1).trans rfl;have hfz10_0:=bFr BK165.out 0;have hfz10_1:=bFr BK165.out 1)|(go_at_call 54;(with_reducible refine (impl_isAddress.calls a0_0 true _ A2.out).mono ?_);rintro e w' ⟨rfl,⟨nd,rfl⟩⟩;(try first|exact ⟨rfl,_,World.drewN_drewN _ _ _⟩|exact ⟨rfl,_,Eq.trans (World.drewN_drewN _ _ _) (congrArg (World.drewN _) (Nat.add_assoc _ _ _))⟩))|(go_at_call 55;(with_reducible refine (impl_within.calls a0_1 0 32 true _ A4.out).mono ?_);rintro e w' ⟨rfl,⟨nd,rfl⟩⟩;(try first|exact ⟨rfl,_,World.drewN_drewN _ _ _⟩|exact ⟨rfl,_,Eq.trans (World.drewN_drewN _ _ _) (congrArg (World.drewN _) (Nat.add_assoc _ _ _))⟩)));try go_wp2_with (first|((with_reducible refine gate_dst (N:=1) rfl ?_);refine box_event ?hg (N:=1) ?hd (cs:=#[.int .i64 a0_0,.int .i64 a0_1]) (t:=30) ?hr ?_;(case hd => rfl);(case hg => rfl);(case hr => first|(go_simp;done)|(go_simp;rfl));intro gb165 hg w9 hbox hb;have n0_:=aMk (below_step (by repeat first|exact HB.out|apply bwA|apply bwN|apply bw1) hb);have n1_:=aMk (hbox);have n2_:=aMk ((by rw [hg];exact (below_size (by repeat first|exact HB.out|apply bwA|apply bwN|apply bw1)) : w.heap.size ≤ gb165));have n3_:=aMk ((by rw [hg];exact (below_size (by repeat first|exact HB.out|apply bwA|apply bwN|apply bw1)) : w.heap.size ≤ gb165));clear HB;have HB:=n0_;have BK165:=n1_;have GW165:=n2_;have GE165:=n3_;clear n0_ n1_ n2_ n3_;clear hb hbox hg;have hcz10_0 : w9.cell? ⟨gb165,0,none⟩ = some (.int .i64 a0_0):=(bCe BK165.out 0).trans rfl;have hcz10_1 : w9.cell? ⟨gb165,1,none⟩ = some (.int .i64 a0_1):=(bCe BK165.out 1).trans rfl;have hfz10_0:=bFr BK165.out 0;have hfz10_1:=bFr BK165.out 1)|(go_at_call 54;(with_reducible refine (impl_isAddress.calls a0_0 true _ A2.out).mono ?_);rintro e w' ⟨rfl,⟨nd,rfl⟩⟩;(try first|exact ⟨rfl,_,World.drewN_drewN _ _ _⟩|exact ⟨rfl,_,Eq.trans (World.drewN_drewN _ _ _) (congrArg (World.drewN _) (Nat.add_assoc _ _ _))⟩))|(go_at_call 55;(with_reducible refine (impl_within.calls a0_1 0 32 true _ A4.out).mono ?_);rintro e w' ⟨rfl,⟨nd,rfl⟩⟩;(try first|exact ⟨rfl,_,World.drewN_drewN _ _ _⟩|exact ⟨rfl,_,Eq.trans (World.drewN_drewN _ _ _) (congrArg (World.drewN _) (Nat.add_assoc _ _ _))⟩))))
    go_ret
    exact ⟨by first | rfl|(simp [errW_none,errW_some] <;> rfl)|(simp only [← hji6,← hji8];first | rfl|(simp [errW_none,errW_some] <;> rfl))|(simp [*,errW_none,errW_some] <;> rfl),by repeat (first|(with_reducible first|exact HB.out|apply bwA|apply bwN|apply bw1|refine below_set ?_ GE165.out)|exact HB.out)⟩
   ·rw [if_neg c7] at H
    exact absurd H (by simp)
  ·replace c5:=Bool.eq_false_iff.mpr c5
   subst c5
   have H1 : (some false) = some r:=by rw [if_neg (show ¬ (false = true) by decide)] at H;exact H
   clear H
   have H:=H1
   clear H1
   obtain rfl:=Option.some.inj H
   go_enter Tryd.func33,Tryd.ntmps33
   go_wp2_with (first|((with_reducible refine gate_dst (N:=1) rfl ?_);refine box_event ?hg (N:=1) ?hd (cs:=#[.int .i64 a0_0,.int .i64 a0_1]) (t:=30) ?hr ?_;(case hd => rfl);(case hg => rfl);(case hr => first|(go_simp;done)|(go_simp;rfl));intro gb165 hg w11 hbox hb;have n0_:=aMk (below_step (by repeat first|exact HB.out|apply bwA|apply bwN|apply bw1) hb);have n1_:=aMk (hbox);have n2_:=aMk ((by rw [hg];exact (below_size (by repeat first|exact HB.out|apply bwA|apply bwN|apply bw1)) : w.heap.size ≤ gb165));have n3_:=aMk ((by rw [hg];exact (below_size (by repeat first|exact HB.out|apply bwA|apply bwN|apply bw1)) : w.heap.size ≤ gb165));clear HB;have HB:=n0_;have BK165:=n1_;have GW165:=n2_;have GE165:=n3_;clear n0_ n1_ n2_ n3_;clear hb hbox hg;have hcz12_0 : w11.cell? ⟨gb165,0,none⟩ = some (.int .i64 a0_0):=(bCe BK165.out 0).trans rfl;have hcz12_1 : w11.cell? ⟨gb165,1,none⟩ = some (.int .i64 a0_1):=(bCe BK165.out 1).trans rfl;have hfz12_0:=bFr BK165.out 0;have hfz12_1:=bFr BK165.out 1)|(go_at_call 54;(with_reducible refine (impl_isAddress.calls a0_0 true _ A2.out).mono ?_);rintro e w' ⟨rfl,⟨nd,rfl⟩⟩;(try first|exact ⟨rfl,_,World.drewN_drewN _ _ _⟩|exact ⟨rfl,_,Eq.trans (World.drewN_drewN _ _ _) (congrArg (World.drewN _) (Nat.add_assoc _ _ _))⟩))|(go_at_call 55;(with_reducible refine (impl_within.calls a0_1 0 32 false _ A4.out).mono ?_);rintro e w' ⟨rfl,⟨nd,rfl⟩⟩;(try first|exact ⟨rfl,_,World.drewN_drewN _ _ _⟩|exact ⟨rfl,_,Eq.trans (World.drewN_drewN _ _ _) (congrArg (World.drewN _) (Nat.add_assoc _ _ _))⟩)))
   repeat (go_quiet (first|((with_reducible refine gate_dst (N:=1) rfl ?_);refine box_event ?hg (N:=1) ?hd (cs:=#[.int .i64 a0_0,.int .i64 a0_1]) (t:=30) ?hr ?_;(case hd => rfl);(case hg => rfl);(case hr => first|(go_simp;done)|(go_simp;rfl));intro gb165 hg w11 hbox hb;have n0_:=aMk (below_step (by repeat first|exact HB.out|apply bwA|apply bwN|apply bw1) hb);have n1_:=aMk (hbox);have n2_:=aMk ((by rw [hg];exact (below_size (by repeat first|exact HB.out|apply bwA|apply bwN|apply bw1)) : w.heap.size ≤ gb165));have n3_:=aMk ((by rw [hg];exact (below_size (by repeat first|exact HB.out|apply bwA|apply bwN|apply bw1)) : w.heap.size ≤ gb165));clear HB;have HB:=n0_;have BK165:=n1_;have GW165:=n2_;have GE165:=n3_;clear n0_ n1_ n2_ n3_;clear hb hbox hg;have hcz12_0 : w11.cell? ⟨gb165,0,none⟩ = some (.int .i64 a0_0):=(bCe BK165.out 0).trans rfl;have hcz12_1 : w11.cell? ⟨gb165,1,none⟩ = some (.int .i64 a0_1):=(bCe BK165.out 1).trans rfl;have hfz12_0:=bFr BK165.out 0;have hfz12_1:=bFr BK165.out 1)|(go_at_call 54;(with_reducible refine (impl_isAddress.calls a0_0 true _ A2.out).mono ?_);rintro e w' ⟨rfl,⟨nd,rfl⟩⟩;(try first|exact ⟨rfl,_,World.drewN_drewN _ _ _⟩|exact ⟨rfl,_,Eq.trans (World.drewN_drewN _ _ _) (congrArg (World.drewN _) (Nat.add_assoc _ _ _))⟩))|(go_at_call 55;(with_reducible refine (impl_within.calls a0_1 0 32 false _ A4.out).mono ?_);rintro e w' ⟨rfl,⟨nd,rfl⟩⟩;(try first|exact ⟨rfl,_,World.drewN_drewN _ _ _⟩|exact ⟨rfl,_,Eq.trans (World.drewN_drewN _ _ _) (congrArg (World.drewN _) (Nat.add_assoc _ _ _))⟩)));try go_wp2_with (first|((with_reducible refine gate_dst (N:=1) rfl ?_);refine box_event ?hg (N:=1) ?hd (cs:=#[.int .i64 a0_0,.int .i64 a0_1]) (t:=30) ?hr ?_;(case hd => rfl);(case hg => rfl);(case hr => first|(go_simp;done)|(go_simp;rfl));intro gb165 hg w11 hbox hb;have n0_:=aMk (below_step (by repeat first|exact HB.out|apply bwA|apply bwN|apply bw1) hb);have n1_:=aMk (hbox);have n2_:=aMk ((by rw [hg];exact (below_size (by repeat first|exact HB.out|apply bwA|apply bwN|apply bw1)) : w.heap.size ≤ gb165));have n3_:=aMk ((by rw [hg];exact (below_size (by repeat first|exact HB.out|apply bwA|apply bwN|apply bw1)) : w.heap.size ≤ gb165));clear HB;have HB:=n0_;have BK165:=n1_;have GW165:=n2_;have GE165:=n3_;clear n0_ n1_ n2_ n3_;clear hb hbox hg;have hcz12_0 : w11.cell? ⟨gb165,0,none⟩ = some (.int .i64 a0_0):=(bCe BK165.out 0).trans rfl;have hcz12_1 : w11.cell? ⟨gb165,1,none⟩ = some (.int .i64 a0_1):=(bCe BK165.out 1).trans rfl;have hfz12_0:=bFr BK165.out 0;have hfz12_1:=bFr BK165.out 1)|(go_at_call 54;(with_reducible refine (impl_isAddress.calls a0_0 true _ A2.out).mono ?_);rintro e w' ⟨rfl,⟨nd,rfl⟩⟩;(try first|exact ⟨rfl,_,World.drewN_drewN _ _ _⟩|exact ⟨rfl,_,Eq.trans (World.drewN_drewN _ _ _) (congrArg (World.drewN _) (Nat.add_assoc _ _ _))⟩))|(go_at_call 55;(with_reducible refine (impl_within.calls a0_1 0 32 false _ A4.out).mono ?_);rintro e w' ⟨rfl,⟨nd,rfl⟩⟩;(try first|exact ⟨rfl,_,World.drewN_drewN _ _ _⟩|exact ⟨rfl,_,Eq.trans (World.drewN_drewN _ _ _) (congrArg (World.drewN _) (Nat.add_assoc _ _ _))⟩))))
   go_ret
   exact ⟨by first | rfl|(simp [errW_none,errW_some] <;> rfl)|(simp [*,errW_none,errW_some] <;> rfl),by repeat (first|(with_reducible first|exact HB.out|apply bwA|apply bwN|apply bw1|refine below_set ?_ GE165.out)|exact HB.out)⟩
 ·replace c3:=Bool.eq_false_iff.mpr c3
  subst c3
  have H1 : (some false) = some r:=by rw [if_neg (show ¬ (false = true) by decide)] at H;exact H
  clear H
  have H:=H1
  clear H1
  obtain rfl:=Option.some.inj H
  go_enter Tryd.func33,Tryd.ntmps33
  go_wp2_with (first|((with_reducible refine gate_dst (N:=1) rfl ?_);refine box_event ?hg (N:=1) ?hd (cs:=#[.int .i64 a0_0,.int .i64 a0_1]) (t:=30) ?hr ?_;(case hd => rfl);(case hg => rfl);(case hr => first|(go_simp;done)|(go_simp;rfl));intro gb165 hg w13 hbox hb;have n0_:=aMk (below_step (by repeat first|exact HB.out|apply bwA|apply bwN|apply bw1) hb);have n1_:=aMk (hbox);have n2_:=aMk ((by rw [hg];exact (below_size (by repeat first|exact HB.out|apply bwA|apply bwN|apply bw1)) : w.heap.size ≤ gb165));have n3_:=aMk ((by rw [hg];exact (below_size (by repeat first|exact HB.out|apply bwA|apply bwN|apply bw1)) : w.heap.size ≤ gb165));clear HB;have HB:=n0_;have BK165:=n1_;have GW165:=n2_;have GE165:=n3_;clear n0_ n1_ n2_ n3_;clear hb hbox hg;have hcz14_0 : w13.cell? ⟨gb165,0,none⟩ = some (.int .i64 a0_0):=(bCe BK165.out 0).trans rfl;have hcz14_1 : w13.cell? ⟨gb165,1,none⟩ = some (.int .i64 a0_1):=(bCe BK165.out 1).trans rfl;have hfz14_0:=bFr BK165.out 0;have hfz14_1:=bFr BK165.out 1)|(go_at_call 54;(with_reducible refine (impl_isAddress.calls a0_0 false _ A2.out).mono ?_);rintro e w' ⟨rfl,⟨nd,rfl⟩⟩;(try first|exact ⟨rfl,_,World.drewN_drewN _ _ _⟩|exact ⟨rfl,_,Eq.trans (World.drewN_drewN _ _ _) (congrArg (World.drewN _) (Nat.add_assoc _ _ _))⟩)))
  repeat (go_quiet (first|((with_reducible refine gate_dst (N:=1) rfl ?_);refine box_event ?hg (N:=1) ?hd (cs:=#[.int .i64 a0_0,.int .i64 a0_1]) (t:=30) ?hr ?_;(case hd => rfl);(case hg => rfl);(case hr => first|(go_simp;done)|(go_simp;rfl));intro gb165 hg w13 hbox hb;have n0_:=aMk (below_step (by repeat first|exact HB.out|apply bwA|apply bwN|apply bw1) hb);have n1_:=aMk (hbox);have n2_:=aMk ((by rw [hg];exact (below_size (by repeat first|exact HB.out|apply bwA|apply bwN|apply bw1)) : w.heap.size ≤ gb165));have n3_:=aMk ((by rw [hg];exact (below_size (by repeat first|exact HB.out|apply bwA|apply bwN|apply bw1)) : w.heap.size ≤ gb165));clear HB;have HB:=n0_;have BK165:=n1_;have GW165:=n2_;have GE165:=n3_;clear n0_ n1_ n2_ n3_;clear hb hbox hg;have hcz14_0 : w13.cell? ⟨gb165,0,none⟩ = some (.int .i64 a0_0):=(bCe BK165.out 0).trans rfl;have hcz14_1 : w13.cell? ⟨gb165,1,none⟩ = some (.int .i64 a0_1):=(bCe BK165.out 1).trans rfl;have hfz14_0:=bFr BK165.out 0;have hfz14_1:=bFr BK165.out 1)|(go_at_call 54;(with_reducible refine (impl_isAddress.calls a0_0 false _ A2.out).mono ?_);rintro e w' ⟨rfl,⟨nd,rfl⟩⟩;(try first|exact ⟨rfl,_,World.drewN_drewN _ _ _⟩|exact ⟨rfl,_,Eq.trans (World.drewN_drewN _ _ _) (congrArg (World.drewN _) (Nat.add_assoc _ _ _))⟩)));try go_wp2_with (first|((with_reducible refine gate_dst (N:=1) rfl ?_);refine box_event ?hg (N:=1) ?hd (cs:=#[.int .i64 a0_0,.int .i64 a0_1]) (t:=30) ?hr ?_;(case hd => rfl);(case hg => rfl);(case hr => first|(go_simp;done)|(go_simp;rfl));intro gb165 hg w13 hbox hb;have n0_:=aMk (below_step (by repeat first|exact HB.out|apply bwA|apply bwN|apply bw1) hb);have n1_:=aMk (hbox);have n2_:=aMk ((by rw [hg];exact (below_size (by repeat first|exact HB.out|apply bwA|apply bwN|apply bw1)) : w.heap.size ≤ gb165));have n3_:=aMk ((by rw [hg];exact (below_size (by repeat first|exact HB.out|apply bwA|apply bwN|apply bw1)) : w.heap.size ≤ gb165));clear HB;have HB:=n0_;have BK165:=n1_;have GW165:=n2_;have GE165:=n3_;clear n0_ n1_ n2_ n3_;clear hb hbox hg;have hcz14_0 : w13.cell? ⟨gb165,0,none⟩ = some (.int .i64 a0_0):=(bCe BK165.out 0).trans rfl;have hcz14_1 : w13.cell? ⟨gb165,1,none⟩ = some (.int .i64 a0_1):=(bCe BK165.out 1).trans rfl;have hfz14_0:=bFr BK165.out 0;have hfz14_1:=bFr BK165.out 1)|(go_at_call 54;(with_reducible refine (impl_isAddress.calls a0_0 false _ A2.out).mono ?_);rintro e w' ⟨rfl,⟨nd,rfl⟩⟩;(try first|exact ⟨rfl,_,World.drewN_drewN _ _ _⟩|exact ⟨rfl,_,Eq.trans (World.drewN_drewN _ _ _) (congrArg (World.drewN _) (Nat.add_assoc _ _ _))⟩))))
  go_ret
  exact ⟨by first | rfl|(simp [errW_none,errW_some] <;> rfl)|(simp [*,errW_none,errW_some] <;> rfl),by repeat (first|(with_reducible first|exact HB.out|apply bwA|apply bwN|apply bw1|refine below_set ?_ GE165.out)|exact HB.out)⟩
end
section
/-! ### impl_rangeOK: function 34 -/
def impl_rangeOK.f (a0_0 : Int) (a0_1 : Int) : Option (Bool):=(impl_within.f a0_0 0 a0_1).bind fun t169 => (if t169 = true then (some (decide (a0_1 ≤ 65535))) else (some false))
set_option maxHeartbeats 8000000 in
set_option maxRecDepth 100000 in
theorem impl_rangeOK.calls (a0_0 : Int) (a0_1 : Int) (r : Bool) (w : World) (h : impl_rangeOK.f a0_0 a0_1 = some r) :
  Calls Tryd.prog 34 #[.agg #[.int .i64 a0_0,.int .i64 a0_1]] w fun e w' => e = .returned (.bool r) ∧ Below w.heap.size w w':=by
 have hu31:=Tryd.underlying31
 have HB:=aMk (Below.refl w.heap.size w)
 have H : ((impl_within.f a0_0 0 a0_1).bind fun t169 => (if t169 = true then (some (decide (a0_1 ≤ 65535))) else (some false))) = some r:=h
 clear h
 replace H:=Option.bind_eq_some_iff.mp H
 obtain ⟨t169,A20,H⟩:=H
 replace H : (if t169 = true then (some (decide (a0_1 ≤ 65535))) else (some false)) = some r:=H
 have A2:=aMk A20
 clear A20
 by_cases c3 : t169 = true
 ·subst c3
  have H1 : (some (decide (a0_1 ≤ 65535))) = some r:=by rw [if_pos rfl] at H;exact H
  clear H
  have H:=H1
  clear H1
  obtain rfl:=Option.some.inj H
  go_enter Tryd.func34,Tryd.ntmps34
  go_wp2_with (first|((with_reducible refine gate_dst (N:=1) rfl ?_);refine box_event ?hg (N:=1) ?hd (cs:=#[.int .i64 a0_0,.int .i64 a0_1]) (t:=31) ?hr ?_;(case hd => rfl);(case hg => rfl);(case hr => first|(go_simp;done)|(go_simp;rfl));intro gb168 hg w4 hbox hb;have n0_:=aMk (below_step (by repeat first|exact HB.out|apply bwA|apply bwN|apply bw1) hb);have n1_:=aMk (hbox);have n2_:=aMk ((by rw [hg];exact (below_size (by repeat first|exact HB.out|apply bwA|apply bwN|apply bw1)) : w.heap.size ≤ gb168));have n3_:=aMk ((by rw [hg];exact (below_size (by repeat first|exact HB.out|apply bwA|apply bwN|apply bw1)) : w.heap.size ≤ gb168));clear HB;have HB:=n0_;have BK168:=n1_;have GW168:=n2_;have GE168:=n3_;clear n0_ n1_ n2_ n3_;clear hb hbox hg;have hcz5_0 : w4.cell? ⟨gb168,0,none⟩ = some (.int .i64 a0_0):=(bCe BK168.out 0).trans rfl;have hcz5_1 : w4.cell? ⟨gb168,1,none⟩ = some (.int .i64 a0_1):=(bCe BK168.out 1).trans rfl;have hfz5_0:=bFr BK168.out 0;have hfz5_1:=bFr BK168.out 1)|((with_reducible refine gate_callee (f:=55) rfl ?_);refine goesL_ (some 7) rfl rfl Tryd.func55 (by kernel_rfl) rfl #[.int .i64 a0_0,.int .i64 0,.int .i64 a0_1] rfl (by (try simp only [List.map_toArray,List.map_cons,List.map_nil]);first | done | rfl|(simp only [List.length_drop,List.length_take];rfl)) ?_;(with_reducible refine (impl_within.calls a0_0 0 a0_1 true _ A2.out).mono ?_);rintro e w' ⟨rfl,⟨nd,rfl⟩⟩;refine ⟨_,rfl,?_⟩))
  go_ret
  exact ⟨by first | rfl|(simp [errW_none,errW_some] <;> rfl)|(simp [*,errW_none,errW_some] <;> rfl),by repeat (first|(with_reducible first|exact HB.out|apply bwA|apply bwN|apply bw1|refine below_set ?_ GE168.out)|exact HB.out)⟩
 ·replace c3:=Bool.eq_false_iff.mpr c3
  subst c3
  have H1 : (some false) = some r:=by rw [if_neg (show ¬ (false = true) by decide)] at H;exact H
  clear H
  have H:=H1
  clear H1
  obtain rfl:=Option.some.inj H
  go_enter Tryd.func34,Tryd.ntmps34
  go_wp2_with (first|((with_reducible refine gate_dst (N:=1) rfl ?_);refine box_event ?hg (N:=1) ?hd (cs:=#[.int .i64 a0_0,.int .i64 a0_1]) (t:=31) ?hr ?_;(case hd => rfl);(case hg => rfl);(case hr => first|(go_simp;done)|(go_simp;rfl));intro gb168 hg w6 hbox hb;have n0_:=aMk (below_step (by repeat first|exact HB.out|apply bwA|apply bwN|apply bw1) hb);have n1_:=aMk (hbox);have n2_:=aMk ((by rw [hg];exact (below_size (by repeat first|exact HB.out|apply bwA|apply bwN|apply bw1)) : w.heap.size ≤ gb168));have n3_:=aMk ((by rw [hg];exact (below_size (by repeat first|exact HB.out|apply bwA|apply bwN|apply bw1)) : w.heap.size ≤ gb168));clear HB;have HB:=n0_;have BK168:=n1_;have GW168:=n2_;have GE168:=n3_;clear n0_ n1_ n2_ n3_;clear hb hbox hg;have hcz7_0 : w6.cell? ⟨gb168,0,none⟩ = some (.int .i64 a0_0):=(bCe BK168.out 0).trans rfl;have hcz7_1 : w6.cell? ⟨gb168,1,none⟩ = some (.int .i64 a0_1):=(bCe BK168.out 1).trans rfl;have hfz7_0:=bFr BK168.out 0;have hfz7_1:=bFr BK168.out 1)|((with_reducible refine gate_callee (f:=55) rfl ?_);refine goesL_ (some 7) rfl rfl Tryd.func55 (by kernel_rfl) rfl #[.int .i64 a0_0,.int .i64 0,.int .i64 a0_1] rfl (by (try simp only [List.map_toArray,List.map_cons,List.map_nil]);first | done | rfl|(simp only [List.length_drop,List.length_take];rfl)) ?_;(with_reducible refine (impl_within.calls a0_0 0 a0_1 false _ A2.out).mono ?_);rintro e w' ⟨rfl,⟨nd,rfl⟩⟩;refine ⟨_,rfl,?_⟩))
  go_ret
  exact ⟨by first | rfl|(simp [errW_none,errW_some] <;> rfl)|(simp [*,errW_none,errW_some] <;> rfl),by repeat (first|(with_reducible first|exact HB.out|apply bwA|apply bwN|apply bw1|refine below_set ?_ GE168.out)|exact HB.out)⟩
end
section
/-! ### impl_RuleOK: function 18 -/
def impl_RuleOK.f (k : Nat) (a0_0 : Int) (a0_1 : Int) (a0_2 : Int) (a0_3 : Int) (a0_4 : Int) (a0_5 : Bool) : Option (Bool):=(slices_Contains_int_int.f k (([0,1,6,17] : List Int)) a0_0).bind fun t174 => (if t174 = true then ((impl_NetOK.f a0_1 a0_2).bind fun t175 => (if t175 = true then ((impl_rangeOK.f a0_3 a0_4).bind fun t176 => (some t176)) else (some false))) else (some false))
theorem impl_RuleOK.mono : ∀ a0 a1 a2 a3 a4 a5 k,LeO (impl_RuleOK.f k a0 a1 a2 a3 a4 a5) (impl_RuleOK.f (k + 1) a0 a1 a2 a3 a4 a5):=by
 intro a0 a1 a2 a3 a4 a5 k
 unfold impl_RuleOK.f
 repeat' first
   | (with_reducible exact slices_Contains_int_int.mono ..)
   | (with_reducible exact LeO.refl _)
   | (with_reducible exact LeO.none _)
   | (with_reducible refine LeO.ite ?_ ?_)
   | (with_reducible refine LeO.bind ?_ (fun _ => ?_))
   | exact slices_Contains_int_int.mono ..
   | exact LeO.none _
   | refine LeO.ite ?_ ?_
   | refine LeO.bind ?_ (fun _ => ?_)
set_option maxHeartbeats 8000000 in
set_option maxRecDepth 100000 in
theorem impl_RuleOK.calls (k : Nat) (a0_0 : Int) (a0_1 : Int) (a0_2 : Int) (a0_3 : Int) (a0_4 : Int) (a0_5 : Bool) (r : Bool) (w : World) (h : impl_RuleOK.f k a0_0 a0_1 a0_2 a0_3 a0_4 a0_5 = some r) :
  Calls Tryd.prog 18 #[.agg #[.int .i64 a0_0,.int .i64 a0_1,.int .i64 a0_2,.int .i64 a0_3,.int .i64 a0_4,.bool a0_5]] w fun e w' => e = .returned (.bool r) ∧ Below w.heap.size w w':=by
 have hu33:=Tryd.underlying33
 have hu30:=Tryd.underlying30
 have hu31:=Tryd.underlying31
 have HB:=aMk (Below.refl w.heap.size w)
 have H : ((slices_Contains_int_int.f k (([0,1,6,17] : List Int)) a0_0).bind fun t174 => (if t174 = true then ((impl_NetOK.f a0_1 a0_2).bind fun t175 => (if t175 = true then ((impl_rangeOK.f a0_3 a0_4).bind fun t176 => (some t176)) else (some false))) else (some false))) = some r:=h
 clear h
 obtain ⟨y171,hy171⟩ : ∃ y_ : List Int,y_ = (([0,1,6,17] : List Int)):=⟨_,rfl⟩
 replace H : ((slices_Contains_int_int.f k y171 a0_0).bind fun t174 => (if t174 = true then ((impl_NetOK.f a0_1 a0_2).bind fun t175 => (if t175 = true then ((impl_rangeOK.f a0_3 a0_4).bind fun t176 => (some t176)) else (some false))) else (some false))) = some r:=by first|(rw [hy171];with_reducible exact H)|(have H2_:=(Option.bind_some _ _).symm.trans H;rw [hy171];with_reducible exact H2_)|(have H2_:=(Option.bind_some _ _).symm.trans H;with_reducible exact H2_) | with_reducible exact H|(rw [hy171];exact H)|exact H
 have Ny171:=aMk hy171
 clear hy171
 replace H:=Option.bind_eq_some_iff.mp H
 obtain ⟨t174,A20,H⟩:=H
 replace H : (if t174 = true then ((impl_NetOK.f a0_1 a0_2).bind fun t175 => (if t175 = true then ((impl_rangeOK.f a0_3 a0_4).bind fun t176 => (some t176)) else (some false))) else (some false)) = some r:=H
 have A2:=aMk A20
 clear A20
 by_cases c3 : t174 = true
 ·subst c3
  have H1 : ((impl_NetOK.f a0_1 a0_2).bind fun t175 => (if t175 = true then ((impl_rangeOK.f a0_3 a0_4).bind fun t176 => (some t176)) else (some false))) = some r:=by rw [if_pos rfl] at H;exact H
  clear H
  have H:=H1
  clear H1
  replace H:=Option.bind_eq_some_iff.mp H
  obtain ⟨t175,A40,H⟩:=H
  replace H : (if t175 = true then ((impl_rangeOK.f a0_3 a0_4).bind fun t176 => (some t176)) else (some false)) = some r:=H
  have A4:=aMk A40
  clear A40
  by_cases c5 : t175 = true
  ·subst c5
   have H1 : ((impl_rangeOK.f a0_3 a0_4).bind fun t176 => (some t176)) = some r:=by rw [if_pos rfl] at H;exact H
   clear H
   have H:=H1
   clear H1
   replace H:=Option.bind_eq_some_iff.mp H
   obtain ⟨t176,A60,H⟩:=H
   replace H : (some t176) = some r:=H
   have A6:=aMk A60
   clear A60
   obtain rfl:=Option.some.inj H
   go_enter Tryd.func18,Tryd.ntmps18
   go_wp2_with (first|((with_reducible refine gate_dst (N:=1) rfl ?_);refine box_event ?hg (N:=1) ?hd (cs:=#[.int .i64 a0_0,.int .i64 a0_1,.int .i64 a0_2,.int .i64 a0_3,.int .i64 a0_4,.bool a0_5]) (t:=33) ?hr ?_;(case hd => rfl);(case hg => rfl);(case hr => first|(go_simp;done)|(go_simp;rfl));intro gb170 hg w7 hbox hb;have n0_:=aMk (below_step (by repeat first|exact HB.out|apply bwA|apply bwN|apply bw1) hb);have n1_:=aMk (hbox);have n2_:=aMk ((by rw [hg];exact (below_size (by repeat first|exact HB.out|apply bwA|apply bwN|apply bw1)) : w.heap.size ≤ gb170));have n3_:=aMk ((by rw [hg];exact (below_size (by repeat first|exact HB.out|apply bwA|apply bwN|apply bw1)) : w.heap.size ≤ gb170));clear HB;have HB:=n0_;have BK170:=n1_;have GW170:=n2_;have GE170:=n3_;clear n0_ n1_ n2_ n3_;clear hb hbox hg)|((with_reducible refine gate_dst (N:=3) rfl ?_);refine Kd.R_lit (Kd.int .i64) _ 3 ?hg (N:=3) ?hd (xs:=([0,1,6,17] : List Int)) (inner:=[.int .i64 0,.int .i64 1,.int .i64 6,.int .i64 17]) (ok:=fun _ => True) (okp:=fun _ => True) ?hr ?hp (fun _ hk => hk) trivial (Below.refl _ _) (Nat.le_refl _) (by simp) ?_;(case hd => rfl);(case hg => rfl);(case hr => first|(go_simp;done)|(go_simp;rfl));(case hp => exact (Reps.one (show Kd.M (Kd.int .i64) _ _ _ 0 [.int .i64 0] from rfl) (Reps.one (show Kd.M (Kd.int .i64) _ _ _ 1 [.int .i64 1] from rfl) (Reps.one (show Kd.M (Kd.int .i64) _ _ _ 6 [.int .i64 6] from rfl) (Reps.one (show Kd.M (Kd.int .i64) _ _ _ 17 [.int .i64 17] from rfl) (Reps.none _ _))))));intro v172 w8 ho9 hb hg_ hnew_;clear hg_ hnew_;(first|rw [← Ny171.out] at ho9|(simp only [Int.reduceToNat] at ho9;rw [← Ny171.out] at ho9));have n0_:=aMk (Kd.R_lower ho9 (below_size (by repeat (first|(with_reducible first|exact HB.out|apply bwA|apply bwN|apply bw1|refine below_set ?_ GE170.out)|exact HB.out))));have n1_:=aMk (blk_below (g:=gb170) (o:=.cells #[.int .i64 a0_0,.int .i64 a0_1,.int .i64 a0_2,.int .i64 a0_3,.int .i64 a0_4,.bool a0_5] 33 (0,0)) (by (with_reducible repeat (first|refine bDn ?_ _|refine bDr ?_|refine bAl ?_ _));exact BK170.out) hb);have n2_:=aMk (below_step (by repeat (first|(with_reducible first|exact HB.out|apply bwA|apply bwN|apply bw1|refine below_set ?_ GE170.out)|exact HB.out)) hb);clear BK170;clear HB;have HO173:=n0_;have BK170:=n1_;have HB:=n2_;clear n0_ n1_ n2_;clear hb ho9;have hcz10_0 : w8.cell? ⟨gb170,0,none⟩ = some (.int .i64 a0_0):=(bCe BK170.out 0).trans rfl;have hcz10_1 : w8.cell? ⟨gb170,1,none⟩ = some (.int .i64 a0_1):=(bCe BK170.out 1).trans rfl;have hcz10_2 : w8.cell? ⟨gb170,2,none⟩ = some (.int .i64 a0_2):=(bCe BK170.out 2).trans rfl;have hcz10_3 : w8.cell? ⟨gb170,3,none⟩ = some (.int .i64 a0_3):=(bCe BK170.out 3).trans rfl;have hcz10_4 : w8.cell? ⟨gb170,4,none⟩ = some (.int .i64 a0_4):=(bCe BK170.out 4).trans rfl;have hcz10_5 : w8.cell? ⟨gb170,5,none⟩ = some (.bool a0_5):=(bCe BK170.out 5).trans rfl;have hfz10_0:=bFr BK170.out 0;have hfz10_1:=bFr BK170.out 1;have hfz10_2:=bFr BK170.out 2;have hfz10_3:=bFr BK170.out 3;have hfz10_4:=bFr BK170.out 4;have hfz10_5:=bFr BK170.out 5;obtain ⟨Ao11,co11,eo11⟩:=Kd.R_slice HO173.out;subst eo11)|((with_reducible refine gate_callee (f:=32) rfl ?_);refine goesL_ (some 6) rfl rfl Tryd.func32 (by kernel_rfl) rfl #[.slice Ao11 y171.length co11,.int .i64 a0_0] rfl (by (try simp only [List.map_toArray,List.map_cons,List.map_nil]);first | done | rfl|(simp only [List.length_drop,List.length_take];rfl)) ?_;(with_reducible refine (slices_Contains_int_int.calls k _ _ y171 a0_0 true _ ?side1 ?side2 A2.out).mono ?_);(case side1 => repeat (first|exact (Kd.R_reads' HO173.out).2.2|(with_reducible refine Kd.C_alloc ?_ _)|(with_reducible refine Kd.C_drewN ?_ _)|(with_reducible refine Kd.C_drew ?_)));(case side2 => exact (Kd.R_reads' HO173.out).2.1);rintro e w' ⟨rfl,⟨nd,rfl⟩⟩;refine ⟨_,rfl,?_⟩)|(go_at_call 33;(with_reducible refine (impl_NetOK.calls a0_1 a0_2 true _ A4.out).mono ?_);rintro e w12 ⟨rfl,hb⟩;have n0_:=aMk (Kd.R_below (by (with_reducible repeat (first|apply Kd.R_alloc|apply Kd.R_drewN|apply Kd.R_drew));exact HO173.out) hb);have n1_:=aMk (blk_below (g:=gb170) (o:=.cells #[.int .i64 a0_0,.int .i64 a0_1,.int .i64 a0_2,.int .i64 a0_3,.int .i64 a0_4,.bool a0_5] 33 (0,0)) (by (with_reducible repeat (first|refine bDn ?_ _|refine bDr ?_|refine bAl ?_ _));exact BK170.out) hb);have n2_:=aMk (below_step (by repeat (first|(with_reducible first|exact HB.out|apply bwA|apply bwN|apply bw1|refine below_set ?_ GE170.out)|exact HB.out)) hb);clear HO173;clear BK170;clear HB;have HO173:=n0_;have BK170:=n1_;have HB:=n2_;clear n0_ n1_ n2_;(try clear hb);(try clear hb2);(try clear hk);(try clear hi);have hcz13_0 : w12.cell? ⟨gb170,0,none⟩ = some (.int .i64 a0_0):=(bCe BK170.out 0).trans rfl;have hcz13_1 : w12.cell? ⟨gb170,1,none⟩ = some (.int .i64 a0_1):=(bCe BK170.out 1).trans rfl;have hcz13_2 : w12.cell? ⟨gb170,2,none⟩ = some (.int .i64 a0_2):=(bCe BK170.out 2).trans rfl;have hcz13_3 : w12.cell? ⟨gb170,3,none⟩ = some (.int .i64 a0_3):=(bCe BK170.out 3).trans rfl;have hcz13_4 : w12.cell? ⟨gb170,4,none⟩ = some (.int .i64 a0_4):=(bCe BK170.out 4).trans rfl;have hcz13_5 : w12.cell? ⟨gb170,5,none⟩ = some (.bool a0_5):=(bCe BK170.out 5).trans rfl;have hfz13_0:=bFr BK170.out 0;have hfz13_1:=bFr BK170.out 1;have hfz13_2:=bFr BK170.out 2;have hfz13_3:=bFr BK170.out 3;have hfz13_4:=bFr BK170.out 4;have hfz13_5:=bFr BK170.out 5)|(go_at_call 34;(with_reducible refine (impl_rangeOK.calls a0_3 a0_4 t176 _ A6.out).mono ?_);rintro e w14 ⟨rfl,hb⟩;have n0_:=aMk (Kd.R_below (by (with_reducible repeat (first|apply Kd.R_alloc|apply Kd.R_drewN|apply Kd.R_drew));exact HO173.out) hb);have n1_:=aMk (blk_below (g:=gb170) (o:=.cells #[.int .i64 a0_0,.int .i64 a0_1,.int .i64 a0_2,.int .i64 a0_3,.int .i64 a0_4,.bool a0_5] 33 (0,0)) (by (with_reducible repeat (first|refine bDn ?_ _|refine bDr ?_|refine bAl ?_ _));exact BK170.out) hb);have n2_:=aMk (below_step (by repeat (first|(with_reducible first|exact HB.out|apply bwA|apply bwN|apply bw1|refine below_set ?_ GE170.out)|exact HB.out)) hb);clear HO173;clear BK170;clear HB;have HO173:=n0_;have BK170:=n1_;have HB:=n2_;clear n0_ n1_ n2_;(try clear hb);(try clear hb2);(try clear hk);(try clear hi)))
   go_ret
   exact ⟨by first | rfl|(simp [errW_none,errW_some] <;> rfl)|(simp [*,errW_none,errW_some] <;> rfl),by repeat (first|(with_reducible first|exact HB.out|apply bwA|apply bwN|apply bw1|refine below_set ?_ GE170.out)|exact HB.out)⟩
  ·replace c5:=Bool.eq_false_iff.mpr c5
   subst c5
   have H1 : (some false) = some r:=by rw [if_neg (show ¬ (false = true) by decide)] at H;exact H
   clear H
   have H:=H1
   clear H1
   obtain rfl:=Option.some.inj H
   go_enter Tryd.func18,Tryd.ntmps18
   go_wp2_with (first|((with_reducible refine gate_dst (N:=1) rfl ?_);refine box_event ?hg (N:=1) ?hd (cs:=#[.int .i64 a0_0,.int .i64 a0_1,.int .i64 a0_2,.int .i64 a0_3,.int .i64 a0_4,.bool a0_5]) (t:=33) ?hr ?_;(case hd => rfl);(case hg => rfl);(case hr => first|(go_simp;done)|(go_simp;rfl));intro gb170 hg w15 hbox hb;have n0_:=aMk (below_step (by repeat first|exact HB.out|apply bwA|apply bwN|apply bw1) hb);have n1_:=aMk (hbox);have n2_:=aMk ((by rw [hg];exact (below_size (by repeat first|exact HB.out|apply bwA|apply bwN|apply bw1)) : w.heap.size ≤ gb170));have n3_:=aMk ((by rw [hg];exact (below_size (by repeat first|exact HB.out|apply bwA|apply bwN|apply bw1)) : w.heap.size ≤ gb170));clear HB;have HB:=n0_;have BK170:=n1_;have GW170:=n2_;have GE170:=n3_;clear n0_ n1_ n2_ n3_;clear hb hbox hg)|((with_reducible refine gate_dst (N:=3) rfl ?_);refine Kd.R_lit (Kd.int .i64) _ 3 ?hg (N:=3) ?hd (xs:=([0,1,6,17] : List Int)) (inner:=[.int .i64 0,.int .i64 1,.int .i64 6,.int .i64 17]) (ok:=fun _ => True) (okp:=fun _ => True) ?hr ?hp (fun _ hk => hk) trivial (Below.refl _ _) (Nat.le_refl _) (by simp) ?_;(case hd => rfl);(case hg => rfl);(case hr => first|(go_simp;done)|(go_simp;rfl));(case hp => exact (Reps.one (show Kd.M (Kd.int .i64) _ _ _ 0 [.int .i64 0] from rfl) (Reps.one (show Kd.M (Kd.int .i64) _ _ _ 1 [.int .i64 1] from rfl) (Reps.one (show Kd.M (Kd.int .i64) _ _ _ 6 [.int .i64 6] from rfl) (Reps.one (show Kd.M (Kd.int .i64) _ _ _ 17 [.int .i64 17] from rfl) (Reps.none _ _))))));intro v172 w16 ho17 hb hg_ hnew_;clear hg_ hnew_;(first|rw [← Ny171.out] at ho17|(simp only [Int.reduceToNat] at ho17;rw [← Ny171.out] at ho17));have n0_:=aMk (Kd.R_lower ho17 (below_size (by repeat (first|(with_reducible first|exact HB.out|apply bwA|apply bwN|apply bw1|refine below_set ?_ GE170.out)|exact HB.out))));have n1_:=aMk (blk_below (g:=gb170) (o:=.cells #[.int .i64 a0_0,.int .i64 a0_1,.int .i64 a0_2,.int .i64 a0_3,.int .i64 a0_4,.bool a0_5] 33 (0,0)) (by (with_reducible repeat (first|refine bDn ?_ _|refine bDr ?_|refine bAl ?_ _));exact BK170.out) hb);have n2_:=aMk (below_step (by repeat (first|(with_reducible first|exact HB.out|apply bwA|apply bwN|apply bw1|refine below_set ?_ GE170.out)|exact HB.out)) hb);clear BK170;clear HB;have HO173:=n0_;have BK170:=n1_;have HB:=n2_;clear n0_ n1_ n2_;clear hb ho17;have hcz18_0 : w16.cell? ⟨gb170,0,none⟩ = some (.int .i64 a0_0):=(bCe BK170.out 0).trans rfl;have hcz18_1 : w16.cell? ⟨gb170,1,none⟩ = some (.int .i64 a0_1):=(bCe BK170.out 1).trans rfl;have hcz18_2 : w16.cell? ⟨gb170,2,none⟩ = some (.int .i64 a0_2):=(bCe BK170.out 2).trans rfl;have hcz18_3 : w16.cell? ⟨gb170,3,none⟩ = some (.int .i64 a0_3):=(bCe BK170.out 3).trans rfl;have hcz18_4 : w16.cell? ⟨gb170,4,none⟩ = some (.int .i64 a0_4):=(bCe BK170.out 4).trans rfl;have hcz18_5 : w16.cell? ⟨gb170,5,none⟩ = some (.bool a0_5):=(bCe BK170.out 5).trans rfl;have hfz18_0:=bFr BK170.out 0;have hfz18_1:=bFr BK170.out 1;have hfz18_2:=bFr BK170.out 2;have hfz18_3:=bFr BK170.out 3;have hfz18_4:=bFr BK170.out 4;have hfz18_5:=bFr BK170.out 5;obtain ⟨Ao19,co19,eo19⟩:=Kd.R_slice HO173.out;subst eo19)|((with_reducible refine gate_callee (f:=32) rfl ?_);refine goesL_ (some 6) rfl rfl Tryd.func32 (by kernel_rfl) rfl #[.slice Ao19 y171.length co19,.int .i64 a0_0] rfl (by (try simp only [List.map_toArray,List.map_cons,List.map_nil]);first | done | rfl|(simp only [List.length_drop,List.length_take];rfl)) ?_;(with_reducible refine (slices_Contains_int_int.calls k _ _ y171 a0_0 true _ ?side1 ?side2 A2.out).mono ?_);(case side1 => repeat (first|exact (Kd.R_reads' HO173.out).2.2|(with_reducible refine Kd.C_alloc ?_ _)|(with_reducible refine Kd.C_drewN ?_ _)|(with_reducible refine Kd.C_drew ?_)));(case side2 => exact (Kd.R_reads' HO173.out).2.1);rintro e w' ⟨rfl,⟨nd,rfl⟩⟩;refine ⟨_,rfl,?_⟩)|(go_at_call 33;(with_reducible refine (impl_NetOK.calls a0_1 a0_2 false _ A4.out).mono ?_);rintro e w20 ⟨rfl,hb⟩;have n0_:=aMk (Kd.R_below (by (with_reducible repeat (first|apply Kd.R_alloc|apply Kd.R_drewN|apply Kd.R_drew));exact HO173.out) hb);have n1_:=aMk (blk_below (g:=gb170) (o:=.cells #[.int .i64 a0_0,.int .i64 a0_1,.int .i64 a0_2,.int .i64 a0_3,.int .i64 a0_4,.bool a0_5] 33 (0,0)) (by (with_reducible repeat (first|refine bDn ?_ _|refine bDr ?_|refine bAl ?_ _));exact BK170.out) hb);have n2_:=aMk (below_step (by repeat (first|(with_reducible first|exact HB.out|apply bwA|apply bwN|apply bw1|refine below_set ?_ GE170.out)|exact HB.out)) hb);clear HO173;clear BK170;clear HB;have HO173:=n0_;have BK170:=n1_;have HB:=n2_;clear n0_ n1_ n2_;(try clear hb);(try clear hb2);(try clear hk);(try clear hi)))
   go_ret
   exact ⟨by first | rfl|(simp [errW_none,errW_some] <;> rfl)|(simp [*,errW_none,errW_some] <;> rfl),by repeat (first|(with_reducible first|exact HB.out|apply bwA|apply bwN|apply bw1|refine below_set ?_ GE170.out)|exact HB.out)⟩
 ·replace c3:=Bool.eq_false_iff.mpr c3
  subst c3
  have H1 : (some false) = some r:=by rw [if_neg (show ¬ (false = true) by decide)] at H;exact H
  clear H
  have H:=H1
  clear H1
  obtain rfl:=Option.some.inj H
  go_enter Tryd.func18,Tryd.ntmps18
  go_wp2_with (first|((with_reducible refine gate_dst (N:=1) rfl ?_);refine box_event ?hg (N:=1) ?hd (cs:=#[.int .i64 a0_0,.int .i64 a0_1,.int .i64 a0_2,.int .i64 a0_3,.int .i64 a0_4,.bool a0_5]) (t:=33) ?hr ?_;(case hd => rfl);(case hg => rfl);(case hr => first|(go_simp;done)|(go_simp;rfl));intro gb170 hg w21 hbox hb;have n0_:=aMk (below_step (by repeat first|exact HB.out|apply bwA|apply bwN|apply bw1) hb);have n1_:=aMk (hbox);have n2_:=aMk ((by rw [hg];exact (below_size (by repeat first|exact HB.out|apply bwA|apply bwN|apply bw1)) : w.heap.size ≤ gb170));have n3_:=aMk ((by rw [hg];exact (below_size (by repeat first|exact HB.out|apply bwA|apply bwN|apply bw1)) : w.heap.size ≤ gb170));clear HB;have HB:=n0_;have BK170:=n1_;have GW170:=n2_;have GE170:=n3_;clear n0_ n1_ n2_ n3_;clear hb hbox hg)|((with_reducible refine gate_dst (N:=3) rfl ?_);refine Kd.R_lit (Kd.int .i64) _ 3 ?hg (N:=3) ?hd (xs:=([0,1,6,17] : List Int)) (inner:=[.int .i64 0,.int .i64 1,.int .i64 6,.int .i64 17]) (ok:=fun _ => True) (okp:=fun _ => True) ?hr ?hp (fun _ hk => hk) trivial (Below.refl _ _) (Nat.le_refl _) (by simp) ?_;(case hd => rfl);(case hg => rfl);(case hr => first|(go_simp;done)|(go_simp;rfl));(case hp => exact (Reps.one (show Kd.M (Kd.int .i64) _ _ _ 0 [.int .i64 0] from rfl) (Reps.one (show Kd.M (Kd.int .i64) _ _ _ 1 [.int .i64 1] from rfl) (Reps.one (show Kd.M (Kd.int .i64) _ _ _ 6 [.int .i64 6] from rfl) (Reps.one (show Kd.M (Kd.int .i64) _ _ _ 17 [.int .i64 17] from rfl) (Reps.none _ _))))));intro v172 w22 ho23 hb hg_ hnew_;clear hg_ hnew_;(first|rw [← Ny171.out] at ho23|(simp only [Int.reduceToNat] at ho23;rw [← Ny171.out] at ho23));have n0_:=aMk (Kd.R_lower ho23 (below_size (by repeat (first|(with_reducible first|exact HB.out|apply bwA|apply bwN|apply bw1|refine below_set ?_ GE170.out)|exact HB.out))));have n1_:=aMk (blk_below (g:=gb170) (o:=.cells #[.int .i64 a0_0,.int .i64 a0_1,.int .i64 a0_2,.int .i64 a0_3,.int .i64 a0_4,.bool a0_5] 33 (0,0)) (by (with_reducible repeat (first|refine bDn ?_ _|refine bDr ?_|refine bAl ?_ _));exact BK170.out) hb);have n2_:=aMk (below_step (by repeat (first|(with_reducible first|exact HB.out|apply bwA|apply bwN|apply bw1|refine below_set ?_ GE170.out)|exact HB.out)) hb);clear BK170;clear HB;have HO173:=n0_;have BK170:=n1_;have HB:=n2_;clear n0_ n1_ n2_;clear hb ho23;have hcz24_0 : w22.cell? ⟨gb170,0,none⟩ = some (.int .i64 a0_0):=(bCe BK170.out 0).trans rfl;have hcz24_1 : w22.cell? ⟨gb170,1,none⟩ = some (.int .i64 a0_1):=(bCe BK170.out 1).trans rfl;have hcz24_2 : w22.cell? ⟨gb170,2,none⟩ = some (.int .i64 a0_2):=(bCe BK170.out 2).trans rfl;have hcz24_3 : w22.cell? ⟨gb170,3,none⟩ = some (.int .i64 a0_3):=(bCe BK170.out 3).trans rfl;have hcz24_4 : w22.cell? ⟨gb170,4,none⟩ = some (.int .i64 a0_4):=(bCe BK170.out 4).trans rfl;have hcz24_5 : w22.cell? ⟨gb170,5,none⟩ = some (.bool a0_5):=(bCe BK170.out 5).trans rfl;have hfz24_0:=bFr BK170.out 0;have hfz24_1:=bFr BK170.out 1;have hfz24_2:=bFr BK170.out 2;have hfz24_3:=bFr BK170.out 3;have hfz24_4:=bFr BK170.out 4;have hfz24_5:=bFr BK170.out 5;obtain ⟨Ao25,co25,eo25⟩:=Kd.R_slice HO173.out;subst eo25)|((with_reducible refine gate_callee (f:=32) rfl ?_);refine goesL_ (some 6) rfl rfl Tryd.func32 (by kernel_rfl) rfl #[.slice Ao25 y171.length co25,.int .i64 a0_0] rfl (by (try simp only [List.map_toArray,List.map_cons,List.map_nil]);first | done | rfl|(simp only [List.length_drop,List.length_take];rfl)) ?_;(with_reducible refine (slices_Contains_int_int.calls k _ _ y171 a0_0 false _ ?side1 ?side2 A2.out).mono ?_);(case side1 => repeat (first|exact (Kd.R_reads' HO173.out).2.2|(with_reducible refine Kd.C_alloc ?_ _)|(with_reducible refine Kd.C_drewN ?_ _)|(with_reducible refine Kd.C_drew ?_)));(case side2 => exact (Kd.R_reads' HO173.out).2.1);rintro e w' ⟨rfl,⟨nd,rfl⟩⟩;refine ⟨_,rfl,?_⟩))
  go_ret
  exact ⟨by first | rfl|(simp [errW_none,errW_some] <;> rfl)|(simp [*,errW_none,errW_some] <;> rfl),by repeat (first|(with_reducible first|exact HB.out|apply bwA|apply bwN|apply bw1|refine below_set ?_ GE170.out)|exact HB.out)⟩
end
section
/-! ### strings_Split: function 44 -/
-- IMPORT Derived.Shelf.Strings.Split
def splitRen : Go.Shelf.Ren:=⟨fun x => match x with | 146 => 44 | 221 => 62 | 268 => 73 | 138 => 74 | 143 => 75 | 195 => 88 | 197 => 89 | 218 => 90 | 219 => 76 | 260 => 100 | 217 => 91 | 225 => 92 | 224 => 93 | 267 => 94 | 266 => 101 | 314 => 102 | n => n,fun x => match x with | 9 => 9 | 31 => 43 | 3 => 3 | 4 => 4 | 0 => 0 | 105 => 113 | 21 => 21 | 5 => 5 | 46 => 61 | 119 => 131 | 139 => 134 | 138 => 133 | 146 => 123 | 51 => 109 | n => n,fun x => match x with | 1 => 0 | 3 => 6 | 4 => 7 | n => n⟩
set_option maxRecDepth 100000 in
theorem splitLays : Go.Proofs.Lays.n146 Tryd.prog splitRen:={ mixed:=by kernel_rfl,f138:=Tryd.func74.trans (congrArg some (by kernel_rfl)),f143:=Tryd.func75.trans (congrArg some (by kernel_rfl)),f146:=Tryd.func44.trans (congrArg some (by kernel_rfl)),f195:=Tryd.func88.trans (congrArg some (by kernel_rfl)),f197:=Tryd.func89.trans (congrArg some (by kernel_rfl)),f217:=Tryd.func91.trans (congrArg some (by kernel_rfl)),f218:=Tryd.func90.trans (congrArg some (by kernel_rfl)),f219:=Tryd.func76.trans (congrArg some (by kernel_rfl)),f221:=Tryd.func62.trans (congrArg some (by kernel_rfl)),f224:=Tryd.func93.trans (congrArg some (by kernel_rfl)),f225:=Tryd.func92.trans (congrArg some (by kernel_rfl)),f260:=Tryd.func100.trans (congrArg some (by kernel_rfl)),f266:=Tryd.func101.trans (congrArg some (by kernel_rfl)),f267:=Tryd.func94.trans (congrArg some (by kernel_rfl)),f268:=Tryd.func73.trans (congrArg some (by kernel_rfl)),f314:=Tryd.func102.trans (congrArg some (by kernel_rfl)),t0:=Tryd.underlying0,a0:=Tryd.isAgg0,z0:=Tryd.sizeOf0,v0:=Tryd.zeroValue0,t3:=Tryd.underlying3,a3:=Tryd.isAgg3,z3:=Tryd.sizeOf3,v3:=Tryd.zeroValue3,t4:=Tryd.underlying4,a4:=Tryd.isAgg4,z4:=Tryd.sizeOf4,v4:=Tryd.zeroValue4,t5:=Tryd.underlying5,a5:=Tryd.isAgg5,z5:=Tryd.sizeOf5,v5:=Tryd.zeroValue5,t9:=Tryd.underlying9,a9:=Tryd.isAgg9,z9:=Tryd.sizeOf9,v9:=Tryd.zeroValue9,t21:=Tryd.underlying21,a21:=Tryd.isAgg21,z21:=Tryd.sizeOf21,v21:=Tryd.zeroValue21,t31:=Tryd.underlying43,a31:=Tryd.isAgg43,z31:=Tryd.sizeOf43,v31:=Tryd.zeroValue43,t46:=Tryd.underlying61,a46:=Tryd.isAgg61,z46:=Tryd.sizeOf61,v46:=Tryd.zeroValue61,t51:=Tryd.underlying109,a51:=Tryd.isAgg109,z51:=Tryd.sizeOf109,v51:=Tryd.zeroValue109,t105:=Tryd.underlying113,a105:=Tryd.isAgg113,z105:=Tryd.sizeOf113,v105:=Tryd.zeroValue113,t119:=Tryd.underlying131,a119:=Tryd.isAgg131,z119:=Tryd.sizeOf131,t138:=Tryd.underlying133,a138:=Tryd.isAgg133,z138:=Tryd.sizeOf133,v138:=Tryd.zeroValue133,t139:=Tryd.underlying134,a139:=Tryd.isAgg134,z139:=Tryd.sizeOf134,v139:=Tryd.zeroValue134,t146:=Tryd.underlying123,a146:=Tryd.isAgg123,z146:=Tryd.sizeOf123,v146:=Tryd.zeroValue123,g1:=by kernel_rfl,g3:=by kernel_rfl,g4:=by kernel_rfl }
theorem index_byte1 (c : UInt8) : ∀ l : List UInt8,Lib.index l [c] = Lib.indexByte l c
 | [] => rfl
 | b :: l => by
  have e : [c].isPrefixOf (b :: l) = (b == c):=by
   rw [List.isPrefixOf_cons_cons]
   simp [Bool.beq_comm,BEq.comm]
  rw [Lib.index,Lib.indexByte,e,index_byte1 c l]
/-- The pieces between the instances of a separator of one byte. -/
def splitOn1 (s sep : ByteArray) : List ByteArray:=Lib.splitB sep 0 (Lib.countB s sep) s
def strings_Split.f (a0 a1 : ByteArray) : Option (List ByteArray):=if a1.size = 1 ∧ a0.size < 4294967281 then some (splitOn1 a0 a1) else none
theorem strings_Split.calls (a0 a1 : ByteArray) (r : List ByteArray) (w : World) (h : strings_Split.f a0 a1 = some r) :
  Calls Tryd.prog 44 #[.string a0,.string a1] w fun e w' => ∃ v0_ : Value,e = .returned (v0_) ∧ Kd.R Kd.string 9 w' w.heap.size (fun _ => True) v0_ r ∧ Below w.heap.size w w':=by
 by_cases hb : a1.size = 1 ∧ a0.size < 4294967281
 ·rw [strings_Split.f,if_pos hb] at h
  obtain rfl:=Option.some.inj h
  obtain ⟨c,rfl⟩:=Lib.one_byte a1 hb.1
  have hle:=Lib.countB_le (⟨#[c]⟩ : ByteArray) (Nat.le_refl _) a0.size a0 (Nat.le_refl _)
  have hlen:=Lib.splitB_all (⟨#[c]⟩ : ByteArray) (Nat.le_refl _) 0 _ a0 rfl
  have hI : ∀ (x : ByteArray) (c2 : Array Value),x.size ≤ a0.size → Calls Tryd.prog 75 #[.string x,.string ⟨#[c]⟩] (w.alloc (.cells c2 9)) fun e w' => e = .returned (.int .i64 (Lib.indexB x ⟨#[c]⟩)) ∧ w' = w.alloc (.cells c2 9):=fun x c2 _ => by
   refine (Any.strings_Index_one (ρ:=splitRen) { splitLays with } x c _).mono fun e w' hh => ?_
   rw [show Lib.indexB x ⟨#[c]⟩ = Lib.indexByte x.data.toList c from index_byte1 c _]
   exact hh
  have hC : Calls Tryd.prog 74 #[.string a0,.string ⟨#[c]⟩] w fun e w' => e = .returned (.int .i64 (Lib.countB a0 ⟨#[c]⟩)) ∧ w' = w:=by
   refine (Any.strings_Count_one (ρ:=splitRen) { splitLays with } a0 c w).mono fun e w' ⟨he,hw⟩ => ⟨?_,hw⟩
   rw [he]
   show _ = Ending.returned (Value.int .i64 ((Lib.count a0.data.toList [c] : Nat) : Int))
   rw [Lib.count_one]
   rfl
  have cc:=Any.strings_genSplit_core (ρ:=splitRen) { splitLays with } (by kernel_rfl) a0 ⟨#[c]⟩ 0 (-1) (Lib.countB a0 ⟨#[c]⟩ + 1) w hb.2 (Nat.le_refl _) (Nat.zero_le _) hI hC (by decide) (by decide) (by rw [if_pos (by decide)];omega)
  rw [Nat.add_sub_cancel,hlen] at cc
  have e2 : Lib.cellsOf (Lib.splitB ⟨#[c]⟩ 0 (Lib.countB a0 ⟨#[c]⟩) a0) (Lib.countB a0 ⟨#[c]⟩ + 1) = ((Lib.splitB ⟨#[c]⟩ 0 (Lib.countB a0 ⟨#[c]⟩) a0).map Value.string).toArray:=by rw [← hlen];exact Lib.cellsOf_full _
  rw [e2] at cc
  go_enter Tryd.func44,Tryd.ntmps44
  go_wp2_with (go_at_call 62;refine cc.mono ?_;rintro e w' ⟨rfl,hw⟩;rw [hw])
  go_ret
  refine ⟨_,rfl,?_,(Below.refl _ w).alloc (Nat.le_refl _) _⟩
  have hO : OwnRow (Kd.string.M (w.alloc (.cells ((splitOn1 a0 ⟨#[c]⟩).map Value.string).toArray 9)) w.heap.size (fun k => True ∧ some k ≠ (Value.slice (some ⟨w.heap.size,0,none⟩) (splitOn1 a0 ⟨#[c]⟩).length (splitOn1 a0 ⟨#[c]⟩).length).ownBlock)) 9 1 (w.alloc (.cells ((splitOn1 a0 ⟨#[c]⟩).map Value.string).toArray 9)) w.heap.size (.slice (some ⟨w.heap.size,0,none⟩) (splitOn1 a0 ⟨#[c]⟩).length (splitOn1 a0 ⟨#[c]⟩).length) (splitOn1 a0 ⟨#[c]⟩):=by
   refine OwnRow.lit w w.heap.size ⟨by simp,fun j p hj => ?_⟩ (Nat.le_refl _) ?_
   ·show ((((splitOn1 a0 ⟨#[c]⟩).map Value.string).drop (j * 1)).take 1) = [Value.string p]
    have hj' : ((splitOn1 a0 ⟨#[c]⟩).map Value.string)[j]? = some (Value.string p):=by rw [List.getElem?_map,hj];rfl
    obtain ⟨hlt,hget⟩:=List.getElem?_eq_some_iff.1 hj'
    rw [Nat.mul_one,List.drop_eq_getElem_cons hlt,hget]
    rfl
   ·show (splitOn1 a0 ⟨#[c]⟩).length ≤ _
    have h1 : (splitOn1 a0 ⟨#[c]⟩).length = Lib.countB a0 ⟨#[c]⟩ + 1:=hlen
    omega
  have e3 : Lib.countB a0 ⟨#[c]⟩ + 1 = (splitOn1 a0 ⟨#[c]⟩).length:=hlen.symm
  rw [e3]
  exact ⟨fun k _ => trivial,hO⟩
 ·rw [strings_Split.f,if_neg hb] at h
  cases h
end
section
/-! ### impl_lineWords_1: function 45 -/
def impl_lineWords_1.f (a0 : ByteArray) : Option (Bool):=some (a0.toList == ([] : List UInt8))
set_option maxHeartbeats 8000000 in
set_option maxRecDepth 100000 in
theorem impl_lineWords_1.calls (a0 : ByteArray) (r : Bool) (w : World) (h : impl_lineWords_1.f a0 = some r) :
  Calls Tryd.prog 45 #[.string a0] w fun e w' => e = .returned (.bool r) ∧ Drawn0 w w':=by
 have H : (some (a0.toList == ([] : List UInt8))) = some r:=h
 clear h
 obtain rfl:=Option.some.inj H
 go_enter Tryd.func45,Tryd.ntmps45
 go_wp2
 go_ret
 exact ⟨by first | rfl|(simp;done)|(simp [*];done)|(simp [ne_nil_b];done)|(simp [ne_nil_b, *];done),by repeat (first|exact Drawn0.refl _|apply Drawn0.step)⟩
end
end Go.Proofs.YtiemmhhjiplnlaaDoor.X
