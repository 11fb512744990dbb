/- Texts that the row of FnExactConnSay stands on: functions of the program and of the reference, each as a Lean function with the same answers, and the plain lemmas. Conditions: none beside those that each theorem names. -/
import Derived.Test.YtlpkldomoniegaaCFnExactConnSay2
namespace Go.Proofs.Ytlpkldomoniegaa.X
open Go.RowKit Go.Proofs.YtlpkldomoniegaaW.PrintWords Go.Proofs.YtlpkldomoniegaaW.PrintLast Go.Proofs.YtlpkldomoniegaaW.PrintMore
attribute [local go_sem] max2_int min2_int max_two min_two max_three min_three max_four min_four   -- for this text's walks alone
set_option linter.unusedVariables false
set_option linter.unusedSimpArgs false
open Go.Proofs.YtlpkldomoniegaaW.PrintWords renaming blk_drewN -> bDn
open Go.Proofs.YtlpkldomoniegaaW.PrintWords renaming blk_drew -> bDr
open Go.Proofs.YtlpkldomoniegaaW.PrintWords renaming blk_alloc -> bAl
open Go.Proofs.YtlpkldomoniegaaW.PrintWords renaming blk_frozen -> bFr
open Go.Proofs.YtlpkldomoniegaaW.PrintWords renaming blk_cell -> bCe
open Go.Proofs.YtlpkldomoniegaaW.PrintWords.Aside0 renaming mk -> aMk
open Go.World renaming block_lt_of_cell? -> wLt
open Go.Proofs.YtlpkldomoniegaaW.PrintWords renaming pw_below_drewN -> bwN
open Go.Proofs.YtlpkldomoniegaaW.PrintWords renaming below_drew1 -> bw1
open Go.Proofs.YtlpkldomoniegaaW.PrintWords renaming below_alloc -> bwA
section
/-! ### spec_ConnSay: function 43 -/
def spec_ConnSay.f (k : Nat) (a0_0 : ByteArray) (a0_1 : Int) (a0_2 : Int) (a0_3 : Int) (a0_4 : Int) (a0_5 : Int) (a0_6 : Int) (a0_7 : Int) (a0_8 : ByteArray) (a0_9 : ByteArray) (a0_10 : Bool) (a1 : ByteArray) : Option (ByteArray × Int × Int × Int × Int × Int × Int × Int × ByteArray × ByteArray × Bool × (List (S53)) × Int):=if (a1.size : Int) > 65536 then (some ((⟨#[]⟩ : ByteArray),0,0,0,0,0,0,0,(⟨#[]⟩ : ByteArray),(⟨#[]⟩ : ByteArray),false,(([] : List (S53))),2)) else ((spec_ConnOK.f k a0_0 a0_1 a0_2 a0_3 a0_4 a0_5 a0_6 a0_7 a0_8 a0_9 a0_10).bind fun t647 => (if t647 = true then (if a0_4 = 2 then (if (wrap64 ((a0_9.size : Int) + (a1.size : Int))) > 300 then (some (a0_0,a0_1,a0_2,a0_3,a0_4,a0_5,a0_6,a0_7,a0_8,a0_9,a0_10,(([] : List (S53))),7)) else ((spec_l10Say.f k a0_0 a0_1 a0_2 a0_3 a0_4 a0_5 a0_6 a0_7 a0_8 a0_9 a0_10 a1).bind fun bt654 => (some (bt654.1,bt654.2.1,bt654.2.2.1,bt654.2.2.2.1,bt654.2.2.2.2.1,bt654.2.2.2.2.2.1,bt654.2.2.2.2.2.2.1,bt654.2.2.2.2.2.2.2.1,bt654.2.2.2.2.2.2.2.2.1,bt654.2.2.2.2.2.2.2.2.2.1,bt654.2.2.2.2.2.2.2.2.2.2.1,bt654.2.2.2.2.2.2.2.2.2.2.2,0)))) else (some (a0_0,a0_1,a0_2,a0_3,a0_4,a0_5,a0_6,a0_7,a0_8,a0_9,a0_10,(([] : List (S53))),12))) else (some ((⟨#[]⟩ : ByteArray),0,0,0,0,0,0,0,(⟨#[]⟩ : ByteArray),(⟨#[]⟩ : ByteArray),false,(([] : List (S53))),1))))
theorem spec_ConnSay.mono : ∀ a0 a1 a2 a3 a4 a5 a6 a7 a8 a9 a10 a11 k,LeO (spec_ConnSay.f k a0 a1 a2 a3 a4 a5 a6 a7 a8 a9 a10 a11) (spec_ConnSay.f (k + 1) a0 a1 a2 a3 a4 a5 a6 a7 a8 a9 a10 a11):=by
 intro a0 a1 a2 a3 a4 a5 a6 a7 a8 a9 a10 a11 k
 unfold spec_ConnSay.f
 repeat' first
   | (with_reducible exact spec_ConnOK.mono ..)
   | (with_reducible exact spec_l10Say.mono ..)
   | (with_reducible exact LeO.refl _)
   | (with_reducible exact LeO.none _)
   | (with_reducible refine LeO.ite ?_ ?_)
   | (with_reducible refine LeO.bind ?_ (fun _ => ?_))
   | exact spec_ConnOK.mono ..
   | exact spec_l10Say.mono ..
   | exact LeO.none _
   | refine LeO.ite ?_ ?_
   | refine LeO.bind ?_ (fun _ => ?_)
set_option maxHeartbeats 8000000 in
set_option maxRecDepth 100000 in
theorem spec_ConnSay.calls (k : Nat) (a0_0 : ByteArray) (a0_1 : Int) (a0_2 : Int) (a0_3 : Int) (a0_4 : Int) (a0_5 : Int) (a0_6 : Int) (a0_7 : Int) (a0_8 : ByteArray) (a0_9 : ByteArray) (a0_10 : Bool) (a1 : ByteArray) (r1 : ByteArray) (r2 : Int) (r3 : Int) (r4 : Int) (r5 : Int) (r6 : Int) (r7 : Int) (r8 : Int) (r9 : ByteArray) (r10 : ByteArray) (r11 : Bool) (r12 : List (S53)) (r13 : Int) (w : World) (h : spec_ConnSay.f k a0_0 a0_1 a0_2 a0_3 a0_4 a0_5 a0_6 a0_7 a0_8 a0_9 a0_10 a1 = some (r1,r2,r3,r4,r5,r6,r7,r8,r9,r10,r11,r12,r13)) :
  Calls Try.prog 43 #[.agg #[.string a0_0,.int .i64 a0_1,.int .i64 a0_2,.int .i64 a0_3,.int .i64 a0_4,.int .i64 a0_5,.int .i64 a0_6,.int .i64 a0_7,.string a0_8,.string a0_9,.bool a0_10],.string a1] w fun e w' => ∃ v11_ : Value,e = .returned (.tuple #[.agg #[.string r1,.int .i64 r2,.int .i64 r3,.int .i64 r4,.int .i64 r5,.int .i64 r6,.int .i64 r7,.int .i64 r8,.string r9,.string r10,.bool r11],v11_,.int .i64 r13]) ∧ Kd.R k53 53 w' w.heap.size (fun _ => True) v11_ r12 ∧ Below w.heap.size w w':=by
 have hu34:=Try.underlying34
 have HB:=aMk (Below.refl w.heap.size w)
 have H : (if (a1.size : Int) > 65536 then (some ((⟨#[]⟩ : ByteArray),0,0,0,0,0,0,0,(⟨#[]⟩ : ByteArray),(⟨#[]⟩ : ByteArray),false,(([] : List (S53))),2)) else ((spec_ConnOK.f k a0_0 a0_1 a0_2 a0_3 a0_4 a0_5 a0_6 a0_7 a0_8 a0_9 a0_10).bind fun t647 => (if t647 = true then (if a0_4 = 2 then (if (wrap64 ((a0_9.size : Int) + (a1.size : Int))) > 300 then (some (a0_0,a0_1,a0_2,a0_3,a0_4,a0_5,a0_6,a0_7,a0_8,a0_9,a0_10,(([] : List (S53))),7)) else ((spec_l10Say.f k a0_0 a0_1 a0_2 a0_3 a0_4 a0_5 a0_6 a0_7 a0_8 a0_9 a0_10 a1).bind fun bt654 => (some (bt654.1,bt654.2.1,bt654.2.2.1,bt654.2.2.2.1,bt654.2.2.2.2.1,bt654.2.2.2.2.2.1,bt654.2.2.2.2.2.2.1,bt654.2.2.2.2.2.2.2.1,bt654.2.2.2.2.2.2.2.2.1,bt654.2.2.2.2.2.2.2.2.2.1,bt654.2.2.2.2.2.2.2.2.2.2.1,bt654.2.2.2.2.2.2.2.2.2.2.2,0)))) else (some (a0_0,a0_1,a0_2,a0_3,a0_4,a0_5,a0_6,a0_7,a0_8,a0_9,a0_10,(([] : List (S53))),12))) else (some ((⟨#[]⟩ : ByteArray),0,0,0,0,0,0,0,(⟨#[]⟩ : ByteArray),(⟨#[]⟩ : ByteArray),false,(([] : List (S53))),1))))) = some (r1,r2,r3,r4,r5,r6,r7,r8,r9,r10,r11,r12,r13):=h
 clear h
 by_cases c3 : (a1.size : Int) > 65536
 ·rw [if_pos c3] at H
  have c3b0 : decide (65536 < (a1.size : Int)) = true:=decide_eq_true c3
  have c3b1 : decide (65536 < a1.size) = true:=decide_eq_true (by omega)
  clear c3
  obtain ⟨y644,hy644⟩ : ∃ y_ : List (S53),y_ = (([] : List (S53))):=⟨_,rfl⟩
  replace H : (some ((⟨#[]⟩ : ByteArray),0,0,0,0,0,0,0,(⟨#[]⟩ : ByteArray),(⟨#[]⟩ : ByteArray),false,y644,2)) = some (r1,r2,r3,r4,r5,r6,r7,r8,r9,r10,r11,r12,r13):=by first|(rw [hy644];with_reducible exact H)|(have H2_:=(Option.bind_some _ _).symm.trans H;rw [hy644];with_reducible exact H2_)|(have H2_:=(Option.bind_some _ _).symm.trans H;with_reducible exact H2_) | with_reducible exact H|(rw [hy644];exact H)|exact H
  have Ny644:=aMk hy644
  clear hy644
  simp only [Option.some.injEq,Prod.mk.injEq] at H
  obtain ⟨rfl,rfl,rfl,rfl,rfl,rfl,rfl,rfl,rfl,rfl,rfl,rfl,rfl⟩:=H
  go_enter Try.func43,Try.ntmps43
  go_wp2_with (first|((with_reducible refine gate_dst (N:=2) rfl ?_);refine box_event ?hg (N:=2) ?hd (cs:=#[.string a0_0,.int .i64 a0_1,.int .i64 a0_2,.int .i64 a0_3,.int .i64 a0_4,.int .i64 a0_5,.int .i64 a0_6,.int .i64 a0_7,.string a0_8,.string a0_9,.bool a0_10]) (t:=34) ?hr ?_;(case hd => rfl);(case hg => rfl);(case hr => first|(go_simp;done)|(go_simp;rfl));intro gb642 hg w4 hbox hb;have n0_:=aMk (below_step (by repeat first|exact HB.out|apply bwA|apply bwN|apply bw1) hb);have n1_:=aMk (hbox);have n2_:=aMk ((by rw [hg];exact (below_size (by repeat first|exact HB.out|apply bwA|apply bwN|apply bw1)) : w.heap.size ≤ gb642));have n3_:=aMk ((by rw [hg];exact (below_size (by repeat first|exact HB.out|apply bwA|apply bwN|apply bw1)) : w.heap.size ≤ gb642));clear HB;have HB:=n0_;have BK642:=n1_;have GW642:=n2_;have GE642:=n3_;clear n0_ n1_ n2_ n3_;clear hb hbox hg)|((with_reducible refine gate_dst (N:=4) rfl ?_);refine box_event ?hg (N:=4) ?hd (cs:=#[.string (⟨#[]⟩ : ByteArray),.int .i64 0,.int .i64 0,.int .i64 0,.int .i64 0,.int .i64 0,.int .i64 0,.int .i64 0,.string (⟨#[]⟩ : ByteArray),.string (⟨#[]⟩ : ByteArray),.bool false]) (t:=34) ?hr ?_;(case hd => rfl);(case hg => rfl);(case hr => first|(go_simp;done)|(go_simp;rfl));intro gb643 hg w5 hbox hb;have n0_:=aMk (blk_below (g:=gb642) (o:=.cells #[.string a0_0,.int .i64 a0_1,.int .i64 a0_2,.int .i64 a0_3,.int .i64 a0_4,.int .i64 a0_5,.int .i64 a0_6,.int .i64 a0_7,.string a0_8,.string a0_9,.bool a0_10] 34 (0,0)) (by (with_reducible repeat (first|refine bDn ?_ _|refine bDr ?_|refine bAl ?_ _));exact BK642.out) hb);have n1_:=aMk (below_step (by repeat (first|(with_reducible first|exact HB.out|apply bwA|apply bwN|apply bw1|refine below_set ?_ GE642.out)|exact HB.out)) hb);have n2_:=aMk (hbox);have n3_:=aMk ((by rw [hg];exact (below_size (by repeat (first|(with_reducible first|exact HB.out|apply bwA|apply bwN|apply bw1|refine below_set ?_ GE642.out)|exact HB.out))) : w.heap.size ≤ gb643));have n4_:=aMk ((by rw [hg];exact (below_size (by repeat (first|(with_reducible first|exact HB.out|apply bwA|apply bwN|apply bw1|refine below_set ?_ GE642.out)|exact HB.out))) : w.heap.size ≤ gb643));have n5_:=aMk ((by rw [hg];exact Nat.ne_of_lt (blk_lt (g:=gb642) (o:=.cells #[.string a0_0,.int .i64 a0_1,.int .i64 a0_2,.int .i64 a0_3,.int .i64 a0_4,.int .i64 a0_5,.int .i64 a0_6,.int .i64 a0_7,.string a0_8,.string a0_9,.bool a0_10] 34 (0,0)) (by (with_reducible repeat (first|refine bDn ?_ _|refine bDr ?_|refine bAl ?_ _));exact BK642.out)) : gb642 ≠ gb643));have n6_:=aMk ((by rw [hg];exact Nat.ne_of_gt (blk_lt (g:=gb642) (o:=.cells #[.string a0_0,.int .i64 a0_1,.int .i64 a0_2,.int .i64 a0_3,.int .i64 a0_4,.int .i64 a0_5,.int .i64 a0_6,.int .i64 a0_7,.string a0_8,.string a0_9,.bool a0_10] 34 (0,0)) (by (with_reducible repeat (first|refine bDn ?_ _|refine bDr ?_|refine bAl ?_ _));exact BK642.out)) : gb643 ≠ gb642));clear BK642;clear HB;have BK642:=n0_;have HB:=n1_;have BK643:=n2_;have GW643:=n3_;have GE643:=n4_;have NB642_643:=n5_;have NB643_642:=n6_;clear n0_ n1_ n2_ n3_ n4_ n5_ n6_;clear hb hbox hg)|((with_reducible refine gate_dst (N:=13) rfl ?_);refine Kd.R_lit k53 _ 53 ?hg (N:=13) ?hd (xs:=([] : List (S53))) (inner:=[]) (ok:=fun _ => True) (okp:=fun _ => True) ?hr ?hp (fun _ hk => hk) trivial (Below.refl _ _) (Nat.le_refl _) (by simp) ?_;(case hd => rfl);(case hg => rfl);(case hr => first|(go_simp;done)|(go_simp;rfl));(case hp => exact (Reps.none _ _));intro v645 w6 ho7 hb hg_ hnew_;clear hg_ hnew_;(first|rw [← Ny644.out] at ho7|(simp only [Int.reduceToNat] at ho7;rw [← Ny644.out] at ho7));have n0_:=aMk (Kd.R_lower ho7 (below_size (by repeat (first|(with_reducible first|exact HB.out|apply bwA|apply bwN|apply bw1|refine below_set ?_ GE642.out|refine below_set ?_ GE643.out)|exact HB.out))));have n1_:=aMk (blk_below (g:=gb642) (o:=.cells #[.string a0_0,.int .i64 a0_1,.int .i64 a0_2,.int .i64 a0_3,.int .i64 a0_4,.int .i64 a0_5,.int .i64 a0_6,.int .i64 a0_7,.string a0_8,.string a0_9,.bool a0_10] 34 (0,0)) (by (with_reducible repeat (first|refine bDn ?_ _|refine bDr ?_|refine bAl ?_ _));exact BK642.out) hb);have n2_:=aMk (blk_below (g:=gb643) (o:=.cells #[.string (⟨#[]⟩ : ByteArray),.int .i64 0,.int .i64 0,.int .i64 0,.int .i64 0,.int .i64 0,.int .i64 0,.int .i64 0,.string (⟨#[]⟩ : ByteArray),.string (⟨#[]⟩ : ByteArray),.bool false] 34 (0,0)) (by (with_reducible repeat (first|refine bDn ?_ _|refine bDr ?_|refine bAl ?_ _));exact BK643.out) hb);have n3_:=aMk (below_step (by repeat (first|(with_reducible first|exact HB.out|apply bwA|apply bwN|apply bw1|refine below_set ?_ GE642.out|refine below_set ?_ GE643.out)|exact HB.out)) hb);clear BK642;clear BK643;clear HB;have HO646:=n0_;have BK642:=n1_;have BK643:=n2_;have HB:=n3_;clear n0_ n1_ n2_ n3_;clear hb ho7;have hnb8:=NB643_642.out;have hnc8:=NB642_643.out;have hcz9_0 : w6.cell? ⟨gb643,0,none⟩ = some (.string (⟨#[]⟩ : ByteArray)):=(bCe BK643.out 0).trans rfl;have hcz9_1 : w6.cell? ⟨gb643,1,none⟩ = some (.int .i64 0):=(bCe BK643.out 1).trans rfl;have hcz9_2 : w6.cell? ⟨gb643,2,none⟩ = some (.int .i64 0):=(bCe BK643.out 2).trans rfl;have hcz9_3 : w6.cell? ⟨gb643,3,none⟩ = some (.int .i64 0):=(bCe BK643.out 3).trans rfl;have hcz9_4 : w6.cell? ⟨gb643,4,none⟩ = some (.int .i64 0):=(bCe BK643.out 4).trans rfl;have hcz9_5 : w6.cell? ⟨gb643,5,none⟩ = some (.int .i64 0):=(bCe BK643.out 5).trans rfl;have hcz9_6 : w6.cell? ⟨gb643,6,none⟩ = some (.int .i64 0):=(bCe BK643.out 6).trans rfl;have hcz9_7 : w6.cell? ⟨gb643,7,none⟩ = some (.int .i64 0):=(bCe BK643.out 7).trans rfl;have hcz9_8 : w6.cell? ⟨gb643,8,none⟩ = some (.string (⟨#[]⟩ : ByteArray)):=(bCe BK643.out 8).trans rfl;have hcz9_9 : w6.cell? ⟨gb643,9,none⟩ = some (.string (⟨#[]⟩ : ByteArray)):=(bCe BK643.out 9).trans rfl;have hcz9_10 : w6.cell? ⟨gb643,10,none⟩ = some (.bool false):=(bCe BK643.out 10).trans rfl;have hfz9_0:=bFr BK643.out 0;have hfz9_1:=bFr BK643.out 1;have hfz9_2:=bFr BK643.out 2;have hfz9_3:=bFr BK643.out 3;have hfz9_4:=bFr BK643.out 4;have hfz9_5:=bFr BK643.out 5;have hfz9_6:=bFr BK643.out 6;have hfz9_7:=bFr BK643.out 7;have hfz9_8:=bFr BK643.out 8;have hfz9_9:=bFr BK643.out 9;have hfz9_10:=bFr BK643.out 10))
  refine bodyPost_ret (results_ctt rfl _ _ gb643 34 #[.string (⟨#[]⟩ : ByteArray),.int .i64 0,.int .i64 0,.int .i64 0,.int .i64 0,.int .i64 0,.int .i64 0,.int .i64 0,.string (⟨#[]⟩ : ByteArray),.string (⟨#[]⟩ : ByteArray),.bool false] (0,0) _ rfl (by (with_reducible repeat (first|refine bDn ?_ _|refine bDr ?_|refine bAl ?_ _));refine blk_put (cs:=#[.string (⟨#[]⟩ : ByteArray),.int .i64 0,.int .i64 0,.int .i64 0,.int .i64 0,.int .i64 0,.int .i64 0,.int .i64 0,.string (⟨#[]⟩ : ByteArray),.string (⟨#[]⟩ : ByteArray),.bool false]) ?_ 10 _ rfl;(with_reducible repeat (first|refine bDn ?_ _|refine bDr ?_|refine bAl ?_ _));refine blk_put (cs:=#[.string (⟨#[]⟩ : ByteArray),.int .i64 0,.int .i64 0,.int .i64 0,.int .i64 0,.int .i64 0,.int .i64 0,.int .i64 0,.string (⟨#[]⟩ : ByteArray),.string (⟨#[]⟩ : ByteArray),.bool false]) ?_ 9 _ rfl;(with_reducible repeat (first|refine bDn ?_ _|refine bDr ?_|refine bAl ?_ _));refine blk_put (cs:=#[.string (⟨#[]⟩ : ByteArray),.int .i64 0,.int .i64 0,.int .i64 0,.int .i64 0,.int .i64 0,.int .i64 0,.int .i64 0,.string (⟨#[]⟩ : ByteArray),.string (⟨#[]⟩ : ByteArray),.bool false]) ?_ 8 _ rfl;(with_reducible repeat (first|refine bDn ?_ _|refine bDr ?_|refine bAl ?_ _));refine blk_put (cs:=#[.string (⟨#[]⟩ : ByteArray),.int .i64 0,.int .i64 0,.int .i64 0,.int .i64 0,.int .i64 0,.int .i64 0,.int .i64 0,.string (⟨#[]⟩ : ByteArray),.string (⟨#[]⟩ : ByteArray),.bool false]) ?_ 7 _ rfl;(with_reducible repeat (first|refine bDn ?_ _|refine bDr ?_|refine bAl ?_ _));refine blk_put (cs:=#[.string (⟨#[]⟩ : ByteArray),.int .i64 0,.int .i64 0,.int .i64 0,.int .i64 0,.int .i64 0,.int .i64 0,.int .i64 0,.string (⟨#[]⟩ : ByteArray),.string (⟨#[]⟩ : ByteArray),.bool false]) ?_ 6 _ rfl;(with_reducible repeat (first|refine bDn ?_ _|refine bDr ?_|refine bAl ?_ _));refine blk_put (cs:=#[.string (⟨#[]⟩ : ByteArray),.int .i64 0,.int .i64 0,.int .i64 0,.int .i64 0,.int .i64 0,.int .i64 0,.int .i64 0,.string (⟨#[]⟩ : ByteArray),.string (⟨#[]⟩ : ByteArray),.bool false]) ?_ 5 _ rfl;(with_reducible repeat (first|refine bDn ?_ _|refine bDr ?_|refine bAl ?_ _));refine blk_put (cs:=#[.string (⟨#[]⟩ : ByteArray),.int .i64 0,.int .i64 0,.int .i64 0,.int .i64 0,.int .i64 0,.int .i64 0,.int .i64 0,.string (⟨#[]⟩ : ByteArray),.string (⟨#[]⟩ : ByteArray),.bool false]) ?_ 4 _ rfl;(with_reducible repeat (first|refine bDn ?_ _|refine bDr ?_|refine bAl ?_ _));refine blk_put (cs:=#[.string (⟨#[]⟩ : ByteArray),.int .i64 0,.int .i64 0,.int .i64 0,.int .i64 0,.int .i64 0,.int .i64 0,.int .i64 0,.string (⟨#[]⟩ : ByteArray),.string (⟨#[]⟩ : ByteArray),.bool false]) ?_ 3 _ rfl;(with_reducible repeat (first|refine bDn ?_ _|refine bDr ?_|refine bAl ?_ _));refine blk_put (cs:=#[.string (⟨#[]⟩ : ByteArray),.int .i64 0,.int .i64 0,.int .i64 0,.int .i64 0,.int .i64 0,.int .i64 0,.int .i64 0,.string (⟨#[]⟩ : ByteArray),.string (⟨#[]⟩ : ByteArray),.bool false]) ?_ 2 _ rfl;(with_reducible repeat (first|refine bDn ?_ _|refine bDr ?_|refine bAl ?_ _));refine blk_put (cs:=#[.string (⟨#[]⟩ : ByteArray),.int .i64 0,.int .i64 0,.int .i64 0,.int .i64 0,.int .i64 0,.int .i64 0,.int .i64 0,.string (⟨#[]⟩ : ByteArray),.string (⟨#[]⟩ : ByteArray),.bool false]) ?_ 1 _ rfl;(with_reducible repeat (first|refine bDn ?_ _|refine bDr ?_|refine bAl ?_ _));refine blk_put (cs:=#[.string (⟨#[]⟩ : ByteArray),.int .i64 0,.int .i64 0,.int .i64 0,.int .i64 0,.int .i64 0,.int .i64 0,.int .i64 0,.string (⟨#[]⟩ : ByteArray),.string (⟨#[]⟩ : ByteArray),.bool false]) ?_ 0 _ rfl;(with_reducible repeat (first|refine bDn ?_ _|refine bDr ?_|refine bAl ?_ _));exact BK643.out) Try.underlying34 rfl (by kernel_rfl)) rfl ?_
  exact ⟨_,by first | rfl|(simp [errW_none,errW_some] <;> rfl)|(simp [*,errW_none,errW_some] <;> rfl),by (with_reducible repeat (first|apply Kd.R_alloc|apply Kd.R_drewN|apply Kd.R_drew));exact Kd.R_mono (Kd.R_far (p:=⟨gb643,10,none⟩) (Kd.R_far (p:=⟨gb643,9,none⟩) (Kd.R_far (p:=⟨gb643,8,none⟩) (Kd.R_far (p:=⟨gb643,7,none⟩) (Kd.R_far (p:=⟨gb643,6,none⟩) (Kd.R_far (p:=⟨gb643,5,none⟩) (Kd.R_far (p:=⟨gb643,4,none⟩) (Kd.R_far (p:=⟨gb643,3,none⟩) (Kd.R_far (p:=⟨gb643,2,none⟩) (Kd.R_far (p:=⟨gb643,1,none⟩) (Kd.R_far (p:=⟨gb643,0,none⟩) (Kd.R_types HO646.out BK643.out (by decide)) (fun _ hk => hk.2) (.string (⟨#[]⟩ : ByteArray))) (fun _ hk => hk.2) (.int .i64 0)) (fun _ hk => hk.2) (.int .i64 0)) (fun _ hk => hk.2) (.int .i64 0)) (fun _ hk => hk.2) (.int .i64 0)) (fun _ hk => hk.2) (.int .i64 0)) (fun _ hk => hk.2) (.int .i64 0)) (fun _ hk => hk.2) (.int .i64 0)) (fun _ hk => hk.2) (.string (⟨#[]⟩ : ByteArray))) (fun _ hk => hk.2) (.string (⟨#[]⟩ : ByteArray))) (fun _ hk => hk.2) (.bool false)) (fun _ hk => trivial),by repeat (first|(with_reducible first|exact HB.out|apply bwA|apply bwN|apply bw1|refine below_set ?_ GE642.out|refine below_set ?_ GE643.out)|exact HB.out)⟩
 ·rw [if_neg c3] at H
  have c3b0 : decide (65536 < (a1.size : Int)) = false:=decide_eq_false c3
  have c3b1 : decide (65536 < a1.size) = false:=decide_eq_false (by omega)
  clear c3
  replace H:=Option.bind_eq_some_iff.mp H
  obtain ⟨t647,A100,H⟩:=H
  replace H : (if t647 = true then (if a0_4 = 2 then (if (wrap64 ((a0_9.size : Int) + (a1.size : Int))) > 300 then (some (a0_0,a0_1,a0_2,a0_3,a0_4,a0_5,a0_6,a0_7,a0_8,a0_9,a0_10,(([] : List (S53))),7)) else ((spec_l10Say.f k a0_0 a0_1 a0_2 a0_3 a0_4 a0_5 a0_6 a0_7 a0_8 a0_9 a0_10 a1).bind fun bt654 => (some (bt654.1,bt654.2.1,bt654.2.2.1,bt654.2.2.2.1,bt654.2.2.2.2.1,bt654.2.2.2.2.2.1,bt654.2.2.2.2.2.2.1,bt654.2.2.2.2.2.2.2.1,bt654.2.2.2.2.2.2.2.2.1,bt654.2.2.2.2.2.2.2.2.2.1,bt654.2.2.2.2.2.2.2.2.2.2.1,bt654.2.2.2.2.2.2.2.2.2.2.2,0)))) else (some (a0_0,a0_1,a0_2,a0_3,a0_4,a0_5,a0_6,a0_7,a0_8,a0_9,a0_10,(([] : List (S53))),12))) else (some ((⟨#[]⟩ : ByteArray),0,0,0,0,0,0,0,(⟨#[]⟩ : ByteArray),(⟨#[]⟩ : ByteArray),false,(([] : List (S53))),1))) = some (r1,r2,r3,r4,r5,r6,r7,r8,r9,r10,r11,r12,r13):=H
  have A10:=aMk A100
  clear A100
  by_cases c11 : t647 = true
  ·subst c11
   have H1 : (if a0_4 = 2 then (if (wrap64 ((a0_9.size : Int) + (a1.size : Int))) > 300 then (some (a0_0,a0_1,a0_2,a0_3,a0_4,a0_5,a0_6,a0_7,a0_8,a0_9,a0_10,(([] : List (S53))),7)) else ((spec_l10Say.f k a0_0 a0_1 a0_2 a0_3 a0_4 a0_5 a0_6 a0_7 a0_8 a0_9 a0_10 a1).bind fun bt654 => (some (bt654.1,bt654.2.1,bt654.2.2.1,bt654.2.2.2.1,bt654.2.2.2.2.1,bt654.2.2.2.2.2.1,bt654.2.2.2.2.2.2.1,bt654.2.2.2.2.2.2.2.1,bt654.2.2.2.2.2.2.2.2.1,bt654.2.2.2.2.2.2.2.2.2.1,bt654.2.2.2.2.2.2.2.2.2.2.1,bt654.2.2.2.2.2.2.2.2.2.2.2,0)))) else (some (a0_0,a0_1,a0_2,a0_3,a0_4,a0_5,a0_6,a0_7,a0_8,a0_9,a0_10,(([] : List (S53))),12))) = some (r1,r2,r3,r4,r5,r6,r7,r8,r9,r10,r11,r12,r13):=by rw [if_pos rfl] at H;exact H
   clear H
   have H:=H1
   clear H1
   by_cases c12 : a0_4 = 2
   ·rw [if_pos c12] at H
    have c12b0 : (a0_4 == 2) = true:=beq_iff_eq.mpr c12
    have c12b1 : (a0_4 != 2) = false:=bne_eq_false_iff_eq.mpr c12
    clear c12
    by_cases c13 : (wrap64 ((a0_9.size : Int) + (a1.size : Int))) > 300
    ·rw [if_pos c13] at H
     have c13b0 : decide (300 < (wrap64 ((a0_9.size : Int) + (a1.size : Int)))) = true:=decide_eq_true c13
     clear c13
     obtain ⟨y651,hy651⟩ : ∃ y_ : List (S53),y_ = (([] : List (S53))):=⟨_,rfl⟩
     replace H : (some (a0_0,a0_1,a0_2,a0_3,a0_4,a0_5,a0_6,a0_7,a0_8,a0_9,a0_10,y651,7)) = some (r1,r2,r3,r4,r5,r6,r7,r8,r9,r10,r11,r12,r13):=by first|(rw [hy651];with_reducible exact H)|(have H2_:=(Option.bind_some _ _).symm.trans H;rw [hy651];with_reducible exact H2_)|(have H2_:=(Option.bind_some _ _).symm.trans H;with_reducible exact H2_) | with_reducible exact H|(rw [hy651];exact H)|exact H
     have Ny651:=aMk hy651
     clear hy651
     simp only [Option.some.injEq,Prod.mk.injEq] at H
     obtain ⟨rfl,rfl,rfl,rfl,rfl,rfl,rfl,rfl,rfl,rfl,rfl,rfl,rfl⟩:=H
     go_enter Try.func43,Try.ntmps43
     go_wp2_with (first|((with_reducible refine gate_dst (N:=2) rfl ?_);refine box_event ?hg (N:=2) ?hd (cs:=#[.string a0_0,.int .i64 a0_1,.int .i64 a0_2,.int .i64 a0_3,.int .i64 a0_4,.int .i64 a0_5,.int .i64 a0_6,.int .i64 a0_7,.string a0_8,.string a0_9,.bool a0_10]) (t:=34) ?hr ?_;(case hd => rfl);(case hg => rfl);(case hr => first|(go_simp;done)|(go_simp;rfl));intro gb642 hg w14 hbox hb;have n0_:=aMk (below_step (by repeat first|exact HB.out|apply bwA|apply bwN|apply bw1) hb);have n1_:=aMk (hbox);have n2_:=aMk ((by rw [hg];exact (below_size (by repeat first|exact HB.out|apply bwA|apply bwN|apply bw1)) : w.heap.size ≤ gb642));have n3_:=aMk ((by rw [hg];exact (below_size (by repeat first|exact HB.out|apply bwA|apply bwN|apply bw1)) : w.heap.size ≤ gb642));clear HB;have HB:=n0_;have BK642:=n1_;have GW642:=n2_;have GE642:=n3_;clear n0_ n1_ n2_ n3_;clear hb hbox hg)|((with_reducible refine gate_dst (N:=4) rfl ?_);refine box_event ?hg (N:=4) ?hd (cs:=#[.string (⟨#[]⟩ : ByteArray),.int .i64 0,.int .i64 0,.int .i64 0,.int .i64 0,.int .i64 0,.int .i64 0,.int .i64 0,.string (⟨#[]⟩ : ByteArray),.string (⟨#[]⟩ : ByteArray),.bool false]) (t:=34) ?hr ?_;(case hd => rfl);(case hg => rfl);(case hr => first|(go_simp;done)|(go_simp;rfl));intro gb643 hg w15 hbox hb;have n0_:=aMk (blk_below (g:=gb642) (o:=.cells #[.string a0_0,.int .i64 a0_1,.int .i64 a0_2,.int .i64 a0_3,.int .i64 a0_4,.int .i64 a0_5,.int .i64 a0_6,.int .i64 a0_7,.string a0_8,.string a0_9,.bool a0_10] 34 (0,0)) (by (with_reducible repeat (first|refine bDn ?_ _|refine bDr ?_|refine bAl ?_ _));exact BK642.out) hb);have n1_:=aMk (below_step (by repeat (first|(with_reducible first|exact HB.out|apply bwA|apply bwN|apply bw1|refine below_set ?_ GE642.out)|exact HB.out)) hb);have n2_:=aMk (hbox);have n3_:=aMk ((by rw [hg];exact (below_size (by repeat (first|(with_reducible first|exact HB.out|apply bwA|apply bwN|apply bw1|refine below_set ?_ GE642.out)|exact HB.out))) : w.heap.size ≤ gb643));have n4_:=aMk ((by rw [hg];exact (below_size (by repeat (first|(with_reducible first|exact HB.out|apply bwA|apply bwN|apply bw1|refine below_set ?_ GE642.out)|exact HB.out))) : w.heap.size ≤ gb643));have n5_:=aMk ((by rw [hg];exact Nat.ne_of_lt (blk_lt (g:=gb642) (o:=.cells #[.string a0_0,.int .i64 a0_1,.int .i64 a0_2,.int .i64 a0_3,.int .i64 a0_4,.int .i64 a0_5,.int .i64 a0_6,.int .i64 a0_7,.string a0_8,.string a0_9,.bool a0_10] 34 (0,0)) (by (with_reducible repeat (first|refine bDn ?_ _|refine bDr ?_|refine bAl ?_ _));exact BK642.out)) : gb642 ≠ gb643));have n6_:=aMk ((by rw [hg];exact Nat.ne_of_gt (blk_lt (g:=gb642) (o:=.cells #[.string a0_0,.int .i64 a0_1,.int .i64 a0_2,.int .i64 a0_3,.int .i64 a0_4,.int .i64 a0_5,.int .i64 a0_6,.int .i64 a0_7,.string a0_8,.string a0_9,.bool a0_10] 34 (0,0)) (by (with_reducible repeat (first|refine bDn ?_ _|refine bDr ?_|refine bAl ?_ _));exact BK642.out)) : gb643 ≠ gb642));clear BK642;clear HB;have BK642:=n0_;have HB:=n1_;have BK643:=n2_;have GW643:=n3_;have GE643:=n4_;have NB642_643:=n5_;have NB643_642:=n6_;clear n0_ n1_ n2_ n3_ n4_ n5_ n6_;clear hb hbox hg;have hnb16:=NB642_643.out;have hnc16:=NB643_642.out;have hcz17_0 : w15.cell? ⟨gb642,0,none⟩ = some (.string a0_0):=(bCe BK642.out 0).trans rfl;have hcz17_1 : w15.cell? ⟨gb642,1,none⟩ = some (.int .i64 a0_1):=(bCe BK642.out 1).trans rfl;have hcz17_2 : w15.cell? ⟨gb642,2,none⟩ = some (.int .i64 a0_2):=(bCe BK642.out 2).trans rfl;have hcz17_3 : w15.cell? ⟨gb642,3,none⟩ = some (.int .i64 a0_3):=(bCe BK642.out 3).trans rfl;have hcz17_4 : w15.cell? ⟨gb642,4,none⟩ = some (.int .i64 a0_4):=(bCe BK642.out 4).trans rfl;have hcz17_5 : w15.cell? ⟨gb642,5,none⟩ = some (.int .i64 a0_5):=(bCe BK642.out 5).trans rfl;have hcz17_6 : w15.cell? ⟨gb642,6,none⟩ = some (.int .i64 a0_6):=(bCe BK642.out 6).trans rfl;have hcz17_7 : w15.cell? ⟨gb642,7,none⟩ = some (.int .i64 a0_7):=(bCe BK642.out 7).trans rfl;have hcz17_8 : w15.cell? ⟨gb642,8,none⟩ = some (.string a0_8):=(bCe BK642.out 8).trans rfl;have hcz17_9 : w15.cell? ⟨gb642,9,none⟩ = some (.string a0_9):=(bCe BK642.out 9).trans rfl;have hcz17_10 : w15.cell? ⟨gb642,10,none⟩ = some (.bool a0_10):=(bCe BK642.out 10).trans rfl;have hfz17_0:=bFr BK642.out 0;have hfz17_1:=bFr BK642.out 1;have hfz17_2:=bFr BK642.out 2;have hfz17_3:=bFr BK642.out 3;have hfz17_4:=bFr BK642.out 4;have hfz17_5:=bFr BK642.out 5;have hfz17_6:=bFr BK642.out 6;have hfz17_7:=bFr BK642.out 7;have hfz17_8:=bFr BK642.out 8;have hfz17_9:=bFr BK642.out 9;have hfz17_10:=bFr BK642.out 10)|((with_reducible refine gate_callee (f:=23) rfl ?_);refine goesL_ (some 15) rfl rfl Try.func23 (by kernel_rfl) rfl #[.agg #[.string a0_0,.int .i64 a0_1,.int .i64 a0_2,.int .i64 a0_3,.int .i64 a0_4,.int .i64 a0_5,.int .i64 a0_6,.int .i64 a0_7,.string a0_8,.string a0_9,.bool a0_10]] rfl (by (try simp only [List.map_toArray,List.map_cons,List.map_nil]);first | done | rfl|(simp only [List.length_drop,List.length_take];rfl)) ?_;(with_reducible refine (spec_ConnOK.calls k a0_0 a0_1 a0_2 a0_3 a0_4 a0_5 a0_6 a0_7 a0_8 a0_9 a0_10 true _ A10.out).mono ?_);rintro e w18 ⟨rfl,hb⟩;refine ⟨_,rfl,?_⟩;have n0_:=aMk (blk_below (g:=gb642) (o:=.cells #[.string a0_0,.int .i64 a0_1,.int .i64 a0_2,.int .i64 a0_3,.int .i64 a0_4,.int .i64 a0_5,.int .i64 a0_6,.int .i64 a0_7,.string a0_8,.string a0_9,.bool a0_10] 34 (0,0)) (by (with_reducible repeat (first|refine bDn ?_ _|refine bDr ?_|refine bAl ?_ _));exact BK642.out) hb);have n1_:=aMk (blk_below (g:=gb643) (o:=.cells #[.string (⟨#[]⟩ : ByteArray),.int .i64 0,.int .i64 0,.int .i64 0,.int .i64 0,.int .i64 0,.int .i64 0,.int .i64 0,.string (⟨#[]⟩ : ByteArray),.string (⟨#[]⟩ : ByteArray),.bool false] 34 (0,0)) (by (with_reducible repeat (first|refine bDn ?_ _|refine bDr ?_|refine bAl ?_ _));exact BK643.out) hb);have n2_:=aMk (below_step (by repeat (first|(with_reducible first|exact HB.out|apply bwA|apply bwN|apply bw1|refine below_set ?_ GE642.out|refine below_set ?_ GE643.out)|exact HB.out)) hb);clear BK642;clear BK643;clear HB;have BK642:=n0_;have BK643:=n1_;have HB:=n2_;clear n0_ n1_ n2_;(try clear hb);(try clear hb2);(try clear hk);(try clear hi);have hcz19_0 : w18.cell? ⟨gb642,0,none⟩ = some (.string a0_0):=(bCe BK642.out 0).trans rfl;have hcz19_1 : w18.cell? ⟨gb642,1,none⟩ = some (.int .i64 a0_1):=(bCe BK642.out 1).trans rfl;have hcz19_2 : w18.cell? ⟨gb642,2,none⟩ = some (.int .i64 a0_2):=(bCe BK642.out 2).trans rfl;have hcz19_3 : w18.cell? ⟨gb642,3,none⟩ = some (.int .i64 a0_3):=(bCe BK642.out 3).trans rfl;have hcz19_4 : w18.cell? ⟨gb642,4,none⟩ = some (.int .i64 a0_4):=(bCe BK642.out 4).trans rfl;have hcz19_5 : w18.cell? ⟨gb642,5,none⟩ = some (.int .i64 a0_5):=(bCe BK642.out 5).trans rfl;have hcz19_6 : w18.cell? ⟨gb642,6,none⟩ = some (.int .i64 a0_6):=(bCe BK642.out 6).trans rfl;have hcz19_7 : w18.cell? ⟨gb642,7,none⟩ = some (.int .i64 a0_7):=(bCe BK642.out 7).trans rfl;have hcz19_8 : w18.cell? ⟨gb642,8,none⟩ = some (.string a0_8):=(bCe BK642.out 8).trans rfl;have hcz19_9 : w18.cell? ⟨gb642,9,none⟩ = some (.string a0_9):=(bCe BK642.out 9).trans rfl;have hcz19_10 : w18.cell? ⟨gb642,10,none⟩ = some (.bool a0_10):=(bCe BK642.out 10).trans rfl;have hfz19_0:=bFr BK642.out 0;have hfz19_1:=bFr BK642.out 1;have hfz19_2:=bFr BK642.out 2;have hfz19_3:=bFr BK642.out 3;have hfz19_4:=bFr BK642.out 4;have hfz19_5:=bFr BK642.out 5;have hfz19_6:=bFr BK642.out 6;have hfz19_7:=bFr BK642.out 7;have hfz19_8:=bFr BK642.out 8;have hfz19_9:=bFr BK642.out 9;have hfz19_10:=bFr BK642.out 10)|((with_reducible refine gate_dst (N:=32) rfl ?_);refine Kd.R_lit k53 _ 53 ?hg (N:=32) ?hd (xs:=([] : List (S53))) (inner:=[]) (ok:=fun _ => True) (okp:=fun _ => True) ?hr ?hp (fun _ hk => hk) trivial (Below.refl _ _) (Nat.le_refl _) (by simp) ?_;(case hd => rfl);(case hg => rfl);(case hr => first|(go_simp;done)|(go_simp;rfl));(case hp => exact (Reps.none _ _));intro v652 w20 ho21 hb hg_ hnew_;clear hg_ hnew_;(first|rw [← Ny651.out] at ho21|(simp only [Int.reduceToNat] at ho21;rw [← Ny651.out] at ho21));have n0_:=aMk (Kd.R_lower ho21 (below_size (by repeat (first|(with_reducible first|exact HB.out|apply bwA|apply bwN|apply bw1|refine below_set ?_ GE642.out|refine below_set ?_ GE643.out)|exact HB.out))));have n1_:=aMk (blk_below (g:=gb642) (o:=.cells #[.string a0_0,.int .i64 a0_1,.int .i64 a0_2,.int .i64 a0_3,.int .i64 a0_4,.int .i64 a0_5,.int .i64 a0_6,.int .i64 a0_7,.string a0_8,.string a0_9,.bool a0_10] 34 (0,0)) (by (with_reducible repeat (first|refine bDn ?_ _|refine bDr ?_|refine bAl ?_ _));exact BK642.out) hb);have n2_:=aMk (blk_below (g:=gb643) (o:=.cells #[.string (⟨#[]⟩ : ByteArray),.int .i64 0,.int .i64 0,.int .i64 0,.int .i64 0,.int .i64 0,.int .i64 0,.int .i64 0,.string (⟨#[]⟩ : ByteArray),.string (⟨#[]⟩ : ByteArray),.bool false] 34 (0,0)) (by (with_reducible repeat (first|refine bDn ?_ _|refine bDr ?_|refine bAl ?_ _));exact BK643.out) hb);have n3_:=aMk (below_step (by repeat (first|(with_reducible first|exact HB.out|apply bwA|apply bwN|apply bw1|refine below_set ?_ GE642.out|refine below_set ?_ GE643.out)|exact HB.out)) hb);clear BK642;clear BK643;clear HB;have HO653:=n0_;have BK642:=n1_;have BK643:=n2_;have HB:=n3_;clear n0_ n1_ n2_ n3_;clear hb ho21;have hcz22_0 : w20.cell? ⟨gb643,0,none⟩ = some (.string (⟨#[]⟩ : ByteArray)):=(bCe BK643.out 0).trans rfl;have hcz22_1 : w20.cell? ⟨gb643,1,none⟩ = some (.int .i64 0):=(bCe BK643.out 1).trans rfl;have hcz22_2 : w20.cell? ⟨gb643,2,none⟩ = some (.int .i64 0):=(bCe BK643.out 2).trans rfl;have hcz22_3 : w20.cell? ⟨gb643,3,none⟩ = some (.int .i64 0):=(bCe BK643.out 3).trans rfl;have hcz22_4 : w20.cell? ⟨gb643,4,none⟩ = some (.int .i64 0):=(bCe BK643.out 4).trans rfl;have hcz22_5 : w20.cell? ⟨gb643,5,none⟩ = some (.int .i64 0):=(bCe BK643.out 5).trans rfl;have hcz22_6 : w20.cell? ⟨gb643,6,none⟩ = some (.int .i64 0):=(bCe BK643.out 6).trans rfl;have hcz22_7 : w20.cell? ⟨gb643,7,none⟩ = some (.int .i64 0):=(bCe BK643.out 7).trans rfl;have hcz22_8 : w20.cell? ⟨gb643,8,none⟩ = some (.string (⟨#[]⟩ : ByteArray)):=(bCe BK643.out 8).trans rfl;have hcz22_9 : w20.cell? ⟨gb643,9,none⟩ = some (.string (⟨#[]⟩ : ByteArray)):=(bCe BK643.out 9).trans rfl;have hcz22_10 : w20.cell? ⟨gb643,10,none⟩ = some (.bool false):=(bCe BK643.out 10).trans rfl;have hfz22_0:=bFr BK643.out 0;have hfz22_1:=bFr BK643.out 1;have hfz22_2:=bFr BK643.out 2;have hfz22_3:=bFr BK643.out 3;have hfz22_4:=bFr BK643.out 4;have hfz22_5:=bFr BK643.out 5;have hfz22_6:=bFr BK643.out 6;have hfz22_7:=bFr BK643.out 7;have hfz22_8:=bFr BK643.out 8;have hfz22_9:=bFr BK643.out 9;have hfz22_10:=bFr BK643.out 10))
     refine bodyPost_ret (results_ctt rfl _ _ gb643 34 #[.string a0_0,.int .i64 a0_1,.int .i64 a0_2,.int .i64 a0_3,.int .i64 a0_4,.int .i64 a0_5,.int .i64 a0_6,.int .i64 a0_7,.string a0_8,.string a0_9,.bool a0_10] (0,0) _ rfl (by (with_reducible repeat (first|refine bDn ?_ _|refine bDr ?_|refine bAl ?_ _));refine blk_put (cs:=#[.string a0_0,.int .i64 a0_1,.int .i64 a0_2,.int .i64 a0_3,.int .i64 a0_4,.int .i64 a0_5,.int .i64 a0_6,.int .i64 a0_7,.string a0_8,.string a0_9,.bool false]) ?_ 10 _ rfl;(with_reducible repeat (first|refine bDn ?_ _|refine bDr ?_|refine bAl ?_ _));refine blk_put (cs:=#[.string a0_0,.int .i64 a0_1,.int .i64 a0_2,.int .i64 a0_3,.int .i64 a0_4,.int .i64 a0_5,.int .i64 a0_6,.int .i64 a0_7,.string a0_8,.string (⟨#[]⟩ : ByteArray),.bool false]) ?_ 9 _ rfl;(with_reducible repeat (first|refine bDn ?_ _|refine bDr ?_|refine bAl ?_ _));refine blk_put (cs:=#[.string a0_0,.int .i64 a0_1,.int .i64 a0_2,.int .i64 a0_3,.int .i64 a0_4,.int .i64 a0_5,.int .i64 a0_6,.int .i64 a0_7,.string (⟨#[]⟩ : ByteArray),.string (⟨#[]⟩ : ByteArray),.bool false]) ?_ 8 _ rfl;(with_reducible repeat (first|refine bDn ?_ _|refine bDr ?_|refine bAl ?_ _));refine blk_put (cs:=#[.string a0_0,.int .i64 a0_1,.int .i64 a0_2,.int .i64 a0_3,.int .i64 a0_4,.int .i64 a0_5,.int .i64 a0_6,.int .i64 0,.string (⟨#[]⟩ : ByteArray),.string (⟨#[]⟩ : ByteArray),.bool false]) ?_ 7 _ rfl;(with_reducible repeat (first|refine bDn ?_ _|refine bDr ?_|refine bAl ?_ _));refine blk_put (cs:=#[.string a0_0,.int .i64 a0_1,.int .i64 a0_2,.int .i64 a0_3,.int .i64 a0_4,.int .i64 a0_5,.int .i64 0,.int .i64 0,.string (⟨#[]⟩ : ByteArray),.string (⟨#[]⟩ : ByteArray),.bool false]) ?_ 6 _ rfl;(with_reducible repeat (first|refine bDn ?_ _|refine bDr ?_|refine bAl ?_ _));refine blk_put (cs:=#[.string a0_0,.int .i64 a0_1,.int .i64 a0_2,.int .i64 a0_3,.int .i64 a0_4,.int .i64 0,.int .i64 0,.int .i64 0,.string (⟨#[]⟩ : ByteArray),.string (⟨#[]⟩ : ByteArray),.bool false]) ?_ 5 _ rfl;(with_reducible repeat (first|refine bDn ?_ _|refine bDr ?_|refine bAl ?_ _));refine blk_put (cs:=#[.string a0_0,.int .i64 a0_1,.int .i64 a0_2,.int .i64 a0_3,.int .i64 0,.int .i64 0,.int .i64 0,.int .i64 0,.string (⟨#[]⟩ : ByteArray),.string (⟨#[]⟩ : ByteArray),.bool false]) ?_ 4 _ rfl;(with_reducible repeat (first|refine bDn ?_ _|refine bDr ?_|refine bAl ?_ _));refine blk_put (cs:=#[.string a0_0,.int .i64 a0_1,.int .i64 a0_2,.int .i64 0,.int .i64 0,.int .i64 0,.int .i64 0,.int .i64 0,.string (⟨#[]⟩ : ByteArray),.string (⟨#[]⟩ : ByteArray),.bool false]) ?_ 3 _ rfl;(with_reducible repeat (first|refine bDn ?_ _|refine bDr ?_|refine bAl ?_ _));refine blk_put (cs:=#[.string a0_0,.int .i64 a0_1,.int .i64 0,.int .i64 0,.int .i64 0,.int .i64 0,.int .i64 0,.int .i64 0,.string (⟨#[]⟩ : ByteArray),.string (⟨#[]⟩ : ByteArray),.bool false]) ?_ 2 _ rfl;(with_reducible repeat (first|refine bDn ?_ _|refine bDr ?_|refine bAl ?_ _));refine blk_put (cs:=#[.string a0_0,.int .i64 0,.int .i64 0,.int .i64 0,.int .i64 0,.int .i64 0,.int .i64 0,.int .i64 0,.string (⟨#[]⟩ : ByteArray),.string (⟨#[]⟩ : ByteArray),.bool false]) ?_ 1 _ rfl;(with_reducible repeat (first|refine bDn ?_ _|refine bDr ?_|refine bAl ?_ _));refine blk_put (cs:=#[.string (⟨#[]⟩ : ByteArray),.int .i64 0,.int .i64 0,.int .i64 0,.int .i64 0,.int .i64 0,.int .i64 0,.int .i64 0,.string (⟨#[]⟩ : ByteArray),.string (⟨#[]⟩ : ByteArray),.bool false]) ?_ 0 _ rfl;(with_reducible repeat (first|refine bDn ?_ _|refine bDr ?_|refine bAl ?_ _));exact BK643.out) Try.underlying34 rfl (by kernel_rfl)) rfl ?_
     exact ⟨_,by first | rfl|(simp [errW_none,errW_some] <;> rfl)|(simp [*,errW_none,errW_some] <;> rfl),by (with_reducible repeat (first|apply Kd.R_alloc|apply Kd.R_drewN|apply Kd.R_drew));exact Kd.R_mono (Kd.R_far (p:=⟨gb643,10,none⟩) (Kd.R_far (p:=⟨gb643,9,none⟩) (Kd.R_far (p:=⟨gb643,8,none⟩) (Kd.R_far (p:=⟨gb643,7,none⟩) (Kd.R_far (p:=⟨gb643,6,none⟩) (Kd.R_far (p:=⟨gb643,5,none⟩) (Kd.R_far (p:=⟨gb643,4,none⟩) (Kd.R_far (p:=⟨gb643,3,none⟩) (Kd.R_far (p:=⟨gb643,2,none⟩) (Kd.R_far (p:=⟨gb643,1,none⟩) (Kd.R_far (p:=⟨gb643,0,none⟩) (Kd.R_types HO653.out BK643.out (by decide)) (fun _ hk => hk.2) (.string a0_0)) (fun _ hk => hk.2) (.int .i64 a0_1)) (fun _ hk => hk.2) (.int .i64 a0_2)) (fun _ hk => hk.2) (.int .i64 a0_3)) (fun _ hk => hk.2) (.int .i64 a0_4)) (fun _ hk => hk.2) (.int .i64 a0_5)) (fun _ hk => hk.2) (.int .i64 a0_6)) (fun _ hk => hk.2) (.int .i64 a0_7)) (fun _ hk => hk.2) (.string a0_8)) (fun _ hk => hk.2) (.string a0_9)) (fun _ hk => hk.2) (.bool a0_10)) (fun _ hk => trivial),by repeat (first|(with_reducible first|exact HB.out|apply bwA|apply bwN|apply bw1|refine below_set ?_ GE642.out|refine below_set ?_ GE643.out)|exact HB.out)⟩
    ·rw [if_neg c13] at H
     have c13b0 : decide (300 < (wrap64 ((a0_9.size : Int) + (a1.size : Int)))) = false:=decide_eq_false c13
     clear c13
     replace H:=Option.bind_eq_some_iff.mp H
     obtain ⟨⟨t654,t655,t656,t657,t658,t659,t660,t661,t662,t663,t664,t665⟩,A230,H⟩:=H
     replace H : (some (t654,t655,t656,t657,t658,t659,t660,t661,t662,t663,t664,t665,0)) = some (r1,r2,r3,r4,r5,r6,r7,r8,r9,r10,r11,r12,r13):=H
     have A23:=aMk A230
     clear A230
     simp only [Option.some.injEq,Prod.mk.injEq] at H
     obtain ⟨rfl,rfl,rfl,rfl,rfl,rfl,rfl,rfl,rfl,rfl,rfl,rfl,rfl⟩:=H
     go_enter Try.func43,Try.ntmps43
     go_wp2_with (first|((with_reducible refine gate_dst (N:=2) rfl ?_);refine box_event ?hg (N:=2) ?hd (cs:=#[.string a0_0,.int .i64 a0_1,.int .i64 a0_2,.int .i64 a0_3,.int .i64 a0_4,.int .i64 a0_5,.int .i64 a0_6,.int .i64 a0_7,.string a0_8,.string a0_9,.bool a0_10]) (t:=34) ?hr ?_;(case hd => rfl);(case hg => rfl);(case hr => first|(go_simp;done)|(go_simp;rfl));intro gb642 hg w24 hbox hb;have n0_:=aMk (below_step (by repeat first|exact HB.out|apply bwA|apply bwN|apply bw1) hb);have n1_:=aMk (hbox);have n2_:=aMk ((by rw [hg];exact (below_size (by repeat first|exact HB.out|apply bwA|apply bwN|apply bw1)) : w.heap.size ≤ gb642));have n3_:=aMk ((by rw [hg];exact (below_size (by repeat first|exact HB.out|apply bwA|apply bwN|apply bw1)) : w.heap.size ≤ gb642));clear HB;have HB:=n0_;have BK642:=n1_;have GW642:=n2_;have GE642:=n3_;clear n0_ n1_ n2_ n3_;clear hb hbox hg)|((with_reducible refine gate_dst (N:=4) rfl ?_);refine box_event ?hg (N:=4) ?hd (cs:=#[.string (⟨#[]⟩ : ByteArray),.int .i64 0,.int .i64 0,.int .i64 0,.int .i64 0,.int .i64 0,.int .i64 0,.int .i64 0,.string (⟨#[]⟩ : ByteArray),.string (⟨#[]⟩ : ByteArray),.bool false]) (t:=34) ?hr ?_;(case hd => rfl);(case hg => rfl);(case hr => first|(go_simp;done)|(go_simp;rfl));intro gb643 hg w25 hbox hb;have n0_:=aMk (blk_below (g:=gb642) (o:=.cells #[.string a0_0,.int .i64 a0_1,.int .i64 a0_2,.int .i64 a0_3,.int .i64 a0_4,.int .i64 a0_5,.int .i64 a0_6,.int .i64 a0_7,.string a0_8,.string a0_9,.bool a0_10] 34 (0,0)) (by (with_reducible repeat (first|refine bDn ?_ _|refine bDr ?_|refine bAl ?_ _));exact BK642.out) hb);have n1_:=aMk (below_step (by repeat (first|(with_reducible first|exact HB.out|apply bwA|apply bwN|apply bw1|refine below_set ?_ GE642.out)|exact HB.out)) hb);have n2_:=aMk (hbox);have n3_:=aMk ((by rw [hg];exact (below_size (by repeat (first|(with_reducible first|exact HB.out|apply bwA|apply bwN|apply bw1|refine below_set ?_ GE642.out)|exact HB.out))) : w.heap.size ≤ gb643));have n4_:=aMk ((by rw [hg];exact (below_size (by repeat (first|(with_reducible first|exact HB.out|apply bwA|apply bwN|apply bw1|refine below_set ?_ GE642.out)|exact HB.out))) : w.heap.size ≤ gb643));have n5_:=aMk ((by rw [hg];exact Nat.ne_of_lt (blk_lt (g:=gb642) (o:=.cells #[.string a0_0,.int .i64 a0_1,.int .i64 a0_2,.int .i64 a0_3,.int .i64 a0_4,.int .i64 a0_5,.int .i64 a0_6,.int .i64 a0_7,.string a0_8,.string a0_9,.bool a0_10] 34 (0,0)) (by (with_reducible repeat (first|refine bDn ?_ _|refine bDr ?_|refine bAl ?_ _));exact BK642.out)) : gb642 ≠ gb643));have n6_:=aMk ((by rw [hg];exact Nat.ne_of_gt (blk_lt (g:=gb642) (o:=.cells #[.string a0_0,.int .i64 a0_1,.int .i64 a0_2,.int .i64 a0_3,.int .i64 a0_4,.int .i64 a0_5,.int .i64 a0_6,.int .i64 a0_7,.string a0_8,.string a0_9,.bool a0_10] 34 (0,0)) (by (with_reducible repeat (first|refine bDn ?_ _|refine bDr ?_|refine bAl ?_ _));exact BK642.out)) : gb643 ≠ gb642));clear BK642;clear HB;have BK642:=n0_;have HB:=n1_;have BK643:=n2_;have GW643:=n3_;have GE643:=n4_;have NB642_643:=n5_;have NB643_642:=n6_;clear n0_ n1_ n2_ n3_ n4_ n5_ n6_;clear hb hbox hg;have hnb26:=NB642_643.out;have hnc26:=NB643_642.out;have hcz27_0 : w25.cell? ⟨gb642,0,none⟩ = some (.string a0_0):=(bCe BK642.out 0).trans rfl;have hcz27_1 : w25.cell? ⟨gb642,1,none⟩ = some (.int .i64 a0_1):=(bCe BK642.out 1).trans rfl;have hcz27_2 : w25.cell? ⟨gb642,2,none⟩ = some (.int .i64 a0_2):=(bCe BK642.out 2).trans rfl;have hcz27_3 : w25.cell? ⟨gb642,3,none⟩ = some (.int .i64 a0_3):=(bCe BK642.out 3).trans rfl;have hcz27_4 : w25.cell? ⟨gb642,4,none⟩ = some (.int .i64 a0_4):=(bCe BK642.out 4).trans rfl;have hcz27_5 : w25.cell? ⟨gb642,5,none⟩ = some (.int .i64 a0_5):=(bCe BK642.out 5).trans rfl;have hcz27_6 : w25.cell? ⟨gb642,6,none⟩ = some (.int .i64 a0_6):=(bCe BK642.out 6).trans rfl;have hcz27_7 : w25.cell? ⟨gb642,7,none⟩ = some (.int .i64 a0_7):=(bCe BK642.out 7).trans rfl;have hcz27_8 : w25.cell? ⟨gb642,8,none⟩ = some (.string a0_8):=(bCe BK642.out 8).trans rfl;have hcz27_9 : w25.cell? ⟨gb642,9,none⟩ = some (.string a0_9):=(bCe BK642.out 9).trans rfl;have hcz27_10 : w25.cell? ⟨gb642,10,none⟩ = some (.bool a0_10):=(bCe BK642.out 10).trans rfl;have hfz27_0:=bFr BK642.out 0;have hfz27_1:=bFr BK642.out 1;have hfz27_2:=bFr BK642.out 2;have hfz27_3:=bFr BK642.out 3;have hfz27_4:=bFr BK642.out 4;have hfz27_5:=bFr BK642.out 5;have hfz27_6:=bFr BK642.out 6;have hfz27_7:=bFr BK642.out 7;have hfz27_8:=bFr BK642.out 8;have hfz27_9:=bFr BK642.out 9;have hfz27_10:=bFr BK642.out 10)|((with_reducible refine gate_callee (f:=23) rfl ?_);refine goesL_ (some 15) rfl rfl Try.func23 (by kernel_rfl) rfl #[.agg #[.string a0_0,.int .i64 a0_1,.int .i64 a0_2,.int .i64 a0_3,.int .i64 a0_4,.int .i64 a0_5,.int .i64 a0_6,.int .i64 a0_7,.string a0_8,.string a0_9,.bool a0_10]] rfl (by (try simp only [List.map_toArray,List.map_cons,List.map_nil]);first | done | rfl|(simp only [List.length_drop,List.length_take];rfl)) ?_;(with_reducible refine (spec_ConnOK.calls k a0_0 a0_1 a0_2 a0_3 a0_4 a0_5 a0_6 a0_7 a0_8 a0_9 a0_10 true _ A10.out).mono ?_);rintro e w28 ⟨rfl,hb⟩;refine ⟨_,rfl,?_⟩;have n0_:=aMk (blk_below (g:=gb642) (o:=.cells #[.string a0_0,.int .i64 a0_1,.int .i64 a0_2,.int .i64 a0_3,.int .i64 a0_4,.int .i64 a0_5,.int .i64 a0_6,.int .i64 a0_7,.string a0_8,.string a0_9,.bool a0_10] 34 (0,0)) (by (with_reducible repeat (first|refine bDn ?_ _|refine bDr ?_|refine bAl ?_ _));exact BK642.out) hb);have n1_:=aMk (blk_below (g:=gb643) (o:=.cells #[.string (⟨#[]⟩ : ByteArray),.int .i64 0,.int .i64 0,.int .i64 0,.int .i64 0,.int .i64 0,.int .i64 0,.int .i64 0,.string (⟨#[]⟩ : ByteArray),.string (⟨#[]⟩ : ByteArray),.bool false] 34 (0,0)) (by (with_reducible repeat (first|refine bDn ?_ _|refine bDr ?_|refine bAl ?_ _));exact BK643.out) hb);have n2_:=aMk (below_step (by repeat (first|(with_reducible first|exact HB.out|apply bwA|apply bwN|apply bw1|refine below_set ?_ GE642.out|refine below_set ?_ GE643.out)|exact HB.out)) hb);clear BK642;clear BK643;clear HB;have BK642:=n0_;have BK643:=n1_;have HB:=n2_;clear n0_ n1_ n2_;(try clear hb);(try clear hb2);(try clear hk);(try clear hi);have hcz29_0 : w28.cell? ⟨gb642,0,none⟩ = some (.string a0_0):=(bCe BK642.out 0).trans rfl;have hcz29_1 : w28.cell? ⟨gb642,1,none⟩ = some (.int .i64 a0_1):=(bCe BK642.out 1).trans rfl;have hcz29_2 : w28.cell? ⟨gb642,2,none⟩ = some (.int .i64 a0_2):=(bCe BK642.out 2).trans rfl;have hcz29_3 : w28.cell? ⟨gb642,3,none⟩ = some (.int .i64 a0_3):=(bCe BK642.out 3).trans rfl;have hcz29_4 : w28.cell? ⟨gb642,4,none⟩ = some (.int .i64 a0_4):=(bCe BK642.out 4).trans rfl;have hcz29_5 : w28.cell? ⟨gb642,5,none⟩ = some (.int .i64 a0_5):=(bCe BK642.out 5).trans rfl;have hcz29_6 : w28.cell? ⟨gb642,6,none⟩ = some (.int .i64 a0_6):=(bCe BK642.out 6).trans rfl;have hcz29_7 : w28.cell? ⟨gb642,7,none⟩ = some (.int .i64 a0_7):=(bCe BK642.out 7).trans rfl;have hcz29_8 : w28.cell? ⟨gb642,8,none⟩ = some (.string a0_8):=(bCe BK642.out 8).trans rfl;have hcz29_9 : w28.cell? ⟨gb642,9,none⟩ = some (.string a0_9):=(bCe BK642.out 9).trans rfl;have hcz29_10 : w28.cell? ⟨gb642,10,none⟩ = some (.bool a0_10):=(bCe BK642.out 10).trans rfl;have hfz29_0:=bFr BK642.out 0;have hfz29_1:=bFr BK642.out 1;have hfz29_2:=bFr BK642.out 2;have hfz29_3:=bFr BK642.out 3;have hfz29_4:=bFr BK642.out 4;have hfz29_5:=bFr BK642.out 5;have hfz29_6:=bFr BK642.out 6;have hfz29_7:=bFr BK642.out 7;have hfz29_8:=bFr BK642.out 8;have hfz29_9:=bFr BK642.out 9;have hfz29_10:=bFr BK642.out 10)|((with_reducible refine gate_callee (f:=92) rfl ?_);refine goesL_ (some 36) rfl rfl Try.func92 (by kernel_rfl) rfl #[.agg #[.string a0_0,.int .i64 a0_1,.int .i64 a0_2,.int .i64 a0_3,.int .i64 a0_4,.int .i64 a0_5,.int .i64 a0_6,.int .i64 a0_7,.string a0_8,.string a0_9,.bool a0_10],.string a1] rfl (by (try simp only [List.map_toArray,List.map_cons,List.map_nil]);first | done | rfl|(simp only [List.length_drop,List.length_take];rfl)) ?_;(with_reducible refine (spec_l10Say.calls k a0_0 a0_1 a0_2 a0_3 a0_4 a0_5 a0_6 a0_7 a0_8 a0_9 a0_10 a1 t654 t655 t656 t657 t658 t659 t660 t661 t662 t663 t664 t665 _ A23.out).mono ?_);rintro e w30 ⟨v666,rfl,ho0,hb⟩;refine ⟨_,rfl,?_⟩;have n0_:=aMk (Kd.R_lower ho0 (below_size (by repeat (first|(with_reducible first|exact HB.out|apply bwA|apply bwN|apply bw1|refine below_set ?_ GE642.out|refine below_set ?_ GE643.out)|exact HB.out))));have n1_:=aMk (blk_below (g:=gb642) (o:=.cells #[.string a0_0,.int .i64 a0_1,.int .i64 a0_2,.int .i64 a0_3,.int .i64 a0_4,.int .i64 a0_5,.int .i64 a0_6,.int .i64 a0_7,.string a0_8,.string a0_9,.bool a0_10] 34 (0,0)) (by (with_reducible repeat (first|refine bDn ?_ _|refine bDr ?_|refine bAl ?_ _));exact BK642.out) hb);have n2_:=aMk (blk_below (g:=gb643) (o:=.cells #[.string (⟨#[]⟩ : ByteArray),.int .i64 0,.int .i64 0,.int .i64 0,.int .i64 0,.int .i64 0,.int .i64 0,.int .i64 0,.string (⟨#[]⟩ : ByteArray),.string (⟨#[]⟩ : ByteArray),.bool false] 34 (0,0)) (by (with_reducible repeat (first|refine bDn ?_ _|refine bDr ?_|refine bAl ?_ _));exact BK643.out) hb);have n3_:=aMk (below_step (by repeat (first|(with_reducible first|exact HB.out|apply bwA|apply bwN|apply bw1|refine below_set ?_ GE642.out|refine below_set ?_ GE643.out)|exact HB.out)) hb);clear BK642;clear BK643;clear HB;have HO667:=n0_;have BK642:=n1_;have BK643:=n2_;have HB:=n3_;clear n0_ n1_ n2_ n3_;(try clear hb);(try clear hb2);(try clear hk);(try clear hi);(try clear ho0))|((with_reducible refine gate_dst (N:=7) rfl ?_);refine box_event ?hg (N:=7) ?hd (cs:=#[.string (⟨#[]⟩ : ByteArray),.int .i64 0,.int .i64 0,.int .i64 0,.int .i64 0,.int .i64 0,.int .i64 0,.int .i64 0,.string (⟨#[]⟩ : ByteArray),.string (⟨#[]⟩ : ByteArray),.bool false]) (t:=34) ?hr ?_;(case hd => rfl);(case hg => rfl);(case hr => first|(go_simp;done)|(go_simp;rfl));intro gb668 hg w31 hbox hb;have n0_:=aMk (Kd.R_below (by (with_reducible repeat (first|apply Kd.R_alloc|apply Kd.R_drewN|apply Kd.R_drew));exact HO667.out) hb);have n1_:=aMk (blk_below (g:=gb642) (o:=.cells #[.string a0_0,.int .i64 a0_1,.int .i64 a0_2,.int .i64 a0_3,.int .i64 a0_4,.int .i64 a0_5,.int .i64 a0_6,.int .i64 a0_7,.string a0_8,.string a0_9,.bool a0_10] 34 (0,0)) (by (with_reducible repeat (first|refine bDn ?_ _|refine bDr ?_|refine bAl ?_ _));exact BK642.out) hb);have n2_:=aMk (blk_below (g:=gb643) (o:=.cells #[.string (⟨#[]⟩ : ByteArray),.int .i64 0,.int .i64 0,.int .i64 0,.int .i64 0,.int .i64 0,.int .i64 0,.int .i64 0,.string (⟨#[]⟩ : ByteArray),.string (⟨#[]⟩ : ByteArray),.bool false] 34 (0,0)) (by (with_reducible repeat (first|refine bDn ?_ _|refine bDr ?_|refine bAl ?_ _));exact BK643.out) hb);have n3_:=aMk (below_step (by repeat (first|(with_reducible first|exact HB.out|apply bwA|apply bwN|apply bw1|refine below_set ?_ GE642.out|refine below_set ?_ GE643.out)|exact HB.out)) hb);have n4_:=aMk (hbox);have n5_:=aMk ((by rw [hg];exact (below_size (by repeat (first|(with_reducible first|exact HB.out|apply bwA|apply bwN|apply bw1|refine below_set ?_ GE642.out|refine below_set ?_ GE643.out)|exact HB.out))) : w.heap.size ≤ gb668));have n6_:=aMk ((by rw [hg];exact (below_size (by repeat (first|(with_reducible first|exact HB.out|apply bwA|apply bwN|apply bw1|refine below_set ?_ GE642.out|refine below_set ?_ GE643.out)|exact HB.out))) : w.heap.size ≤ gb668));have n7_:=aMk ((by rw [hg];exact Nat.ne_of_lt (blk_lt (g:=gb642) (o:=.cells #[.string a0_0,.int .i64 a0_1,.int .i64 a0_2,.int .i64 a0_3,.int .i64 a0_4,.int .i64 a0_5,.int .i64 a0_6,.int .i64 a0_7,.string a0_8,.string a0_9,.bool a0_10] 34 (0,0)) (by (with_reducible repeat (first|refine bDn ?_ _|refine bDr ?_|refine bAl ?_ _));exact BK642.out)) : gb642 ≠ gb668));have n8_:=aMk ((by rw [hg];exact Nat.ne_of_gt (blk_lt (g:=gb642) (o:=.cells #[.string a0_0,.int .i64 a0_1,.int .i64 a0_2,.int .i64 a0_3,.int .i64 a0_4,.int .i64 a0_5,.int .i64 a0_6,.int .i64 a0_7,.string a0_8,.string a0_9,.bool a0_10] 34 (0,0)) (by (with_reducible repeat (first|refine bDn ?_ _|refine bDr ?_|refine bAl ?_ _));exact BK642.out)) : gb668 ≠ gb642));have n9_:=aMk ((by rw [hg];exact Nat.ne_of_lt (blk_lt (g:=gb643) (o:=.cells #[.string (⟨#[]⟩ : ByteArray),.int .i64 0,.int .i64 0,.int .i64 0,.int .i64 0,.int .i64 0,.int .i64 0,.int .i64 0,.string (⟨#[]⟩ : ByteArray),.string (⟨#[]⟩ : ByteArray),.bool false] 34 (0,0)) (by (with_reducible repeat (first|refine bDn ?_ _|refine bDr ?_|refine bAl ?_ _));exact BK643.out)) : gb643 ≠ gb668));have n10_:=aMk ((by rw [hg];exact Nat.ne_of_gt (blk_lt (g:=gb643) (o:=.cells #[.string (⟨#[]⟩ : ByteArray),.int .i64 0,.int .i64 0,.int .i64 0,.int .i64 0,.int .i64 0,.int .i64 0,.int .i64 0,.string (⟨#[]⟩ : ByteArray),.string (⟨#[]⟩ : ByteArray),.bool false] 34 (0,0)) (by (with_reducible repeat (first|refine bDn ?_ _|refine bDr ?_|refine bAl ?_ _));exact BK643.out)) : gb668 ≠ gb643));clear HO667;clear BK642;clear BK643;clear HB;have HO667:=n0_;have BK642:=n1_;have BK643:=n2_;have HB:=n3_;have BK668:=n4_;have GW668:=n5_;have GE668:=n6_;have NB642_668:=n7_;have NB668_642:=n8_;have NB643_668:=n9_;have NB668_643:=n10_;clear n0_ n1_ n2_ n3_ n4_ n5_ n6_ n7_ n8_ n9_ n10_;clear hb hbox hg;have hnb32:=NB668_642.out;have hnc32:=NB642_668.out;have hnb33:=NB668_643.out;have hnc33:=NB643_668.out;have hcz34_0 : w31.cell? ⟨gb668,0,none⟩ = some (.string (⟨#[]⟩ : ByteArray)):=(bCe BK668.out 0).trans rfl;have hcz34_1 : w31.cell? ⟨gb668,1,none⟩ = some (.int .i64 0):=(bCe BK668.out 1).trans rfl;have hcz34_2 : w31.cell? ⟨gb668,2,none⟩ = some (.int .i64 0):=(bCe BK668.out 2).trans rfl;have hcz34_3 : w31.cell? ⟨gb668,3,none⟩ = some (.int .i64 0):=(bCe BK668.out 3).trans rfl;have hcz34_4 : w31.cell? ⟨gb668,4,none⟩ = some (.int .i64 0):=(bCe BK668.out 4).trans rfl;have hcz34_5 : w31.cell? ⟨gb668,5,none⟩ = some (.int .i64 0):=(bCe BK668.out 5).trans rfl;have hcz34_6 : w31.cell? ⟨gb668,6,none⟩ = some (.int .i64 0):=(bCe BK668.out 6).trans rfl;have hcz34_7 : w31.cell? ⟨gb668,7,none⟩ = some (.int .i64 0):=(bCe BK668.out 7).trans rfl;have hcz34_8 : w31.cell? ⟨gb668,8,none⟩ = some (.string (⟨#[]⟩ : ByteArray)):=(bCe BK668.out 8).trans rfl;have hcz34_9 : w31.cell? ⟨gb668,9,none⟩ = some (.string (⟨#[]⟩ : ByteArray)):=(bCe BK668.out 9).trans rfl;have hcz34_10 : w31.cell? ⟨gb668,10,none⟩ = some (.bool false):=(bCe BK668.out 10).trans rfl;have hfz34_0:=bFr BK668.out 0;have hfz34_1:=bFr BK668.out 1;have hfz34_2:=bFr BK668.out 2;have hfz34_3:=bFr BK668.out 3;have hfz34_4:=bFr BK668.out 4;have hfz34_5:=bFr BK668.out 5;have hfz34_6:=bFr BK668.out 6;have hfz34_7:=bFr BK668.out 7;have hfz34_8:=bFr BK668.out 8;have hfz34_9:=bFr BK668.out 9;have hfz34_10:=bFr BK668.out 10;have hcz35_0 : w31.cell? ⟨gb643,0,none⟩ = some (.string (⟨#[]⟩ : ByteArray)):=(bCe BK643.out 0).trans rfl;have hcz35_1 : w31.cell? ⟨gb643,1,none⟩ = some (.int .i64 0):=(bCe BK643.out 1).trans rfl;have hcz35_2 : w31.cell? ⟨gb643,2,none⟩ = some (.int .i64 0):=(bCe BK643.out 2).trans rfl;have hcz35_3 : w31.cell? ⟨gb643,3,none⟩ = some (.int .i64 0):=(bCe BK643.out 3).trans rfl;have hcz35_4 : w31.cell? ⟨gb643,4,none⟩ = some (.int .i64 0):=(bCe BK643.out 4).trans rfl;have hcz35_5 : w31.cell? ⟨gb643,5,none⟩ = some (.int .i64 0):=(bCe BK643.out 5).trans rfl;have hcz35_6 : w31.cell? ⟨gb643,6,none⟩ = some (.int .i64 0):=(bCe BK643.out 6).trans rfl;have hcz35_7 : w31.cell? ⟨gb643,7,none⟩ = some (.int .i64 0):=(bCe BK643.out 7).trans rfl;have hcz35_8 : w31.cell? ⟨gb643,8,none⟩ = some (.string (⟨#[]⟩ : ByteArray)):=(bCe BK643.out 8).trans rfl;have hcz35_9 : w31.cell? ⟨gb643,9,none⟩ = some (.string (⟨#[]⟩ : ByteArray)):=(bCe BK643.out 9).trans rfl;have hcz35_10 : w31.cell? ⟨gb643,10,none⟩ = some (.bool false):=(bCe BK643.out 10).trans rfl;have hfz35_0:=bFr BK643.out 0;have hfz35_1:=bFr BK643.out 1;have hfz35_2:=bFr BK643.out 2;have hfz35_3:=bFr BK643.out 3;have hfz35_4:=bFr BK643.out 4;have hfz35_5:=bFr BK643.out 5;have hfz35_6:=bFr BK643.out 6;have hfz35_7:=bFr BK643.out 7;have hfz35_8:=bFr BK643.out 8;have hfz35_9:=bFr BK643.out 9;have hfz35_10:=bFr BK643.out 10))
     refine bodyPost_ret (results_ctt rfl _ _ gb643 34 #[.string t654,.int .i64 t655,.int .i64 t656,.int .i64 t657,.int .i64 t658,.int .i64 t659,.int .i64 t660,.int .i64 t661,.string t662,.string t663,.bool t664] (0,0) _ rfl (by (with_reducible repeat (first|refine bDn ?_ _|refine bDr ?_|refine bAl ?_ _));refine blk_put (cs:=#[.string t654,.int .i64 t655,.int .i64 t656,.int .i64 t657,.int .i64 t658,.int .i64 t659,.int .i64 t660,.int .i64 t661,.string t662,.string t663,.bool false]) ?_ 10 _ rfl;(with_reducible repeat (first|refine bDn ?_ _|refine bDr ?_|refine bAl ?_ _));refine blk_put (cs:=#[.string t654,.int .i64 t655,.int .i64 t656,.int .i64 t657,.int .i64 t658,.int .i64 t659,.int .i64 t660,.int .i64 t661,.string t662,.string (⟨#[]⟩ : ByteArray),.bool false]) ?_ 9 _ rfl;(with_reducible repeat (first|refine bDn ?_ _|refine bDr ?_|refine bAl ?_ _));refine blk_put (cs:=#[.string t654,.int .i64 t655,.int .i64 t656,.int .i64 t657,.int .i64 t658,.int .i64 t659,.int .i64 t660,.int .i64 t661,.string (⟨#[]⟩ : ByteArray),.string (⟨#[]⟩ : ByteArray),.bool false]) ?_ 8 _ rfl;(with_reducible repeat (first|refine bDn ?_ _|refine bDr ?_|refine bAl ?_ _));refine blk_put (cs:=#[.string t654,.int .i64 t655,.int .i64 t656,.int .i64 t657,.int .i64 t658,.int .i64 t659,.int .i64 t660,.int .i64 0,.string (⟨#[]⟩ : ByteArray),.string (⟨#[]⟩ : ByteArray),.bool false]) ?_ 7 _ rfl;(with_reducible repeat (first|refine bDn ?_ _|refine bDr ?_|refine bAl ?_ _));refine blk_put (cs:=#[.string t654,.int .i64 t655,.int .i64 t656,.int .i64 t657,.int .i64 t658,.int .i64 t659,.int .i64 0,.int .i64 0,.string (⟨#[]⟩ : ByteArray),.string (⟨#[]⟩ : ByteArray),.bool false]) ?_ 6 _ rfl;(with_reducible repeat (first|refine bDn ?_ _|refine bDr ?_|refine bAl ?_ _));refine blk_put (cs:=#[.string t654,.int .i64 t655,.int .i64 t656,.int .i64 t657,.int .i64 t658,.int .i64 0,.int .i64 0,.int .i64 0,.string (⟨#[]⟩ : ByteArray),.string (⟨#[]⟩ : ByteArray),.bool false]) ?_ 5 _ rfl;(with_reducible repeat (first|refine bDn ?_ _|refine bDr ?_|refine bAl ?_ _));refine blk_put (cs:=#[.string t654,.int .i64 t655,.int .i64 t656,.int .i64 t657,.int .i64 0,.int .i64 0,.int .i64 0,.int .i64 0,.string (⟨#[]⟩ : ByteArray),.string (⟨#[]⟩ : ByteArray),.bool false]) ?_ 4 _ rfl;(with_reducible repeat (first|refine bDn ?_ _|refine bDr ?_|refine bAl ?_ _));refine blk_put (cs:=#[.string t654,.int .i64 t655,.int .i64 t656,.int .i64 0,.int .i64 0,.int .i64 0,.int .i64 0,.int .i64 0,.string (⟨#[]⟩ : ByteArray),.string (⟨#[]⟩ : ByteArray),.bool false]) ?_ 3 _ rfl;(with_reducible repeat (first|refine bDn ?_ _|refine bDr ?_|refine bAl ?_ _));refine blk_put (cs:=#[.string t654,.int .i64 t655,.int .i64 0,.int .i64 0,.int .i64 0,.int .i64 0,.int .i64 0,.int .i64 0,.string (⟨#[]⟩ : ByteArray),.string (⟨#[]⟩ : ByteArray),.bool false]) ?_ 2 _ rfl;(with_reducible repeat (first|refine bDn ?_ _|refine bDr ?_|refine bAl ?_ _));refine blk_put (cs:=#[.string t654,.int .i64 0,.int .i64 0,.int .i64 0,.int .i64 0,.int .i64 0,.int .i64 0,.int .i64 0,.string (⟨#[]⟩ : ByteArray),.string (⟨#[]⟩ : ByteArray),.bool false]) ?_ 1 _ rfl;(with_reducible repeat (first|refine bDn ?_ _|refine bDr ?_|refine bAl ?_ _));refine blk_put (cs:=#[.string (⟨#[]⟩ : ByteArray),.int .i64 0,.int .i64 0,.int .i64 0,.int .i64 0,.int .i64 0,.int .i64 0,.int .i64 0,.string (⟨#[]⟩ : ByteArray),.string (⟨#[]⟩ : ByteArray),.bool false]) ?_ 0 _ rfl;(with_reducible repeat (first|refine bDn ?_ _|refine bDr ?_|refine bAl ?_ _));refine blk_far ?_ NB643_668.out _;(with_reducible repeat (first|refine bDn ?_ _|refine bDr ?_|refine bAl ?_ _));refine blk_far ?_ NB643_668.out _;(with_reducible repeat (first|refine bDn ?_ _|refine bDr ?_|refine bAl ?_ _));refine blk_far ?_ NB643_668.out _;(with_reducible repeat (first|refine bDn ?_ _|refine bDr ?_|refine bAl ?_ _));refine blk_far ?_ NB643_668.out _;(with_reducible repeat (first|refine bDn ?_ _|refine bDr ?_|refine bAl ?_ _));refine blk_far ?_ NB643_668.out _;(with_reducible repeat (first|refine bDn ?_ _|refine bDr ?_|refine bAl ?_ _));refine blk_far ?_ NB643_668.out _;(with_reducible repeat (first|refine bDn ?_ _|refine bDr ?_|refine bAl ?_ _));refine blk_far ?_ NB643_668.out _;(with_reducible repeat (first|refine bDn ?_ _|refine bDr ?_|refine bAl ?_ _));refine blk_far ?_ NB643_668.out _;(with_reducible repeat (first|refine bDn ?_ _|refine bDr ?_|refine bAl ?_ _));refine blk_far ?_ NB643_668.out _;(with_reducible repeat (first|refine bDn ?_ _|refine bDr ?_|refine bAl ?_ _));refine blk_far ?_ NB643_668.out _;(with_reducible repeat (first|refine bDn ?_ _|refine bDr ?_|refine bAl ?_ _));refine blk_far ?_ NB643_668.out _;(with_reducible repeat (first|refine bDn ?_ _|refine bDr ?_|refine bAl ?_ _));exact BK643.out) Try.underlying34 rfl (by kernel_rfl)) rfl ?_
     exact ⟨_,by first | rfl|(simp [errW_none,errW_some] <;> rfl)|(simp [*,errW_none,errW_some] <;> rfl),by (with_reducible repeat (first|apply Kd.R_alloc|apply Kd.R_drewN|apply Kd.R_drew));exact Kd.R_mono (Kd.R_far (p:=⟨gb643,10,none⟩) (Kd.R_far (p:=⟨gb643,9,none⟩) (Kd.R_far (p:=⟨gb643,8,none⟩) (Kd.R_far (p:=⟨gb643,7,none⟩) (Kd.R_far (p:=⟨gb643,6,none⟩) (Kd.R_far (p:=⟨gb643,5,none⟩) (Kd.R_far (p:=⟨gb643,4,none⟩) (Kd.R_far (p:=⟨gb643,3,none⟩) (Kd.R_far (p:=⟨gb643,2,none⟩) (Kd.R_far (p:=⟨gb643,1,none⟩) (Kd.R_far (p:=⟨gb643,0,none⟩) (Kd.R_far (p:=⟨gb668,10,none⟩) (Kd.R_far (p:=⟨gb668,9,none⟩) (Kd.R_far (p:=⟨gb668,8,none⟩) (Kd.R_far (p:=⟨gb668,7,none⟩) (Kd.R_far (p:=⟨gb668,6,none⟩) (Kd.R_far (p:=⟨gb668,5,none⟩) (Kd.R_far (p:=⟨gb668,4,none⟩) (Kd.R_far (p:=⟨gb668,3,none⟩) (Kd.R_far (p:=⟨gb668,2,none⟩) (Kd.R_far (p:=⟨gb668,1,none⟩) (Kd.R_far (p:=⟨gb668,0,none⟩) (Kd.R_types (Kd.R_types HO667.out BK668.out (by decide)) BK643.out (by decide)) (fun _ hk => hk.1.2) (.string t654)) (fun _ hk => hk.1.2) (.int .i64 t655)) (fun _ hk => hk.1.2) (.int .i64 t656)) (fun _ hk => hk.1.2) (.int .i64 t657)) (fun _ hk => hk.1.2) (.int .i64 t658)) (fun _ hk => hk.1.2) (.int .i64 t659)) (fun _ hk => hk.1.2) (.int .i64 t660)) (fun _ hk => hk.1.2) (.int .i64 t661)) (fun _ hk => hk.1.2) (.string t662)) (fun _ hk => hk.1.2) (.string t663)) (fun _ hk => hk.1.2) (.bool t664)) (fun _ hk => hk.2) (.string t654)) (fun _ hk => hk.2) (.int .i64 t655)) (fun _ hk => hk.2) (.int .i64 t656)) (fun _ hk => hk.2) (.int .i64 t657)) (fun _ hk => hk.2) (.int .i64 t658)) (fun _ hk => hk.2) (.int .i64 t659)) (fun _ hk => hk.2) (.int .i64 t660)) (fun _ hk => hk.2) (.int .i64 t661)) (fun _ hk => hk.2) (.string t662)) (fun _ hk => hk.2) (.string t663)) (fun _ hk => hk.2) (.bool t664)) (fun _ hk => trivial),by repeat (first|(with_reducible first|exact HB.out|apply bwA|apply bwN|apply bw1|refine below_set ?_ GE642.out|refine below_set ?_ GE643.out|refine below_set ?_ GE668.out)|exact HB.out)⟩
   ·rw [if_neg c12] at H
    have c12b0 : (a0_4 == 2) = false:=beq_eq_false_iff_ne.mpr c12
    have c12b1 : (a0_4 != 2) = true:=bne_iff_ne.mpr c12
    obtain ⟨y669,hy669⟩ : ∃ y_ : List (S53),y_ = (([] : List (S53))):=⟨_,rfl⟩
    replace H : (some (a0_0,a0_1,a0_2,a0_3,a0_4,a0_5,a0_6,a0_7,a0_8,a0_9,a0_10,y669,12)) = some (r1,r2,r3,r4,r5,r6,r7,r8,r9,r10,r11,r12,r13):=by first|(rw [hy669];with_reducible exact H)|(have H2_:=(Option.bind_some _ _).symm.trans H;rw [hy669];with_reducible exact H2_)|(have H2_:=(Option.bind_some _ _).symm.trans H;with_reducible exact H2_) | with_reducible exact H|(rw [hy669];exact H)|exact H
    have Ny669:=aMk hy669
    clear hy669
    simp only [Option.some.injEq,Prod.mk.injEq] at H
    obtain ⟨rfl,rfl,rfl,rfl,rfl,rfl,rfl,rfl,rfl,rfl,rfl,rfl,rfl⟩:=H
    go_enter Try.func43,Try.ntmps43
    go_wp2_with (first|((with_reducible refine gate_dst (N:=2) rfl ?_);refine box_event ?hg (N:=2) ?hd (cs:=#[.string a0_0,.int .i64 a0_1,.int .i64 a0_2,.int .i64 a0_3,.int .i64 a0_4,.int .i64 a0_5,.int .i64 a0_6,.int .i64 a0_7,.string a0_8,.string a0_9,.bool a0_10]) (t:=34) ?hr ?_;(case hd => rfl);(case hg => rfl);(case hr => first|(go_simp;done)|(go_simp;rfl));intro gb642 hg w36 hbox hb;have n0_:=aMk (below_step (by repeat first|exact HB.out|apply bwA|apply bwN|apply bw1) hb);have n1_:=aMk (hbox);have n2_:=aMk ((by rw [hg];exact (below_size (by repeat first|exact HB.out|apply bwA|apply bwN|apply bw1)) : w.heap.size ≤ gb642));have n3_:=aMk ((by rw [hg];exact (below_size (by repeat first|exact HB.out|apply bwA|apply bwN|apply bw1)) : w.heap.size ≤ gb642));clear HB;have HB:=n0_;have BK642:=n1_;have GW642:=n2_;have GE642:=n3_;clear n0_ n1_ n2_ n3_;clear hb hbox hg)|((with_reducible refine gate_dst (N:=4) rfl ?_);refine box_event ?hg (N:=4) ?hd (cs:=#[.string (⟨#[]⟩ : ByteArray),.int .i64 0,.int .i64 0,.int .i64 0,.int .i64 0,.int .i64 0,.int .i64 0,.int .i64 0,.string (⟨#[]⟩ : ByteArray),.string (⟨#[]⟩ : ByteArray),.bool false]) (t:=34) ?hr ?_;(case hd => rfl);(case hg => rfl);(case hr => first|(go_simp;done)|(go_simp;rfl));intro gb643 hg w37 hbox hb;have n0_:=aMk (blk_below (g:=gb642) (o:=.cells #[.string a0_0,.int .i64 a0_1,.int .i64 a0_2,.int .i64 a0_3,.int .i64 a0_4,.int .i64 a0_5,.int .i64 a0_6,.int .i64 a0_7,.string a0_8,.string a0_9,.bool a0_10] 34 (0,0)) (by (with_reducible repeat (first|refine bDn ?_ _|refine bDr ?_|refine bAl ?_ _));exact BK642.out) hb);have n1_:=aMk (below_step (by repeat (first|(with_reducible first|exact HB.out|apply bwA|apply bwN|apply bw1|refine below_set ?_ GE642.out)|exact HB.out)) hb);have n2_:=aMk (hbox);have n3_:=aMk ((by rw [hg];exact (below_size (by repeat (first|(with_reducible first|exact HB.out|apply bwA|apply bwN|apply bw1|refine below_set ?_ GE642.out)|exact HB.out))) : w.heap.size ≤ gb643));have n4_:=aMk ((by rw [hg];exact (below_size (by repeat (first|(with_reducible first|exact HB.out|apply bwA|apply bwN|apply bw1|refine below_set ?_ GE642.out)|exact HB.out))) : w.heap.size ≤ gb643));have n5_:=aMk ((by rw [hg];exact Nat.ne_of_lt (blk_lt (g:=gb642) (o:=.cells #[.string a0_0,.int .i64 a0_1,.int .i64 a0_2,.int .i64 a0_3,.int .i64 a0_4,.int .i64 a0_5,.int .i64 a0_6,.int .i64 a0_7,.string a0_8,.string a0_9,.bool a0_10] 34 (0,0)) (by (with_reducible repeat (first|refine bDn ?_ _|refine bDr ?_|refine bAl ?_ _));exact BK642.out)) : gb642 ≠ gb643));have n6_:=aMk ((by rw [hg];exact Nat.ne_of_gt (blk_lt (g:=gb642) (o:=.cells #[.string a0_0,.int .i64 a0_1,.int .i64 a0_2,.int .i64 a0_3,.int .i64 a0_4,.int .i64 a0_5,.int .i64 a0_6,.int .i64 a0_7,.string a0_8,.string a0_9,.bool a0_10] 34 (0,0)) (by (with_reducible repeat (first|refine bDn ?_ _|refine bDr ?_|refine bAl ?_ _));exact BK642.out)) : gb643 ≠ gb642));clear BK642;clear HB;have BK642:=n0_;have HB:=n1_;have BK643:=n2_;have GW643:=n3_;have GE643:=n4_;have NB642_643:=n5_;have NB643_642:=n6_;clear n0_ n1_ n2_ n3_ n4_ n5_ n6_;clear hb hbox hg;have hnb38:=NB642_643.out;have hnc38:=NB643_642.out;have hcz39_0 : w37.cell? ⟨gb642,0,none⟩ = some (.string a0_0):=(bCe BK642.out 0).trans rfl;have hcz39_1 : w37.cell? ⟨gb642,1,none⟩ = some (.int .i64 a0_1):=(bCe BK642.out 1).trans rfl;have hcz39_2 : w37.cell? ⟨gb642,2,none⟩ = some (.int .i64 a0_2):=(bCe BK642.out 2).trans rfl;have hcz39_3 : w37.cell? ⟨gb642,3,none⟩ = some (.int .i64 a0_3):=(bCe BK642.out 3).trans rfl;have hcz39_4 : w37.cell? ⟨gb642,4,none⟩ = some (.int .i64 a0_4):=(bCe BK642.out 4).trans rfl;have hcz39_5 : w37.cell? ⟨gb642,5,none⟩ = some (.int .i64 a0_5):=(bCe BK642.out 5).trans rfl;have hcz39_6 : w37.cell? ⟨gb642,6,none⟩ = some (.int .i64 a0_6):=(bCe BK642.out 6).trans rfl;have hcz39_7 : w37.cell? ⟨gb642,7,none⟩ = some (.int .i64 a0_7):=(bCe BK642.out 7).trans rfl;have hcz39_8 : w37.cell? ⟨gb642,8,none⟩ = some (.string a0_8):=(bCe BK642.out 8).trans rfl;have hcz39_9 : w37.cell? ⟨gb642,9,none⟩ = some (.string a0_9):=(bCe BK642.out 9).trans rfl;have hcz39_10 : w37.cell? ⟨gb642,10,none⟩ = some (.bool a0_10):=(bCe BK642.out 10).trans rfl;have hfz39_0:=bFr BK642.out 0;have hfz39_1:=bFr BK642.out 1;have hfz39_2:=bFr BK642.out 2;have hfz39_3:=bFr BK642.out 3;have hfz39_4:=bFr BK642.out 4;have hfz39_5:=bFr BK642.out 5;have hfz39_6:=bFr BK642.out 6;have hfz39_7:=bFr BK642.out 7;have hfz39_8:=bFr BK642.out 8;have hfz39_9:=bFr BK642.out 9;have hfz39_10:=bFr BK642.out 10)|((with_reducible refine gate_callee (f:=23) rfl ?_);refine goesL_ (some 15) rfl rfl Try.func23 (by kernel_rfl) rfl #[.agg #[.string a0_0,.int .i64 a0_1,.int .i64 a0_2,.int .i64 a0_3,.int .i64 a0_4,.int .i64 a0_5,.int .i64 a0_6,.int .i64 a0_7,.string a0_8,.string a0_9,.bool a0_10]] rfl (by (try simp only [List.map_toArray,List.map_cons,List.map_nil]);first | done | rfl|(simp only [List.length_drop,List.length_take];rfl)) ?_;(with_reducible refine (spec_ConnOK.calls k a0_0 a0_1 a0_2 a0_3 a0_4 a0_5 a0_6 a0_7 a0_8 a0_9 a0_10 true _ A10.out).mono ?_);rintro e w40 ⟨rfl,hb⟩;refine ⟨_,rfl,?_⟩;have n0_:=aMk (blk_below (g:=gb642) (o:=.cells #[.string a0_0,.int .i64 a0_1,.int .i64 a0_2,.int .i64 a0_3,.int .i64 a0_4,.int .i64 a0_5,.int .i64 a0_6,.int .i64 a0_7,.string a0_8,.string a0_9,.bool a0_10] 34 (0,0)) (by (with_reducible repeat (first|refine bDn ?_ _|refine bDr ?_|refine bAl ?_ _));exact BK642.out) hb);have n1_:=aMk (blk_below (g:=gb643) (o:=.cells #[.string (⟨#[]⟩ : ByteArray),.int .i64 0,.int .i64 0,.int .i64 0,.int .i64 0,.int .i64 0,.int .i64 0,.int .i64 0,.string (⟨#[]⟩ : ByteArray),.string (⟨#[]⟩ : ByteArray),.bool false] 34 (0,0)) (by (with_reducible repeat (first|refine bDn ?_ _|refine bDr ?_|refine bAl ?_ _));exact BK643.out) hb);have n2_:=aMk (below_step (by repeat (first|(with_reducible first|exact HB.out|apply bwA|apply bwN|apply bw1|refine below_set ?_ GE642.out|refine below_set ?_ GE643.out)|exact HB.out)) hb);clear BK642;clear BK643;clear HB;have BK642:=n0_;have BK643:=n1_;have HB:=n2_;clear n0_ n1_ n2_;(try clear hb);(try clear hb2);(try clear hk);(try clear hi);have hcz41_0 : w40.cell? ⟨gb642,0,none⟩ = some (.string a0_0):=(bCe BK642.out 0).trans rfl;have hcz41_1 : w40.cell? ⟨gb642,1,none⟩ = some (.int .i64 a0_1):=(bCe BK642.out 1).trans rfl;have hcz41_2 : w40.cell? ⟨gb642,2,none⟩ = some (.int .i64 a0_2):=(bCe BK642.out 2).trans rfl;have hcz41_3 : w40.cell? ⟨gb642,3,none⟩ = some (.int .i64 a0_3):=(bCe BK642.out 3).trans rfl;have hcz41_4 : w40.cell? ⟨gb642,4,none⟩ = some (.int .i64 a0_4):=(bCe BK642.out 4).trans rfl;have hcz41_5 : w40.cell? ⟨gb642,5,none⟩ = some (.int .i64 a0_5):=(bCe BK642.out 5).trans rfl;have hcz41_6 : w40.cell? ⟨gb642,6,none⟩ = some (.int .i64 a0_6):=(bCe BK642.out 6).trans rfl;have hcz41_7 : w40.cell? ⟨gb642,7,none⟩ = some (.int .i64 a0_7):=(bCe BK642.out 7).trans rfl;have hcz41_8 : w40.cell? ⟨gb642,8,none⟩ = some (.string a0_8):=(bCe BK642.out 8).trans rfl;have hcz41_9 : w40.cell? ⟨gb642,9,none⟩ = some (.string a0_9):=(bCe BK642.out 9).trans rfl;have hcz41_10 : w40.cell? ⟨gb642,10,none⟩ = some (.bool a0_10):=(bCe BK642.out 10).trans rfl;have hfz41_0:=bFr BK642.out 0;have hfz41_1:=bFr BK642.out 1;have hfz41_2:=bFr BK642.out 2;have hfz41_3:=bFr BK642.out 3;have hfz41_4:=bFr BK642.out 4;have hfz41_5:=bFr BK642.out 5;have hfz41_6:=bFr BK642.out 6;have hfz41_7:=bFr BK642.out 7;have hfz41_8:=bFr BK642.out 8;have hfz41_9:=bFr BK642.out 9;have hfz41_10:=bFr BK642.out 10)|((with_reducible refine gate_dst (N:=23) rfl ?_);refine Kd.R_lit k53 _ 53 ?hg (N:=23) ?hd (xs:=([] : List (S53))) (inner:=[]) (ok:=fun _ => True) (okp:=fun _ => True) ?hr ?hp (fun _ hk => hk) trivial (Below.refl _ _) (Nat.le_refl _) (by simp) ?_;(case hd => rfl);(case hg => rfl);(case hr => first|(go_simp;done)|(go_simp;rfl));(case hp => exact (Reps.none _ _));intro v670 w42 ho43 hb hg_ hnew_;clear hg_ hnew_;(first|rw [← Ny669.out] at ho43|(simp only [Int.reduceToNat] at ho43;rw [← Ny669.out] at ho43));have n0_:=aMk (Kd.R_lower ho43 (below_size (by repeat (first|(with_reducible first|exact HB.out|apply bwA|apply bwN|apply bw1|refine below_set ?_ GE642.out|refine below_set ?_ GE643.out)|exact HB.out))));have n1_:=aMk (blk_below (g:=gb642) (o:=.cells #[.string a0_0,.int .i64 a0_1,.int .i64 a0_2,.int .i64 a0_3,.int .i64 a0_4,.int .i64 a0_5,.int .i64 a0_6,.int .i64 a0_7,.string a0_8,.string a0_9,.bool a0_10] 34 (0,0)) (by (with_reducible repeat (first|refine bDn ?_ _|refine bDr ?_|refine bAl ?_ _));exact BK642.out) hb);have n2_:=aMk (blk_below (g:=gb643) (o:=.cells #[.string (⟨#[]⟩ : ByteArray),.int .i64 0,.int .i64 0,.int .i64 0,.int .i64 0,.int .i64 0,.int .i64 0,.int .i64 0,.string (⟨#[]⟩ : ByteArray),.string (⟨#[]⟩ : ByteArray),.bool false] 34 (0,0)) (by (with_reducible repeat (first|refine bDn ?_ _|refine bDr ?_|refine bAl ?_ _));exact BK643.out) hb);have n3_:=aMk (below_step (by repeat (first|(with_reducible first|exact HB.out|apply bwA|apply bwN|apply bw1|refine below_set ?_ GE642.out|refine below_set ?_ GE643.out)|exact HB.out)) hb);clear BK642;clear BK643;clear HB;have HO671:=n0_;have BK642:=n1_;have BK643:=n2_;have HB:=n3_;clear n0_ n1_ n2_ n3_;clear hb ho43;have hcz44_0 : w42.cell? ⟨gb643,0,none⟩ = some (.string (⟨#[]⟩ : ByteArray)):=(bCe BK643.out 0).trans rfl;have hcz44_1 : w42.cell? ⟨gb643,1,none⟩ = some (.int .i64 0):=(bCe BK643.out 1).trans rfl;have hcz44_2 : w42.cell? ⟨gb643,2,none⟩ = some (.int .i64 0):=(bCe BK643.out 2).trans rfl;have hcz44_3 : w42.cell? ⟨gb643,3,none⟩ = some (.int .i64 0):=(bCe BK643.out 3).trans rfl;have hcz44_4 : w42.cell? ⟨gb643,4,none⟩ = some (.int .i64 0):=(bCe BK643.out 4).trans rfl;have hcz44_5 : w42.cell? ⟨gb643,5,none⟩ = some (.int .i64 0):=(bCe BK643.out 5).trans rfl;have hcz44_6 : w42.cell? ⟨gb643,6,none⟩ = some (.int .i64 0):=(bCe BK643.out 6).trans rfl;have hcz44_7 : w42.cell? ⟨gb643,7,none⟩ = some (.int .i64 0):=(bCe BK643.out 7).trans rfl;have hcz44_8 : w42.cell? ⟨gb643,8,none⟩ = some (.string (⟨#[]⟩ : ByteArray)):=(bCe BK643.out 8).trans rfl;have hcz44_9 : w42.cell? ⟨gb643,9,none⟩ = some (.string (⟨#[]⟩ : ByteArray)):=(bCe BK643.out 9).trans rfl;have hcz44_10 : w42.cell? ⟨gb643,10,none⟩ = some (.bool false):=(bCe BK643.out 10).trans rfl;have hfz44_0:=bFr BK643.out 0;have hfz44_1:=bFr BK643.out 1;have hfz44_2:=bFr BK643.out 2;have hfz44_3:=bFr BK643.out 3;have hfz44_4:=bFr BK643.out 4;have hfz44_5:=bFr BK643.out 5;have hfz44_6:=bFr BK643.out 6;have hfz44_7:=bFr BK643.out 7;have hfz44_8:=bFr BK643.out 8;have hfz44_9:=bFr BK643.out 9;have hfz44_10:=bFr BK643.out 10))
    refine bodyPost_ret (results_ctt rfl _ _ gb643 34 #[.string a0_0,.int .i64 a0_1,.int .i64 a0_2,.int .i64 a0_3,.int .i64 a0_4,.int .i64 a0_5,.int .i64 a0_6,.int .i64 a0_7,.string a0_8,.string a0_9,.bool a0_10] (0,0) _ rfl (by (with_reducible repeat (first|refine bDn ?_ _|refine bDr ?_|refine bAl ?_ _));refine blk_put (cs:=#[.string a0_0,.int .i64 a0_1,.int .i64 a0_2,.int .i64 a0_3,.int .i64 a0_4,.int .i64 a0_5,.int .i64 a0_6,.int .i64 a0_7,.string a0_8,.string a0_9,.bool false]) ?_ 10 _ rfl;(with_reducible repeat (first|refine bDn ?_ _|refine bDr ?_|refine bAl ?_ _));refine blk_put (cs:=#[.string a0_0,.int .i64 a0_1,.int .i64 a0_2,.int .i64 a0_3,.int .i64 a0_4,.int .i64 a0_5,.int .i64 a0_6,.int .i64 a0_7,.string a0_8,.string (⟨#[]⟩ : ByteArray),.bool false]) ?_ 9 _ rfl;(with_reducible repeat (first|refine bDn ?_ _|refine bDr ?_|refine bAl ?_ _));refine blk_put (cs:=#[.string a0_0,.int .i64 a0_1,.int .i64 a0_2,.int .i64 a0_3,.int .i64 a0_4,.int .i64 a0_5,.int .i64 a0_6,.int .i64 a0_7,.string (⟨#[]⟩ : ByteArray),.string (⟨#[]⟩ : ByteArray),.bool false]) ?_ 8 _ rfl;(with_reducible repeat (first|refine bDn ?_ _|refine bDr ?_|refine bAl ?_ _));refine blk_put (cs:=#[.string a0_0,.int .i64 a0_1,.int .i64 a0_2,.int .i64 a0_3,.int .i64 a0_4,.int .i64 a0_5,.int .i64 a0_6,.int .i64 0,.string (⟨#[]⟩ : ByteArray),.string (⟨#[]⟩ : ByteArray),.bool false]) ?_ 7 _ rfl;(with_reducible repeat (first|refine bDn ?_ _|refine bDr ?_|refine bAl ?_ _));refine blk_put (cs:=#[.string a0_0,.int .i64 a0_1,.int .i64 a0_2,.int .i64 a0_3,.int .i64 a0_4,.int .i64 a0_5,.int .i64 0,.int .i64 0,.string (⟨#[]⟩ : ByteArray),.string (⟨#[]⟩ : ByteArray),.bool false]) ?_ 6 _ rfl;(with_reducible repeat (first|refine bDn ?_ _|refine bDr ?_|refine bAl ?_ _));refine blk_put (cs:=#[.string a0_0,.int .i64 a0_1,.int .i64 a0_2,.int .i64 a0_3,.int .i64 a0_4,.int .i64 0,.int .i64 0,.int .i64 0,.string (⟨#[]⟩ : ByteArray),.string (⟨#[]⟩ : ByteArray),.bool false]) ?_ 5 _ rfl;(with_reducible repeat (first|refine bDn ?_ _|refine bDr ?_|refine bAl ?_ _));refine blk_put (cs:=#[.string a0_0,.int .i64 a0_1,.int .i64 a0_2,.int .i64 a0_3,.int .i64 0,.int .i64 0,.int .i64 0,.int .i64 0,.string (⟨#[]⟩ : ByteArray),.string (⟨#[]⟩ : ByteArray),.bool false]) ?_ 4 _ rfl;(with_reducible repeat (first|refine bDn ?_ _|refine bDr ?_|refine bAl ?_ _));refine blk_put (cs:=#[.string a0_0,.int .i64 a0_1,.int .i64 a0_2,.int .i64 0,.int .i64 0,.int .i64 0,.int .i64 0,.int .i64 0,.string (⟨#[]⟩ : ByteArray),.string (⟨#[]⟩ : ByteArray),.bool false]) ?_ 3 _ rfl;(with_reducible repeat (first|refine bDn ?_ _|refine bDr ?_|refine bAl ?_ _));refine blk_put (cs:=#[.string a0_0,.int .i64 a0_1,.int .i64 0,.int .i64 0,.int .i64 0,.int .i64 0,.int .i64 0,.int .i64 0,.string (⟨#[]⟩ : ByteArray),.string (⟨#[]⟩ : ByteArray),.bool false]) ?_ 2 _ rfl;(with_reducible repeat (first|refine bDn ?_ _|refine bDr ?_|refine bAl ?_ _));refine blk_put (cs:=#[.string a0_0,.int .i64 0,.int .i64 0,.int .i64 0,.int .i64 0,.int .i64 0,.int .i64 0,.int .i64 0,.string (⟨#[]⟩ : ByteArray),.string (⟨#[]⟩ : ByteArray),.bool false]) ?_ 1 _ rfl;(with_reducible repeat (first|refine bDn ?_ _|refine bDr ?_|refine bAl ?_ _));refine blk_put (cs:=#[.string (⟨#[]⟩ : ByteArray),.int .i64 0,.int .i64 0,.int .i64 0,.int .i64 0,.int .i64 0,.int .i64 0,.int .i64 0,.string (⟨#[]⟩ : ByteArray),.string (⟨#[]⟩ : ByteArray),.bool false]) ?_ 0 _ rfl;(with_reducible repeat (first|refine bDn ?_ _|refine bDr ?_|refine bAl ?_ _));exact BK643.out) Try.underlying34 rfl (by kernel_rfl)) rfl ?_
    exact ⟨_,by first | rfl|(simp [errW_none,errW_some] <;> rfl)|(simp [*,errW_none,errW_some] <;> rfl),by (with_reducible repeat (first|apply Kd.R_alloc|apply Kd.R_drewN|apply Kd.R_drew));exact Kd.R_mono (Kd.R_far (p:=⟨gb643,10,none⟩) (Kd.R_far (p:=⟨gb643,9,none⟩) (Kd.R_far (p:=⟨gb643,8,none⟩) (Kd.R_far (p:=⟨gb643,7,none⟩) (Kd.R_far (p:=⟨gb643,6,none⟩) (Kd.R_far (p:=⟨gb643,5,none⟩) (Kd.R_far (p:=⟨gb643,4,none⟩) (Kd.R_far (p:=⟨gb643,3,none⟩) (Kd.R_far (p:=⟨gb643,2,none⟩) (Kd.R_far (p:=⟨gb643,1,none⟩) (Kd.R_far (p:=⟨gb643,0,none⟩) (Kd.R_types HO671.out BK643.out (by decide)) (fun _ hk => hk.2) (.string a0_0)) (fun _ hk => hk.2) (.int .i64 a0_1)) (fun _ hk => hk.2) (.int .i64 a0_2)) (fun _ hk => hk.2) (.int .i64 a0_3)) (fun _ hk => hk.2) (.int .i64 a0_4)) (fun _ hk => hk.2) (.int .i64 a0_5)) (fun _ hk => hk.2) (.int .i64 a0_6)) (fun _ hk => hk.2) (.int .i64 a0_7)) (fun _ hk => hk.2) (.string a0_8)) (fun _ hk => hk.2) (.string a0_9)) (fun _ hk => hk.2) (.bool a0_10)) (fun _ hk => trivial),by repeat (first|(with_reducible first|exact HB.out|apply bwA|apply bwN|apply bw1|refine below_set ?_ GE642.out|refine below_set ?_ GE643.out)|exact HB.out)⟩
  ·replace c11:=Bool.eq_false_iff.mpr c11
   subst c11
   have H1 : (some ((⟨#[]⟩ : ByteArray),0,0,0,0,0,0,0,(⟨#[]⟩ : ByteArray),(⟨#[]⟩ : ByteArray),false,(([] : List (S53))),1)) = some (r1,r2,r3,r4,r5,r6,r7,r8,r9,r10,r11,r12,r13):=by rw [if_neg (show ¬ (false = true) by decide)] at H;exact H
   clear H
   have H:=H1
   clear H1
   obtain ⟨y648,hy648⟩ : ∃ y_ : List (S53),y_ = (([] : List (S53))):=⟨_,rfl⟩
   replace H : (some ((⟨#[]⟩ : ByteArray),0,0,0,0,0,0,0,(⟨#[]⟩ : ByteArray),(⟨#[]⟩ : ByteArray),false,y648,1)) = some (r1,r2,r3,r4,r5,r6,r7,r8,r9,r10,r11,r12,r13):=by first|(rw [hy648];with_reducible exact H)|(have H2_:=(Option.bind_some _ _).symm.trans H;rw [hy648];with_reducible exact H2_)|(have H2_:=(Option.bind_some _ _).symm.trans H;with_reducible exact H2_) | with_reducible exact H|(rw [hy648];exact H)|exact H
   have Ny648:=aMk hy648
   clear hy648
   simp only [Option.some.injEq,Prod.mk.injEq] at H
   obtain ⟨rfl,rfl,rfl,rfl,rfl,rfl,rfl,rfl,rfl,rfl,rfl,rfl,rfl⟩:=H
   go_enter Try.func43,Try.ntmps43
   go_wp2_with (first|((with_reducible refine gate_dst (N:=2) rfl ?_);refine box_event ?hg (N:=2) ?hd (cs:=#[.string a0_0,.int .i64 a0_1,.int .i64 a0_2,.int .i64 a0_3,.int .i64 a0_4,.int .i64 a0_5,.int .i64 a0_6,.int .i64 a0_7,.string a0_8,.string a0_9,.bool a0_10]) (t:=34) ?hr ?_;(case hd => rfl);(case hg => rfl);(case hr => first|(go_simp;done)|(go_simp;rfl));intro gb642 hg w45 hbox hb;have n0_:=aMk (below_step (by repeat first|exact HB.out|apply bwA|apply bwN|apply bw1) hb);have n1_:=aMk (hbox);have n2_:=aMk ((by rw [hg];exact (below_size (by repeat first|exact HB.out|apply bwA|apply bwN|apply bw1)) : w.heap.size ≤ gb642));have n3_:=aMk ((by rw [hg];exact (below_size (by repeat first|exact HB.out|apply bwA|apply bwN|apply bw1)) : w.heap.size ≤ gb642));clear HB;have HB:=n0_;have BK642:=n1_;have GW642:=n2_;have GE642:=n3_;clear n0_ n1_ n2_ n3_;clear hb hbox hg)|((with_reducible refine gate_dst (N:=4) rfl ?_);refine box_event ?hg (N:=4) ?hd (cs:=#[.string (⟨#[]⟩ : ByteArray),.int .i64 0,.int .i64 0,.int .i64 0,.int .i64 0,.int .i64 0,.int .i64 0,.int .i64 0,.string (⟨#[]⟩ : ByteArray),.string (⟨#[]⟩ : ByteArray),.bool false]) (t:=34) ?hr ?_;(case hd => rfl);(case hg => rfl);(case hr => first|(go_simp;done)|(go_simp;rfl));intro gb643 hg w46 hbox hb;have n0_:=aMk (blk_below (g:=gb642) (o:=.cells #[.string a0_0,.int .i64 a0_1,.int .i64 a0_2,.int .i64 a0_3,.int .i64 a0_4,.int .i64 a0_5,.int .i64 a0_6,.int .i64 a0_7,.string a0_8,.string a0_9,.bool a0_10] 34 (0,0)) (by (with_reducible repeat (first|refine bDn ?_ _|refine bDr ?_|refine bAl ?_ _));exact BK642.out) hb);have n1_:=aMk (below_step (by repeat (first|(with_reducible first|exact HB.out|apply bwA|apply bwN|apply bw1|refine below_set ?_ GE642.out)|exact HB.out)) hb);have n2_:=aMk (hbox);have n3_:=aMk ((by rw [hg];exact (below_size (by repeat (first|(with_reducible first|exact HB.out|apply bwA|apply bwN|apply bw1|refine below_set ?_ GE642.out)|exact HB.out))) : w.heap.size ≤ gb643));have n4_:=aMk ((by rw [hg];exact (below_size (by repeat (first|(with_reducible first|exact HB.out|apply bwA|apply bwN|apply bw1|refine below_set ?_ GE642.out)|exact HB.out))) : w.heap.size ≤ gb643));have n5_:=aMk ((by rw [hg];exact Nat.ne_of_lt (blk_lt (g:=gb642) (o:=.cells #[.string a0_0,.int .i64 a0_1,.int .i64 a0_2,.int .i64 a0_3,.int .i64 a0_4,.int .i64 a0_5,.int .i64 a0_6,.int .i64 a0_7,.string a0_8,.string a0_9,.bool a0_10] 34 (0,0)) (by (with_reducible repeat (first|refine bDn ?_ _|refine bDr ?_|refine bAl ?_ _));exact BK642.out)) : gb642 ≠ gb643));have n6_:=aMk ((by rw [hg];exact Nat.ne_of_gt (blk_lt (g:=gb642) (o:=.cells #[.string a0_0,.int .i64 a0_1,.int .i64 a0_2,.int .i64 a0_3,.int .i64 a0_4,.int .i64 a0_5,.int .i64 a0_6,.int .i64 a0_7,.string a0_8,.string a0_9,.bool a0_10] 34 (0,0)) (by (with_reducible repeat (first|refine bDn ?_ _|refine bDr ?_|refine bAl ?_ _));exact BK642.out)) : gb643 ≠ gb642));clear BK642;clear HB;have BK642:=n0_;have HB:=n1_;have BK643:=n2_;have GW643:=n3_;have GE643:=n4_;have NB642_643:=n5_;have NB643_642:=n6_;clear n0_ n1_ n2_ n3_ n4_ n5_ n6_;clear hb hbox hg;have hnb47:=NB642_643.out;have hnc47:=NB643_642.out;have hcz48_0 : w46.cell? ⟨gb642,0,none⟩ = some (.string a0_0):=(bCe BK642.out 0).trans rfl;have hcz48_1 : w46.cell? ⟨gb642,1,none⟩ = some (.int .i64 a0_1):=(bCe BK642.out 1).trans rfl;have hcz48_2 : w46.cell? ⟨gb642,2,none⟩ = some (.int .i64 a0_2):=(bCe BK642.out 2).trans rfl;have hcz48_3 : w46.cell? ⟨gb642,3,none⟩ = some (.int .i64 a0_3):=(bCe BK642.out 3).trans rfl;have hcz48_4 : w46.cell? ⟨gb642,4,none⟩ = some (.int .i64 a0_4):=(bCe BK642.out 4).trans rfl;have hcz48_5 : w46.cell? ⟨gb642,5,none⟩ = some (.int .i64 a0_5):=(bCe BK642.out 5).trans rfl;have hcz48_6 : w46.cell? ⟨gb642,6,none⟩ = some (.int .i64 a0_6):=(bCe BK642.out 6).trans rfl;have hcz48_7 : w46.cell? ⟨gb642,7,none⟩ = some (.int .i64 a0_7):=(bCe BK642.out 7).trans rfl;have hcz48_8 : w46.cell? ⟨gb642,8,none⟩ = some (.string a0_8):=(bCe BK642.out 8).trans rfl;have hcz48_9 : w46.cell? ⟨gb642,9,none⟩ = some (.string a0_9):=(bCe BK642.out 9).trans rfl;have hcz48_10 : w46.cell? ⟨gb642,10,none⟩ = some (.bool a0_10):=(bCe BK642.out 10).trans rfl;have hfz48_0:=bFr BK642.out 0;have hfz48_1:=bFr BK642.out 1;have hfz48_2:=bFr BK642.out 2;have hfz48_3:=bFr BK642.out 3;have hfz48_4:=bFr BK642.out 4;have hfz48_5:=bFr BK642.out 5;have hfz48_6:=bFr BK642.out 6;have hfz48_7:=bFr BK642.out 7;have hfz48_8:=bFr BK642.out 8;have hfz48_9:=bFr BK642.out 9;have hfz48_10:=bFr BK642.out 10)|((with_reducible refine gate_callee (f:=23) rfl ?_);refine goesL_ (some 15) rfl rfl Try.func23 (by kernel_rfl) rfl #[.agg #[.string a0_0,.int .i64 a0_1,.int .i64 a0_2,.int .i64 a0_3,.int .i64 a0_4,.int .i64 a0_5,.int .i64 a0_6,.int .i64 a0_7,.string a0_8,.string a0_9,.bool a0_10]] rfl (by (try simp only [List.map_toArray,List.map_cons,List.map_nil]);first | done | rfl|(simp only [List.length_drop,List.length_take];rfl)) ?_;(with_reducible refine (spec_ConnOK.calls k a0_0 a0_1 a0_2 a0_3 a0_4 a0_5 a0_6 a0_7 a0_8 a0_9 a0_10 false _ A10.out).mono ?_);rintro e w49 ⟨rfl,hb⟩;refine ⟨_,rfl,?_⟩;have n0_:=aMk (blk_below (g:=gb642) (o:=.cells #[.string a0_0,.int .i64 a0_1,.int .i64 a0_2,.int .i64 a0_3,.int .i64 a0_4,.int .i64 a0_5,.int .i64 a0_6,.int .i64 a0_7,.string a0_8,.string a0_9,.bool a0_10] 34 (0,0)) (by (with_reducible repeat (first|refine bDn ?_ _|refine bDr ?_|refine bAl ?_ _));exact BK642.out) hb);have n1_:=aMk (blk_below (g:=gb643) (o:=.cells #[.string (⟨#[]⟩ : ByteArray),.int .i64 0,.int .i64 0,.int .i64 0,.int .i64 0,.int .i64 0,.int .i64 0,.int .i64 0,.string (⟨#[]⟩ : ByteArray),.string (⟨#[]⟩ : ByteArray),.bool false] 34 (0,0)) (by (with_reducible repeat (first|refine bDn ?_ _|refine bDr ?_|refine bAl ?_ _));exact BK643.out) hb);have n2_:=aMk (below_step (by repeat (first|(with_reducible first|exact HB.out|apply bwA|apply bwN|apply bw1|refine below_set ?_ GE642.out|refine below_set ?_ GE643.out)|exact HB.out)) hb);clear BK642;clear BK643;clear HB;have BK642:=n0_;have BK643:=n1_;have HB:=n2_;clear n0_ n1_ n2_;(try clear hb);(try clear hb2);(try clear hk);(try clear hi))|((with_reducible refine gate_dst (N:=18) rfl ?_);refine Kd.R_lit k53 _ 53 ?hg (N:=18) ?hd (xs:=([] : List (S53))) (inner:=[]) (ok:=fun _ => True) (okp:=fun _ => True) ?hr ?hp (fun _ hk => hk) trivial (Below.refl _ _) (Nat.le_refl _) (by simp) ?_;(case hd => rfl);(case hg => rfl);(case hr => first|(go_simp;done)|(go_simp;rfl));(case hp => exact (Reps.none _ _));intro v649 w50 ho51 hb hg_ hnew_;clear hg_ hnew_;(first|rw [← Ny648.out] at ho51|(simp only [Int.reduceToNat] at ho51;rw [← Ny648.out] at ho51));have n0_:=aMk (Kd.R_lower ho51 (below_size (by repeat (first|(with_reducible first|exact HB.out|apply bwA|apply bwN|apply bw1|refine below_set ?_ GE642.out|refine below_set ?_ GE643.out)|exact HB.out))));have n1_:=aMk (blk_below (g:=gb642) (o:=.cells #[.string a0_0,.int .i64 a0_1,.int .i64 a0_2,.int .i64 a0_3,.int .i64 a0_4,.int .i64 a0_5,.int .i64 a0_6,.int .i64 a0_7,.string a0_8,.string a0_9,.bool a0_10] 34 (0,0)) (by (with_reducible repeat (first|refine bDn ?_ _|refine bDr ?_|refine bAl ?_ _));exact BK642.out) hb);have n2_:=aMk (blk_below (g:=gb643) (o:=.cells #[.string (⟨#[]⟩ : ByteArray),.int .i64 0,.int .i64 0,.int .i64 0,.int .i64 0,.int .i64 0,.int .i64 0,.int .i64 0,.string (⟨#[]⟩ : ByteArray),.string (⟨#[]⟩ : ByteArray),.bool false] 34 (0,0)) (by (with_reducible repeat (first|refine bDn ?_ _|refine bDr ?_|refine bAl ?_ _));exact BK643.out) hb);have n3_:=aMk (below_step (by repeat (first|(with_reducible first|exact HB.out|apply bwA|apply bwN|apply bw1|refine below_set ?_ GE642.out|refine below_set ?_ GE643.out)|exact HB.out)) hb);clear BK642;clear BK643;clear HB;have HO650:=n0_;have BK642:=n1_;have BK643:=n2_;have HB:=n3_;clear n0_ n1_ n2_ n3_;clear hb ho51;have hcz52_0 : w50.cell? ⟨gb643,0,none⟩ = some (.string (⟨#[]⟩ : ByteArray)):=(bCe BK643.out 0).trans rfl;have hcz52_1 : w50.cell? ⟨gb643,1,none⟩ = some (.int .i64 0):=(bCe BK643.out 1).trans rfl;have hcz52_2 : w50.cell? ⟨gb643,2,none⟩ = some (.int .i64 0):=(bCe BK643.out 2).trans rfl;have hcz52_3 : w50.cell? ⟨gb643,3,none⟩ = some (.int .i64 0):=(bCe BK643.out 3).trans rfl;have hcz52_4 : w50.cell? ⟨gb643,4,none⟩ = some (.int .i64 0):=(bCe BK643.out 4).trans rfl;have hcz52_5 : w50.cell? ⟨gb643,5,none⟩ = some (.int .i64 0):=(bCe BK643.out 5).trans rfl;have hcz52_6 : w50.cell? ⟨gb643,6,none⟩ = some (.int .i64 0):=(bCe BK643.out 6).trans rfl;have hcz52_7 : w50.cell? ⟨gb643,7,none⟩ = some (.int .i64 0):=(bCe BK643.out 7).trans rfl;have hcz52_8 : w50.cell? ⟨gb643,8,none⟩ = some (.string (⟨#[]⟩ : ByteArray)):=(bCe BK643.out 8).trans rfl;have hcz52_9 : w50.cell? ⟨gb643,9,none⟩ = some (.string (⟨#[]⟩ : ByteArray)):=(bCe BK643.out 9).trans rfl;have hcz52_10 : w50.cell? ⟨gb643,10,none⟩ = some (.bool false):=(bCe BK643.out 10).trans rfl;have hfz52_0:=bFr BK643.out 0;have hfz52_1:=bFr BK643.out 1;have hfz52_2:=bFr BK643.out 2;have hfz52_3:=bFr BK643.out 3;have hfz52_4:=bFr BK643.out 4;have hfz52_5:=bFr BK643.out 5;have hfz52_6:=bFr BK643.out 6;have hfz52_7:=bFr BK643.out 7;have hfz52_8:=bFr BK643.out 8;have hfz52_9:=bFr BK643.out 9;have hfz52_10:=bFr BK643.out 10))
   refine bodyPost_ret (results_ctt rfl _ _ gb643 34 #[.string (⟨#[]⟩ : ByteArray),.int .i64 0,.int .i64 0,.int .i64 0,.int .i64 0,.int .i64 0,.int .i64 0,.int .i64 0,.string (⟨#[]⟩ : ByteArray),.string (⟨#[]⟩ : ByteArray),.bool false] (0,0) _ rfl (by (with_reducible repeat (first|refine bDn ?_ _|refine bDr ?_|refine bAl ?_ _));refine blk_put (cs:=#[.string (⟨#[]⟩ : ByteArray),.int .i64 0,.int .i64 0,.int .i64 0,.int .i64 0,.int .i64 0,.int .i64 0,.int .i64 0,.string (⟨#[]⟩ : ByteArray),.string (⟨#[]⟩ : ByteArray),.bool false]) ?_ 10 _ rfl;(with_reducible repeat (first|refine bDn ?_ _|refine bDr ?_|refine bAl ?_ _));refine blk_put (cs:=#[.string (⟨#[]⟩ : ByteArray),.int .i64 0,.int .i64 0,.int .i64 0,.int .i64 0,.int .i64 0,.int .i64 0,.int .i64 0,.string (⟨#[]⟩ : ByteArray),.string (⟨#[]⟩ : ByteArray),.bool false]) ?_ 9 _ rfl;(with_reducible repeat (first|refine bDn ?_ _|refine bDr ?_|refine bAl ?_ _));refine blk_put (cs:=#[.string (⟨#[]⟩ : ByteArray),.int .i64 0,.int .i64 0,.int .i64 0,.int .i64 0,.int .i64 0,.int .i64 0,.int .i64 0,.string (⟨#[]⟩ : ByteArray),.string (⟨#[]⟩ : ByteArray),.bool false]) ?_ 8 _ rfl;(with_reducible repeat (first|refine bDn ?_ _|refine bDr ?_|refine bAl ?_ _));refine blk_put (cs:=#[.string (⟨#[]⟩ : ByteArray),.int .i64 0,.int .i64 0,.int .i64 0,.int .i64 0,.int .i64 0,.int .i64 0,.int .i64 0,.string (⟨#[]⟩ : ByteArray),.string (⟨#[]⟩ : ByteArray),.bool false]) ?_ 7 _ rfl;(with_reducible repeat (first|refine bDn ?_ _|refine bDr ?_|refine bAl ?_ _));refine blk_put (cs:=#[.string (⟨#[]⟩ : ByteArray),.int .i64 0,.int .i64 0,.int .i64 0,.int .i64 0,.int .i64 0,.int .i64 0,.int .i64 0,.string (⟨#[]⟩ : ByteArray),.string (⟨#[]⟩ : ByteArray),.bool false]) ?_ 6 _ rfl;(with_reducible repeat (first|refine bDn ?_ _|refine bDr ?_|refine bAl ?_ _));refine blk_put (cs:=#[.string (⟨#[]⟩ : ByteArray),.int .i64 0,.int .i64 0,.int .i64 0,.int .i64 0,.int .i64 0,.int .i64 0,.int .i64 0,.string (⟨#[]⟩ : ByteArray),.string (⟨#[]⟩ : ByteArray),.bool false]) ?_ 5 _ rfl;(with_reducible repeat (first|refine bDn ?_ _|refine bDr ?_|refine bAl ?_ _));refine blk_put (cs:=#[.string (⟨#[]⟩ : ByteArray),.int .i64 0,.int .i64 0,.int .i64 0,.int .i64 0,.int .i64 0,.int .i64 0,.int .i64 0,.string (⟨#[]⟩ : ByteArray),.string (⟨#[]⟩ : ByteArray),.bool false]) ?_ 4 _ rfl;(with_reducible repeat (first|refine bDn ?_ _|refine bDr ?_|refine bAl ?_ _));refine blk_put (cs:=#[.string (⟨#[]⟩ : ByteArray),.int .i64 0,.int .i64 0,.int .i64 0,.int .i64 0,.int .i64 0,.int .i64 0,.int .i64 0,.string (⟨#[]⟩ : ByteArray),.string (⟨#[]⟩ : ByteArray),.bool false]) ?_ 3 _ rfl;(with_reducible repeat (first|refine bDn ?_ _|refine bDr ?_|refine bAl ?_ _));refine blk_put (cs:=#[.string (⟨#[]⟩ : ByteArray),.int .i64 0,.int .i64 0,.int .i64 0,.int .i64 0,.int .i64 0,.int .i64 0,.int .i64 0,.string (⟨#[]⟩ : ByteArray),.string (⟨#[]⟩ : ByteArray),.bool false]) ?_ 2 _ rfl;(with_reducible repeat (first|refine bDn ?_ _|refine bDr ?_|refine bAl ?_ _));refine blk_put (cs:=#[.string (⟨#[]⟩ : ByteArray),.int .i64 0,.int .i64 0,.int .i64 0,.int .i64 0,.int .i64 0,.int .i64 0,.int .i64 0,.string (⟨#[]⟩ : ByteArray),.string (⟨#[]⟩ : ByteArray),.bool false]) ?_ 1 _ rfl;(with_reducible repeat (first|refine bDn ?_ _|refine bDr ?_|refine bAl ?_ _));refine blk_put (cs:=#[.string (⟨#[]⟩ : ByteArray),.int .i64 0,.int .i64 0,.int .i64 0,.int .i64 0,.int .i64 0,.int .i64 0,.int .i64 0,.string (⟨#[]⟩ : ByteArray),.string (⟨#[]⟩ : ByteArray),.bool false]) ?_ 0 _ rfl;(with_reducible repeat (first|refine bDn ?_ _|refine bDr ?_|refine bAl ?_ _));exact BK643.out) Try.underlying34 rfl (by kernel_rfl)) rfl ?_
   exact ⟨_,by first | rfl|(simp [errW_none,errW_some] <;> rfl)|(simp [*,errW_none,errW_some] <;> rfl),by (with_reducible repeat (first|apply Kd.R_alloc|apply Kd.R_drewN|apply Kd.R_drew));exact Kd.R_mono (Kd.R_far (p:=⟨gb643,10,none⟩) (Kd.R_far (p:=⟨gb643,9,none⟩) (Kd.R_far (p:=⟨gb643,8,none⟩) (Kd.R_far (p:=⟨gb643,7,none⟩) (Kd.R_far (p:=⟨gb643,6,none⟩) (Kd.R_far (p:=⟨gb643,5,none⟩) (Kd.R_far (p:=⟨gb643,4,none⟩) (Kd.R_far (p:=⟨gb643,3,none⟩) (Kd.R_far (p:=⟨gb643,2,none⟩) (Kd.R_far (p:=⟨gb643,1,none⟩) (Kd.R_far (p:=⟨gb643,0,none⟩) (Kd.R_types HO650.out BK643.out (by decide)) (fun _ hk => hk.2) (.string (⟨#[]⟩ : ByteArray))) (fun _ hk => hk.2) (.int .i64 0)) (fun _ hk => hk.2) (.int .i64 0)) (fun _ hk => hk.2) (.int .i64 0)) (fun _ hk => hk.2) (.int .i64 0)) (fun _ hk => hk.2) (.int .i64 0)) (fun _ hk => hk.2) (.int .i64 0)) (fun _ hk => hk.2) (.int .i64 0)) (fun _ hk => hk.2) (.string (⟨#[]⟩ : ByteArray))) (fun _ hk => hk.2) (.string (⟨#[]⟩ : ByteArray))) (fun _ hk => hk.2) (.bool false)) (fun _ hk => trivial),by repeat (first|(with_reducible first|exact HB.out|apply bwA|apply bwN|apply bw1|refine below_set ?_ GE642.out|refine below_set ?_ GE643.out)|exact HB.out)⟩
end
section
/-! ### impl_within: function 62 -/
def impl_within.f (a0 : Int) (a1 : Int) (a2 : Int) : Option (Bool):=if a0 ≥ a1 then (some (decide (a0 ≤ a2))) else (some false)
set_option maxHeartbeats 8000000 in
set_option maxRecDepth 100000 in
theorem impl_within.calls (a0 : Int) (a1 : Int) (a2 : Int) (r : Bool) (w : World) (h : impl_within.f a0 a1 a2 = some r) :
  Calls Try.prog 62 #[.int .i64 a0,.int .i64 a1,.int .i64 a2] w fun e w' => e = .returned (.bool r) ∧ Drawn0 w w':=by
 have H : (if a0 ≥ a1 then (some (decide (a0 ≤ a2))) else (some false)) = some r:=h
 clear h
 by_cases c4 : a0 ≥ a1
 ·rw [if_pos c4] at H
  have c4b0 : decide (a1 ≤ a0) = true:=decide_eq_true c4
  clear c4
  obtain rfl:=Option.some.inj H
  go_enter Try.func62,Try.ntmps62
  go_wp2
  go_ret
  exact ⟨by first | rfl|(simp;done)|(simp [*];done)|(simp [ne_nil_b];done)|(simp [ne_nil_b, *];done),by repeat (first|exact Drawn0.refl _|apply Drawn0.step)⟩
 ·rw [if_neg c4] at H
  have c4b0 : decide (a1 ≤ a0) = false:=decide_eq_false c4
  clear c4
  obtain rfl:=Option.some.inj H
  go_enter Try.func62,Try.ntmps62
  go_wp2
  go_ret
  exact ⟨by first | rfl|(simp;done)|(simp [*];done)|(simp [ne_nil_b];done)|(simp [ne_nil_b, *];done),by repeat (first|exact Drawn0.refl _|apply Drawn0.step)⟩
end
section
/-! ### impl_isAddress: function 61 -/
def impl_isAddress.f (a0 : Int) : Option (Bool):=(impl_within.f a0 0 4294967295).bind fun t106 => (some t106)
set_option maxHeartbeats 8000000 in
set_option maxRecDepth 100000 in
theorem impl_isAddress.calls (a0 : Int) (r : Bool) (w : World) (h : impl_isAddress.f a0 = some r) :
  Calls Try.prog 61 #[.int .i64 a0] w fun e w' => e = .returned (.bool r) ∧ Drawn0 w w':=by
 have H : ((impl_within.f a0 0 4294967295).bind fun t106 => (some t106)) = some r:=h
 clear h
 replace H:=Option.bind_eq_some_iff.mp H
 obtain ⟨t106,A20,H⟩:=H
 replace H : (some t106) = some r:=H
 have A2:=aMk A20
 clear A20
 obtain rfl:=Option.some.inj H
 go_enter Try.func61,Try.ntmps61
 go_wp2_with (first|((with_reducible refine gate_callee (f:=62) rfl ?_);refine goesL_ (some 4) rfl rfl Try.func62 (by kernel_rfl) rfl #[.int .i64 a0,.int .i64 0,.int .i64 4294967295] rfl (by (try simp only [List.map_toArray,List.map_cons,List.map_nil]);first | done | rfl|(simp only [List.length_drop,List.length_take];rfl)) ?_;(with_reducible refine (impl_within.calls a0 0 4294967295 t106 _ A2.out).mono ?_);rintro e w' ⟨rfl,⟨nd,rfl⟩⟩;refine ⟨_,rfl,?_⟩))
 go_ret
 exact ⟨by first | rfl|(simp;done)|(simp [*];done)|(simp [ne_nil_b];done)|(simp [ne_nil_b, *];done),by repeat (first|exact Drawn0.refl _|apply Drawn0.step)⟩
end
section
/-! ### impl_behind: function 63 -/
def impl_behind.f (a0 : Int) (a1 : Int) : Option (Int):=some (Int.tmod (wrap64 ((wrap64 (a0 - a1)) + 4294967296)) 4294967296)
set_option maxHeartbeats 8000000 in
set_option maxRecDepth 100000 in
theorem impl_behind.calls (a0 : Int) (a1 : Int) (r : Int) (w : World) (h : impl_behind.f a0 a1 = some r) :
  Calls Try.prog 63 #[.int .i64 a0,.int .i64 a1] w fun e w' => e = .returned (.int .i64 r) ∧ Drawn0 w w':=by
 have H : (some (Int.tmod (wrap64 ((wrap64 (a0 - a1)) + 4294967296)) 4294967296)) = some r:=h
 clear h
 obtain rfl:=Option.some.inj H
 go_enter Try.func63,Try.ntmps63
 go_wp2
 go_ret
 exact ⟨by first | rfl|(simp;done)|(simp [*];done)|(simp [ne_nil_b];done)|(simp [ne_nil_b, *];done),by repeat (first|exact Drawn0.refl _|apply Drawn0.step)⟩
end
section
/-! ### impl_macOK: function 72 -/
def impl_macOK.f (a0 : ByteArray) : Option (Bool):=some ((a0.size : Int) == 6)
set_option maxHeartbeats 8000000 in
set_option maxRecDepth 100000 in
theorem impl_macOK.calls (a0 : ByteArray) (r : Bool) (w : World) (h : impl_macOK.f a0 = some r) :
  Calls Try.prog 72 #[.string a0] w fun e w' => e = .returned (.bool r) ∧ Drawn0 w w':=by
 have H : (some ((a0.size : Int) == 6)) = some r:=h
 clear h
 obtain rfl:=Option.some.inj H
 go_enter Try.func72,Try.ntmps72
 go_wp2
 go_ret
 exact ⟨by first | rfl|(simp;done)|(simp [*];done)|(simp [ne_nil_b];done)|(simp [ne_nil_b, *];done),by repeat (first|exact Drawn0.refl _|apply Drawn0.step)⟩
end
section
/-! ### impl_isPort: function 73 -/
def impl_isPort.f (a0 : Int) : Option (Bool):=(impl_within.f a0 0 65535).bind fun t165 => (some t165)
set_option maxHeartbeats 8000000 in
set_option maxRecDepth 100000 in
theorem impl_isPort.calls (a0 : Int) (r : Bool) (w : World) (h : impl_isPort.f a0 = some r) :
  Calls Try.prog 73 #[.int .i64 a0] w fun e w' => e = .returned (.bool r) ∧ Drawn0 w w':=by
 have H : ((impl_within.f a0 0 65535).bind fun t165 => (some t165)) = some r:=h
 clear h
 replace H:=Option.bind_eq_some_iff.mp H
 obtain ⟨t165,A20,H⟩:=H
 replace H : (some t165) = some r:=H
 have A2:=aMk A20
 clear A20
 obtain rfl:=Option.some.inj H
 go_enter Try.func73,Try.ntmps73
 go_wp2_with (first|((with_reducible refine gate_callee (f:=62) rfl ?_);refine goesL_ (some 4) rfl rfl Try.func62 (by kernel_rfl) rfl #[.int .i64 a0,.int .i64 0,.int .i64 65535] rfl (by (try simp only [List.map_toArray,List.map_cons,List.map_nil]);first | done | rfl|(simp only [List.length_drop,List.length_take];rfl)) ?_;(with_reducible refine (impl_within.calls a0 0 65535 t165 _ A2.out).mono ?_);rintro e w' ⟨rfl,⟨nd,rfl⟩⟩;refine ⟨_,rfl,?_⟩))
 go_ret
 exact ⟨by first | rfl|(simp;done)|(simp [*];done)|(simp [ne_nil_b];done)|(simp [ne_nil_b, *];done),by repeat (first|exact Drawn0.refl _|apply Drawn0.step)⟩
end
section
/-! ### impl_oneIf: function 74 -/
def impl_oneIf.f (a0 : Bool) : Option (Int):=if a0 = true then (some 1) else (some 0)
set_option maxHeartbeats 8000000 in
set_option maxRecDepth 100000 in
theorem impl_oneIf.calls (a0 : Bool) (r : Int) (w : World) (h : impl_oneIf.f a0 = some r) :
  Calls Try.prog 74 #[.bool a0] w fun e w' => e = .returned (.int .i64 r) ∧ Drawn0 w w':=by
 have H : (if a0 = true then (some 1) else (some 0)) = some r:=h
 clear h
 by_cases c2 : a0 = true
 ·subst c2
  have H1 : (some 1) = some r:=by rw [if_pos rfl] at H;exact H
  clear H
  have H:=H1
  clear H1
  obtain rfl:=Option.some.inj H
  go_enter Try.func74,Try.ntmps74
  go_wp2
  go_ret
  exact ⟨by first | rfl|(simp;done)|(simp [*];done)|(simp [ne_nil_b];done)|(simp [ne_nil_b, *];done),by repeat (first|exact Drawn0.refl _|apply Drawn0.step)⟩
 ·replace c2:=Bool.eq_false_iff.mpr c2
  subst c2
  have H1 : (some 0) = some r:=by rw [if_neg (show ¬ (false = true) by decide)] at H;exact H
  clear H
  have H:=H1
  clear H1
  obtain rfl:=Option.some.inj H
  go_enter Try.func74,Try.ntmps74
  go_wp2
  go_ret
  exact ⟨by first | rfl|(simp;done)|(simp [*];done)|(simp [ne_nil_b];done)|(simp [ne_nil_b, *];done),by repeat (first|exact Drawn0.refl _|apply Drawn0.step)⟩
end
section
/-! ### impl_ConnOK: function 25 -/
mutual
def impl_ConnOK.j0 : Nat → Bool → ByteArray → Int → Int → Int → Int → Int → Int → Int → ByteArray → ByteArray → Bool → Option (Bool)
 | 0,_,_,_,_,_,_,_,_,_,_,_,_ => none
 | k + 1,x30,x167000,x167001,x167002,x167003,x167004,x167005,x167006,x167007,x167008,x167009,x167010 => if x30 = true then (some false) else ((impl_isAddress.f x167005).bind fun t172 => (if t172 = true then ((impl_isAddress.f x167006).bind fun t173 => (if t173 = true then ((impl_isAddress.f x167007).bind fun t174 => (if t174 = true then (if (x167008.size : Int) > 300 then (impl_ConnOK.j1 k true x167000 x167001 x167002 x167003 x167004 x167005 x167006 x167007 x167008 x167009 x167010) else (impl_ConnOK.j1 k (decide ((x167009.size : Int) > 300)) x167000 x167001 x167002 x167003 x167004 x167005 x167006 x167007 x167008 x167009 x167010)) else (impl_ConnOK.j1 k true x167000 x167001 x167002 x167003 x167004 x167005 x167006 x167007 x167008 x167009 x167010))) else (impl_ConnOK.j1 k true x167000 x167001 x167002 x167003 x167004 x167005 x167006 x167007 x167008 x167009 x167010))) else (impl_ConnOK.j1 k true x167000 x167001 x167002 x167003 x167004 x167005 x167006 x167007 x167008 x167009 x167010)))
def impl_ConnOK.j1 : Nat → Bool → ByteArray → Int → Int → Int → Int → Int → Int → Int → ByteArray → ByteArray → Bool → Option (Bool)
 | 0,_,_,_,_,_,_,_,_,_,_,_,_ => none
 | k + 1,x58,x167000,x167001,x167002,x167003,x167004,x167005,x167006,x167007,x167008,x167009,x167010 => if x58 = true then (some false) else (if (x167010 != (x167004 == 3)) = true then (impl_ConnOK.j2 k true x167000 x167001 x167002 x167003 x167004 x167005 x167006 x167007 x167008 x167009 x167010) else (if x167010 = true then (if x167004 = 1 then (impl_ConnOK.j2 k (x167008.toList != ([] : List UInt8)) x167000 x167001 x167002 x167003 x167004 x167005 x167006 x167007 x167008 x167009 x167010) else (impl_ConnOK.j2 k false x167000 x167001 x167002 x167003 x167004 x167005 x167006 x167007 x167008 x167009 x167010)) else (if x167009.toList = ([] : List UInt8) then (if x167004 = 1 then (impl_ConnOK.j2 k (x167008.toList != ([] : List UInt8)) x167000 x167001 x167002 x167003 x167004 x167005 x167006 x167007 x167008 x167009 x167010) else (impl_ConnOK.j2 k false x167000 x167001 x167002 x167003 x167004 x167005 x167006 x167007 x167008 x167009 x167010)) else (impl_ConnOK.j2 k true x167000 x167001 x167002 x167003 x167004 x167005 x167006 x167007 x167008 x167009 x167010))))
def impl_ConnOK.j2 : Nat → Bool → ByteArray → Int → Int → Int → Int → Int → Int → Int → ByteArray → ByteArray → Bool → Option (Bool)
 | 0,_,_,_,_,_,_,_,_,_,_,_,_ => none
 | k + 1,x84,x167000,x167001,x167002,x167003,x167004,x167005,x167006,x167007,x167008,x167009,x167010 => if x84 = true then (some false) else ((impl_behind.f x167006 x167005).bind fun t175 => ((impl_oneIf.f x167010).bind fun t176 => ((impl_oneIf.f (x167004 == 1)).bind fun t177 => (some (t175 == (wrap64 ((wrap64 ((x167009.size : Int) + t176)) + t177)))))))
end
def impl_ConnOK.f (k : Nat) (a0_0 : ByteArray) (a0_1 : Int) (a0_2 : Int) (a0_3 : Int) (a0_4 : Int) (a0_5 : Int) (a0_6 : Int) (a0_7 : Int) (a0_8 : ByteArray) (a0_9 : ByteArray) (a0_10 : Bool) : Option (Bool):=(impl_macOK.f a0_0).bind fun t167 => (if t167 = true then ((impl_isAddress.f a0_1).bind fun t168 => (if t168 = true then ((impl_isPort.f a0_2).bind fun t169 => (if t169 = true then ((impl_isAddress.f a0_3).bind fun t170 => (if t170 = true then ((impl_within.f a0_4 1 4).bind fun t171 => (impl_ConnOK.j0 k (!t171) a0_0 a0_1 a0_2 a0_3 a0_4 a0_5 a0_6 a0_7 a0_8 a0_9 a0_10)) else (impl_ConnOK.j0 k true a0_0 a0_1 a0_2 a0_3 a0_4 a0_5 a0_6 a0_7 a0_8 a0_9 a0_10))) else (impl_ConnOK.j0 k true a0_0 a0_1 a0_2 a0_3 a0_4 a0_5 a0_6 a0_7 a0_8 a0_9 a0_10))) else (impl_ConnOK.j0 k true a0_0 a0_1 a0_2 a0_3 a0_4 a0_5 a0_6 a0_7 a0_8 a0_9 a0_10))) else (impl_ConnOK.j0 k true a0_0 a0_1 a0_2 a0_3 a0_4 a0_5 a0_6 a0_7 a0_8 a0_9 a0_10))
theorem impl_ConnOK.mono_l : ∀ k,(∀ y0 y1 y2 y3 y4 y5 y6 y7 y8 y9 y10 y11,LeO (impl_ConnOK.j0 k y0 y1 y2 y3 y4 y5 y6 y7 y8 y9 y10 y11) (impl_ConnOK.j0 (k + 1) y0 y1 y2 y3 y4 y5 y6 y7 y8 y9 y10 y11)) ∧ (∀ y0 y1 y2 y3 y4 y5 y6 y7 y8 y9 y10 y11,LeO (impl_ConnOK.j1 k y0 y1 y2 y3 y4 y5 y6 y7 y8 y9 y10 y11) (impl_ConnOK.j1 (k + 1) y0 y1 y2 y3 y4 y5 y6 y7 y8 y9 y10 y11)) ∧ (∀ y0 y1 y2 y3 y4 y5 y6 y7 y8 y9 y10 y11,LeO (impl_ConnOK.j2 k y0 y1 y2 y3 y4 y5 y6 y7 y8 y9 y10 y11) (impl_ConnOK.j2 (k + 1) y0 y1 y2 y3 y4 y5 y6 y7 y8 y9 y10 y11))
 | 0 => ⟨fun _ _ _ _ _ _ _ _ _ _ _ _ r h => by simp [impl_ConnOK.j0] at h,fun _ _ _ _ _ _ _ _ _ _ _ _ r h => by simp [impl_ConnOK.j1] at h,fun _ _ _ _ _ _ _ _ _ _ _ _ r h => by simp [impl_ConnOK.j2] at h⟩
 | k + 1 => by
  obtain ⟨ih0,ih1,ih2⟩:=impl_ConnOK.mono_l k
  refine ⟨?_,?_,?_⟩
  ·intro y0 y1 y2 y3 y4 y5 y6 y7 y8 y9 y10 y11
   unfold impl_ConnOK.j0
   repeat' first
   | (with_reducible exact ih0 _ _ _ _ _ _ _ _ _ _ _ _)
   | (with_reducible exact ih1 _ _ _ _ _ _ _ _ _ _ _ _)
   | (with_reducible exact ih2 _ _ _ _ _ _ _ _ _ _ _ _)
   | (with_reducible exact LeO.refl _)
   | (with_reducible exact LeO.none _)
   | (with_reducible refine LeO.ite ?_ ?_)
   | (with_reducible refine LeO.bind ?_ (fun _ => ?_))
   | exact ih0 _ _ _ _ _ _ _ _ _ _ _ _
   | exact ih1 _ _ _ _ _ _ _ _ _ _ _ _
   | exact ih2 _ _ _ _ _ _ _ _ _ _ _ _
   | exact LeO.none _
   | refine LeO.ite ?_ ?_
   | refine LeO.bind ?_ (fun _ => ?_)
  ·intro y0 y1 y2 y3 y4 y5 y6 y7 y8 y9 y10 y11
   unfold impl_ConnOK.j1
   repeat' first
   | (with_reducible exact ih0 _ _ _ _ _ _ _ _ _ _ _ _)
   | (with_reducible exact ih1 _ _ _ _ _ _ _ _ _ _ _ _)
   | (with_reducible exact ih2 _ _ _ _ _ _ _ _ _ _ _ _)
   | (with_reducible exact LeO.refl _)
   | (with_reducible exact LeO.none _)
   | (with_reducible refine LeO.ite ?_ ?_)
   | (with_reducible refine LeO.bind ?_ (fun _ => ?_))
   | exact ih0 _ _ _ _ _ _ _ _ _ _ _ _
   | exact ih1 _ _ _ _ _ _ _ _ _ _ _ _
   | exact ih2 _ _ _ _ _ _ _ _ _ _ _ _
   | exact LeO.none _
   | refine LeO.ite ?_ ?_
   | refine LeO.bind ?_ (fun _ => ?_)
  ·intro y0 y1 y2 y3 y4 y5 y6 y7 y8 y9 y10 y11
   unfold impl_ConnOK.j2
   repeat' first
   | (with_reducible exact ih0 _ _ _ _ _ _ _ _ _ _ _ _)
   | (with_reducible exact ih1 _ _ _ _ _ _ _ _ _ _ _ _)
   | (with_reducible exact ih2 _ _ _ _ _ _ _ _ _ _ _ _)
   | (with_reducible exact LeO.refl _)
   | (with_reducible exact LeO.none _)
   | (with_reducible refine LeO.ite ?_ ?_)
   | (with_reducible refine LeO.bind ?_ (fun _ => ?_))
   | exact ih0 _ _ _ _ _ _ _ _ _ _ _ _
   | exact ih1 _ _ _ _ _ _ _ _ _ _ _ _
   | exact ih2 _ _ _ _ _ _ _ _ _ _ _ _
   | exact LeO.none _
   | refine LeO.ite ?_ ?_
   | refine LeO.bind ?_ (fun _ => ?_)
theorem impl_ConnOK.mono : ∀ a0 a1 a2 a3 a4 a5 a6 a7 a8 a9 a10 k,LeO (impl_ConnOK.f k a0 a1 a2 a3 a4 a5 a6 a7 a8 a9 a10) (impl_ConnOK.f (k + 1) a0 a1 a2 a3 a4 a5 a6 a7 a8 a9 a10):=by
 intro a0 a1 a2 a3 a4 a5 a6 a7 a8 a9 a10 k
 obtain ⟨ih0,ih1,ih2⟩:=impl_ConnOK.mono_l k
 unfold impl_ConnOK.f
 repeat' first
   | (with_reducible exact ih0 _ _ _ _ _ _ _ _ _ _ _ _)
   | (with_reducible exact ih1 _ _ _ _ _ _ _ _ _ _ _ _)
   | (with_reducible exact ih2 _ _ _ _ _ _ _ _ _ _ _ _)
   | (with_reducible exact LeO.refl _)
   | (with_reducible exact LeO.none _)
   | (with_reducible refine LeO.ite ?_ ?_)
   | (with_reducible refine LeO.bind ?_ (fun _ => ?_))
   | exact ih0 _ _ _ _ _ _ _ _ _ _ _ _
   | exact ih1 _ _ _ _ _ _ _ _ _ _ _ _
   | exact ih2 _ _ _ _ _ _ _ _ _ _ _ _
   | exact LeO.none _
   | refine LeO.ite ?_ ?_
   | refine LeO.bind ?_ (fun _ => ?_)
set_option maxHeartbeats 8000000 in
set_option maxRecDepth 100000 in
theorem impl_ConnOK.calls (k : Nat) (a0_0 : ByteArray) (a0_1 : Int) (a0_2 : Int) (a0_3 : Int) (a0_4 : Int) (a0_5 : Int) (a0_6 : Int) (a0_7 : Int) (a0_8 : ByteArray) (a0_9 : ByteArray) (a0_10 : Bool) (r : Bool) (w : World) (h : impl_ConnOK.f k a0_0 a0_1 a0_2 a0_3 a0_4 a0_5 a0_6 a0_7 a0_8 a0_9 a0_10 = some r) :
  Calls Try.prog 25 #[.agg #[.string a0_0,.int .i64 a0_1,.int .i64 a0_2,.int .i64 a0_3,.int .i64 a0_4,.int .i64 a0_5,.int .i64 a0_6,.int .i64 a0_7,.string a0_8,.string a0_9,.bool a0_10]] w fun e w' => e = .returned (.bool r) ∧ Below w.heap.size w w':=by
 have hu34:=Try.underlying34
 have HB:=aMk (Below.refl w.heap.size w)
 have H : ((impl_macOK.f a0_0).bind fun t167 => (if t167 = true then ((impl_isAddress.f a0_1).bind fun t168 => (if t168 = true then ((impl_isPort.f a0_2).bind fun t169 => (if t169 = true then ((impl_isAddress.f a0_3).bind fun t170 => (if t170 = true then ((impl_within.f a0_4 1 4).bind fun t171 => (impl_ConnOK.j0 k (!t171) a0_0 a0_1 a0_2 a0_3 a0_4 a0_5 a0_6 a0_7 a0_8 a0_9 a0_10)) else (impl_ConnOK.j0 k true a0_0 a0_1 a0_2 a0_3 a0_4 a0_5 a0_6 a0_7 a0_8 a0_9 a0_10))) else (impl_ConnOK.j0 k true a0_0 a0_1 a0_2 a0_3 a0_4 a0_5 a0_6 a0_7 a0_8 a0_9 a0_10))) else (impl_ConnOK.j0 k true a0_0 a0_1 a0_2 a0_3 a0_4 a0_5 a0_6 a0_7 a0_8 a0_9 a0_10))) else (impl_ConnOK.j0 k true a0_0 a0_1 a0_2 a0_3 a0_4 a0_5 a0_6 a0_7 a0_8 a0_9 a0_10))) = some r:=h
 clear h
 have HC2:=aMk H
 clear H
 go_enter Try.func25,Try.ntmps25
 go_upto_region 1 with (first|((with_reducible refine gate_dst (N:=1) rfl ?_);(try (refine gate_guard (by rfl) ?_;dsimp only));refine box_event ?hg (N:=1) ?hd (cs:=#[.string a0_0,.int .i64 a0_1,.int .i64 a0_2,.int .i64 a0_3,.int .i64 a0_4,.int .i64 a0_5,.int .i64 a0_6,.int .i64 a0_7,.string a0_8,.string a0_9,.bool a0_10]) (t:=34) ?hr ?_;(case hd => rfl);(case hg => rfl);(case hr => first|(go_simp;done)|(go_simp;rfl));intro gb166 hg w3 hbox hb;have n0_:=aMk (below_step (by repeat first|exact HB.out|apply bwA|apply bwN|apply bw1) hb);have n1_:=aMk (hbox);have n2_:=aMk ((by rw [hg];exact (below_size (by repeat first|exact HB.out|apply bwA|apply bwN|apply bw1)) : w.heap.size ≤ gb166));have n3_:=aMk ((by rw [hg];exact (below_size (by repeat first|exact HB.out|apply bwA|apply bwN|apply bw1)) : w.heap.size ≤ gb166));clear HB;have HB:=n0_;have BK166:=n1_;have GW166:=n2_;have GE166:=n3_;clear n0_ n1_ n2_ n3_;clear hb hbox hg))
 repeat (go_quiet (first|((with_reducible refine gate_dst (N:=1) rfl ?_);(try (refine gate_guard (by rfl) ?_;dsimp only));refine box_event ?hg (N:=1) ?hd (cs:=#[.string a0_0,.int .i64 a0_1,.int .i64 a0_2,.int .i64 a0_3,.int .i64 a0_4,.int .i64 a0_5,.int .i64 a0_6,.int .i64 a0_7,.string a0_8,.string a0_9,.bool a0_10]) (t:=34) ?hr ?_;(case hd => rfl);(case hg => rfl);(case hr => first|(go_simp;done)|(go_simp;rfl));intro gb166 hg w3 hbox hb;have n0_:=aMk (below_step (by repeat first|exact HB.out|apply bwA|apply bwN|apply bw1) hb);have n1_:=aMk (hbox);have n2_:=aMk ((by rw [hg];exact (below_size (by repeat first|exact HB.out|apply bwA|apply bwN|apply bw1)) : w.heap.size ≤ gb166));have n3_:=aMk ((by rw [hg];exact (below_size (by repeat first|exact HB.out|apply bwA|apply bwN|apply bw1)) : w.heap.size ≤ gb166));clear HB;have HB:=n0_;have BK166:=n1_;have GW166:=n2_;have GE166:=n3_;clear n0_ n1_ n2_ n3_;clear hb hbox hg));go_upto_region 1 with (first|((with_reducible refine gate_dst (N:=1) rfl ?_);(try (refine gate_guard (by rfl) ?_;dsimp only));refine box_event ?hg (N:=1) ?hd (cs:=#[.string a0_0,.int .i64 a0_1,.int .i64 a0_2,.int .i64 a0_3,.int .i64 a0_4,.int .i64 a0_5,.int .i64 a0_6,.int .i64 a0_7,.string a0_8,.string a0_9,.bool a0_10]) (t:=34) ?hr ?_;(case hd => rfl);(case hg => rfl);(case hr => first|(go_simp;done)|(go_simp;rfl));intro gb166 hg w3 hbox hb;have n0_:=aMk (below_step (by repeat first|exact HB.out|apply bwA|apply bwN|apply bw1) hb);have n1_:=aMk (hbox);have n2_:=aMk ((by rw [hg];exact (below_size (by repeat first|exact HB.out|apply bwA|apply bwN|apply bw1)) : w.heap.size ≤ gb166));have n3_:=aMk ((by rw [hg];exact (below_size (by repeat first|exact HB.out|apply bwA|apply bwN|apply bw1)) : w.heap.size ≤ gb166));clear HB;have HB:=n0_;have BK166:=n1_;have GW166:=n2_;have GE166:=n3_;clear n0_ n1_ n2_ n3_;clear hb hbox hg)))
 (try simp only [Act.put,List.setIfInBounds_toArray,List.set_cons_zero,List.set_cons_succ])
 go_cut [30] (fun v30 wc => ∃ (kq : Nat) (x30_1 : Bool),v30 = .bool x30_1 ∧ Aside0 (impl_ConnOK.j0 kq x30_1 a0_0 a0_1 a0_2 a0_3 a0_4 a0_5 a0_6 a0_7 a0_8 a0_9 a0_10 = some r) ∧ Aside0 (kq ≤ k) ∧ Aside0 (wc.heap[gb166]? = some (.cells #[.string a0_0,.int .i64 a0_1,.int .i64 a0_2,.int .i64 a0_3,.int .i64 a0_4,.int .i64 a0_5,.int .i64 a0_6,.int .i64 a0_7,.string a0_8,.string a0_9,.bool a0_10] 34 (0,0))) ∧ Aside0 (Below w.heap.size w wc))
 case first =>
  have H:=HC2.out
  clear HC2
  replace H:=Option.bind_eq_some_iff.mp H
  obtain ⟨t167,A40,H⟩:=H
  replace H : (if t167 = true then ((impl_isAddress.f a0_1).bind fun t168 => (if t168 = true then ((impl_isPort.f a0_2).bind fun t169 => (if t169 = true then ((impl_isAddress.f a0_3).bind fun t170 => (if t170 = true then ((impl_within.f a0_4 1 4).bind fun t171 => (impl_ConnOK.j0 k (!t171) a0_0 a0_1 a0_2 a0_3 a0_4 a0_5 a0_6 a0_7 a0_8 a0_9 a0_10)) else (impl_ConnOK.j0 k true a0_0 a0_1 a0_2 a0_3 a0_4 a0_5 a0_6 a0_7 a0_8 a0_9 a0_10))) else (impl_ConnOK.j0 k true a0_0 a0_1 a0_2 a0_3 a0_4 a0_5 a0_6 a0_7 a0_8 a0_9 a0_10))) else (impl_ConnOK.j0 k true a0_0 a0_1 a0_2 a0_3 a0_4 a0_5 a0_6 a0_7 a0_8 a0_9 a0_10))) else (impl_ConnOK.j0 k true a0_0 a0_1 a0_2 a0_3 a0_4 a0_5 a0_6 a0_7 a0_8 a0_9 a0_10)) = some r:=H
  have A4:=aMk A40
  clear A40
  by_cases c5 : t167 = true
  ·subst c5
   have H1 : ((impl_isAddress.f a0_1).bind fun t168 => (if t168 = true then ((impl_isPort.f a0_2).bind fun t169 => (if t169 = true then ((impl_isAddress.f a0_3).bind fun t170 => (if t170 = true then ((impl_within.f a0_4 1 4).bind fun t171 => (impl_ConnOK.j0 k (!t171) a0_0 a0_1 a0_2 a0_3 a0_4 a0_5 a0_6 a0_7 a0_8 a0_9 a0_10)) else (impl_ConnOK.j0 k true a0_0 a0_1 a0_2 a0_3 a0_4 a0_5 a0_6 a0_7 a0_8 a0_9 a0_10))) else (impl_ConnOK.j0 k true a0_0 a0_1 a0_2 a0_3 a0_4 a0_5 a0_6 a0_7 a0_8 a0_9 a0_10))) else (impl_ConnOK.j0 k true a0_0 a0_1 a0_2 a0_3 a0_4 a0_5 a0_6 a0_7 a0_8 a0_9 a0_10))) = some r:=by rw [if_pos rfl] at H;exact H
   clear H
   have H:=H1
   clear H1
   replace H:=Option.bind_eq_some_iff.mp H
   obtain ⟨t168,A60,H⟩:=H
   replace H : (if t168 = true then ((impl_isPort.f a0_2).bind fun t169 => (if t169 = true then ((impl_isAddress.f a0_3).bind fun t170 => (if t170 = true then ((impl_within.f a0_4 1 4).bind fun t171 => (impl_ConnOK.j0 k (!t171) a0_0 a0_1 a0_2 a0_3 a0_4 a0_5 a0_6 a0_7 a0_8 a0_9 a0_10)) else (impl_ConnOK.j0 k true a0_0 a0_1 a0_2 a0_3 a0_4 a0_5 a0_6 a0_7 a0_8 a0_9 a0_10))) else (impl_ConnOK.j0 k true a0_0 a0_1 a0_2 a0_3 a0_4 a0_5 a0_6 a0_7 a0_8 a0_9 a0_10))) else (impl_ConnOK.j0 k true a0_0 a0_1 a0_2 a0_3 a0_4 a0_5 a0_6 a0_7 a0_8 a0_9 a0_10)) = some r:=H
   have A6:=aMk A60
   clear A60
   by_cases c7 : t168 = true
   ·subst c7
    have H1 : ((impl_isPort.f a0_2).bind fun t169 => (if t169 = true then ((impl_isAddress.f a0_3).bind fun t170 => (if t170 = true then ((impl_within.f a0_4 1 4).bind fun t171 => (impl_ConnOK.j0 k (!t171) a0_0 a0_1 a0_2 a0_3 a0_4 a0_5 a0_6 a0_7 a0_8 a0_9 a0_10)) else (impl_ConnOK.j0 k true a0_0 a0_1 a0_2 a0_3 a0_4 a0_5 a0_6 a0_7 a0_8 a0_9 a0_10))) else (impl_ConnOK.j0 k true a0_0 a0_1 a0_2 a0_3 a0_4 a0_5 a0_6 a0_7 a0_8 a0_9 a0_10))) = some r:=by rw [if_pos rfl] at H;exact H
    clear H
    have H:=H1
    clear H1
    replace H:=Option.bind_eq_some_iff.mp H
    obtain ⟨t169,A80,H⟩:=H
    replace H : (if t169 = true then ((impl_isAddress.f a0_3).bind fun t170 => (if t170 = true then ((impl_within.f a0_4 1 4).bind fun t171 => (impl_ConnOK.j0 k (!t171) a0_0 a0_1 a0_2 a0_3 a0_4 a0_5 a0_6 a0_7 a0_8 a0_9 a0_10)) else (impl_ConnOK.j0 k true a0_0 a0_1 a0_2 a0_3 a0_4 a0_5 a0_6 a0_7 a0_8 a0_9 a0_10))) else (impl_ConnOK.j0 k true a0_0 a0_1 a0_2 a0_3 a0_4 a0_5 a0_6 a0_7 a0_8 a0_9 a0_10)) = some r:=H
    have A8:=aMk A80
    clear A80
    by_cases c9 : t169 = true
    ·subst c9
     have H1 : ((impl_isAddress.f a0_3).bind fun t170 => (if t170 = true then ((impl_within.f a0_4 1 4).bind fun t171 => (impl_ConnOK.j0 k (!t171) a0_0 a0_1 a0_2 a0_3 a0_4 a0_5 a0_6 a0_7 a0_8 a0_9 a0_10)) else (impl_ConnOK.j0 k true a0_0 a0_1 a0_2 a0_3 a0_4 a0_5 a0_6 a0_7 a0_8 a0_9 a0_10))) = some r:=by rw [if_pos rfl] at H;exact H
     clear H
     have H:=H1
     clear H1
     replace H:=Option.bind_eq_some_iff.mp H
     obtain ⟨t170,A100,H⟩:=H
     replace H : (if t170 = true then ((impl_within.f a0_4 1 4).bind fun t171 => (impl_ConnOK.j0 k (!t171) a0_0 a0_1 a0_2 a0_3 a0_4 a0_5 a0_6 a0_7 a0_8 a0_9 a0_10)) else (impl_ConnOK.j0 k true a0_0 a0_1 a0_2 a0_3 a0_4 a0_5 a0_6 a0_7 a0_8 a0_9 a0_10)) = some r:=H
     have A10:=aMk A100
     clear A100
     by_cases c11 : t170 = true
     ·subst c11
      have H1 : ((impl_within.f a0_4 1 4).bind fun t171 => (impl_ConnOK.j0 k (!t171) a0_0 a0_1 a0_2 a0_3 a0_4 a0_5 a0_6 a0_7 a0_8 a0_9 a0_10)) = some r:=by rw [if_pos rfl] at H;exact H
      clear H
      have H:=H1
      clear H1
      replace H:=Option.bind_eq_some_iff.mp H
      obtain ⟨t171,A120,H⟩:=H
      replace H : (impl_ConnOK.j0 k (!t171) a0_0 a0_1 a0_2 a0_3 a0_4 a0_5 a0_6 a0_7 a0_8 a0_9 a0_10) = some r:=H
      have A12:=aMk A120
      clear A120
      have H':=aMk H
      clear H
      have hcz13_0 : w3.cell? ⟨gb166,0,none⟩ = some (.string a0_0):=(bCe BK166.out 0).trans rfl
      have hcz13_1 : w3.cell? ⟨gb166,1,none⟩ = some (.int .i64 a0_1):=(bCe BK166.out 1).trans rfl
      have hcz13_2 : w3.cell? ⟨gb166,2,none⟩ = some (.int .i64 a0_2):=(bCe BK166.out 2).trans rfl
      have hcz13_3 : w3.cell? ⟨gb166,3,none⟩ = some (.int .i64 a0_3):=(bCe BK166.out 3).trans rfl
      have hcz13_4 : w3.cell? ⟨gb166,4,none⟩ = some (.int .i64 a0_4):=(bCe BK166.out 4).trans rfl
      have hcz13_5 : w3.cell? ⟨gb166,5,none⟩ = some (.int .i64 a0_5):=(bCe BK166.out 5).trans rfl
      have hcz13_6 : w3.cell? ⟨gb166,6,none⟩ = some (.int .i64 a0_6):=(bCe BK166.out 6).trans rfl
      have hcz13_7 : w3.cell? ⟨gb166,7,none⟩ = some (.int .i64 a0_7):=(bCe BK166.out 7).trans rfl
      have hcz13_8 : w3.cell? ⟨gb166,8,none⟩ = some (.string a0_8):=(bCe BK166.out 8).trans rfl
      have hcz13_9 : w3.cell? ⟨gb166,9,none⟩ = some (.string a0_9):=(bCe BK166.out 9).trans rfl
      have hcz13_10 : w3.cell? ⟨gb166,10,none⟩ = some (.bool a0_10):=(bCe BK166.out 10).trans rfl
      have hfz13_0:=bFr BK166.out 0
      have hfz13_1:=bFr BK166.out 1
      have hfz13_2:=bFr BK166.out 2
      have hfz13_3:=bFr BK166.out 3
      have hfz13_4:=bFr BK166.out 4
      have hfz13_5:=bFr BK166.out 5
      have hfz13_6:=bFr BK166.out 6
      have hfz13_7:=bFr BK166.out 7
      have hfz13_8:=bFr BK166.out 8
      have hfz13_9:=bFr BK166.out 9
      have hfz13_10:=bFr BK166.out 10
      go_wp2_with (first|(go_at_call 72;(with_reducible refine (impl_macOK.calls a0_0 true _ A4.out).mono ?_);rintro e w' ⟨rfl,⟨nd,rfl⟩⟩;(try first|exact ⟨rfl,_,World.drewN_drewN _ _ _⟩|exact ⟨rfl,_,Eq.trans (World.drewN_drewN _ _ _) (congrArg (World.drewN _) (Nat.add_assoc _ _ _))⟩))|(go_at_call 61;(with_reducible refine (impl_isAddress.calls a0_1 true _ A6.out).mono ?_);rintro e w' ⟨rfl,⟨nd,rfl⟩⟩;(try first|exact ⟨rfl,_,World.drewN_drewN _ _ _⟩|exact ⟨rfl,_,Eq.trans (World.drewN_drewN _ _ _) (congrArg (World.drewN _) (Nat.add_assoc _ _ _))⟩))|(go_at_call 73;(with_reducible refine (impl_isPort.calls a0_2 true _ A8.out).mono ?_);rintro e w' ⟨rfl,⟨nd,rfl⟩⟩;(try first|exact ⟨rfl,_,World.drewN_drewN _ _ _⟩|exact ⟨rfl,_,Eq.trans (World.drewN_drewN _ _ _) (congrArg (World.drewN _) (Nat.add_assoc _ _ _))⟩))|(go_at_call 61;(with_reducible refine (impl_isAddress.calls a0_3 true _ A10.out).mono ?_);rintro e w' ⟨rfl,⟨nd,rfl⟩⟩;(try first|exact ⟨rfl,_,World.drewN_drewN _ _ _⟩|exact ⟨rfl,_,Eq.trans (World.drewN_drewN _ _ _) (congrArg (World.drewN _) (Nat.add_assoc _ _ _))⟩))|(go_at_call 62;(with_reducible refine (impl_within.calls a0_4 1 4 t171 _ A12.out).mono ?_);rintro e w' ⟨rfl,⟨nd,rfl⟩⟩;(try first|exact ⟨rfl,_,World.drewN_drewN _ _ _⟩|exact ⟨rfl,_,Eq.trans (World.drewN_drewN _ _ _) (congrArg (World.drewN _) (Nat.add_assoc _ _ _))⟩)))
      repeat (go_quiet (first|(go_at_call 72;(with_reducible refine (impl_macOK.calls a0_0 true _ A4.out).mono ?_);rintro e w' ⟨rfl,⟨nd,rfl⟩⟩;(try first|exact ⟨rfl,_,World.drewN_drewN _ _ _⟩|exact ⟨rfl,_,Eq.trans (World.drewN_drewN _ _ _) (congrArg (World.drewN _) (Nat.add_assoc _ _ _))⟩))|(go_at_call 61;(with_reducible refine (impl_isAddress.calls a0_1 true _ A6.out).mono ?_);rintro e w' ⟨rfl,⟨nd,rfl⟩⟩;(try first|exact ⟨rfl,_,World.drewN_drewN _ _ _⟩|exact ⟨rfl,_,Eq.trans (World.drewN_drewN _ _ _) (congrArg (World.drewN _) (Nat.add_assoc _ _ _))⟩))|(go_at_call 73;(with_reducible refine (impl_isPort.calls a0_2 true _ A8.out).mono ?_);rintro e w' ⟨rfl,⟨nd,rfl⟩⟩;(try first|exact ⟨rfl,_,World.drewN_drewN _ _ _⟩|exact ⟨rfl,_,Eq.trans (World.drewN_drewN _ _ _) (congrArg (World.drewN _) (Nat.add_assoc _ _ _))⟩))|(go_at_call 61;(with_reducible refine (impl_isAddress.calls a0_3 true _ A10.out).mono ?_);rintro e w' ⟨rfl,⟨nd,rfl⟩⟩;(try first|exact ⟨rfl,_,World.drewN_drewN _ _ _⟩|exact ⟨rfl,_,Eq.trans (World.drewN_drewN _ _ _) (congrArg (World.drewN _) (Nat.add_assoc _ _ _))⟩))|(go_at_call 62;(with_reducible refine (impl_within.calls a0_4 1 4 t171 _ A12.out).mono ?_);rintro e w' ⟨rfl,⟨nd,rfl⟩⟩;(try first|exact ⟨rfl,_,World.drewN_drewN _ _ _⟩|exact ⟨rfl,_,Eq.trans (World.drewN_drewN _ _ _) (congrArg (World.drewN _) (Nat.add_assoc _ _ _))⟩)));try go_wp2_with (first|(go_at_call 72;(with_reducible refine (impl_macOK.calls a0_0 true _ A4.out).mono ?_);rintro e w' ⟨rfl,⟨nd,rfl⟩⟩;(try first|exact ⟨rfl,_,World.drewN_drewN _ _ _⟩|exact ⟨rfl,_,Eq.trans (World.drewN_drewN _ _ _) (congrArg (World.drewN _) (Nat.add_assoc _ _ _))⟩))|(go_at_call 61;(with_reducible refine (impl_isAddress.calls a0_1 true _ A6.out).mono ?_);rintro e w' ⟨rfl,⟨nd,rfl⟩⟩;(try first|exact ⟨rfl,_,World.drewN_drewN _ _ _⟩|exact ⟨rfl,_,Eq.trans (World.drewN_drewN _ _ _) (congrArg (World.drewN _) (Nat.add_assoc _ _ _))⟩))|(go_at_call 73;(with_reducible refine (impl_isPort.calls a0_2 true _ A8.out).mono ?_);rintro e w' ⟨rfl,⟨nd,rfl⟩⟩;(try first|exact ⟨rfl,_,World.drewN_drewN _ _ _⟩|exact ⟨rfl,_,Eq.trans (World.drewN_drewN _ _ _) (congrArg (World.drewN _) (Nat.add_assoc _ _ _))⟩))|(go_at_call 61;(with_reducible refine (impl_isAddress.calls a0_3 true _ A10.out).mono ?_);rintro e w' ⟨rfl,⟨nd,rfl⟩⟩;(try first|exact ⟨rfl,_,World.drewN_drewN _ _ _⟩|exact ⟨rfl,_,Eq.trans (World.drewN_drewN _ _ _) (congrArg (World.drewN _) (Nat.add_assoc _ _ _))⟩))|(go_at_call 62;(with_reducible refine (impl_within.calls a0_4 1 4 t171 _ A12.out).mono ?_);rintro e w' ⟨rfl,⟨nd,rfl⟩⟩;(try first|exact ⟨rfl,_,World.drewN_drewN _ _ _⟩|exact ⟨rfl,_,Eq.trans (World.drewN_drewN _ _ _) (congrArg (World.drewN _) (Nat.add_assoc _ _ _))⟩))))
      go_meet
      case rel => exact ⟨_,(!t171),(by first | rfl|(simp;done)|(simp [*];done)|(simp [ne_nil_b];done)|(simp [ne_nil_b, *];done)),H',⟨by first | omega|exact Nat.le_refl _⟩,⟨by (with_reducible repeat (first|refine bDn ?_ _|refine bDr ?_|refine bAl ?_ _));exact BK166.out⟩,⟨by repeat (first|(with_reducible first|exact HB.out|apply bwA|apply bwN|apply bw1|refine below_set ?_ GE166.out)|exact HB.out)⟩⟩
     ·replace c11:=Bool.eq_false_iff.mpr c11
      subst c11
      have H1 : (impl_ConnOK.j0 k true a0_0 a0_1 a0_2 a0_3 a0_4 a0_5 a0_6 a0_7 a0_8 a0_9 a0_10) = some r:=by rw [if_neg (show ¬ (false = true) by decide)] at H;exact H
      clear H
      have H:=H1
      clear H1
      have H':=aMk H
      clear H
      have hcz14_0 : w3.cell? ⟨gb166,0,none⟩ = some (.string a0_0):=(bCe BK166.out 0).trans rfl
      have hcz14_1 : w3.cell? ⟨gb166,1,none⟩ = some (.int .i64 a0_1):=(bCe BK166.out 1).trans rfl
      have hcz14_2 : w3.cell? ⟨gb166,2,none⟩ = some (.int .i64 a0_2):=(bCe BK166.out 2).trans rfl
      have hcz14_3 : w3.cell? ⟨gb166,3,none⟩ = some (.int .i64 a0_3):=(bCe BK166.out 3).trans rfl
      have hcz14_4 : w3.cell? ⟨gb166,4,none⟩ = some (.int .i64 a0_4):=(bCe BK166.out 4).trans rfl
      have hcz14_5 : w3.cell? ⟨gb166,5,none⟩ = some (.int .i64 a0_5):=(bCe BK166.out 5).trans rfl
      have hcz14_6 : w3.cell? ⟨gb166,6,none⟩ = some (.int .i64 a0_6):=(bCe BK166.out 6).trans rfl
      have hcz14_7 : w3.cell? ⟨gb166,7,none⟩ = some (.int .i64 a0_7):=(bCe BK166.out 7).trans rfl
      have hcz14_8 : w3.cell? ⟨gb166,8,none⟩ = some (.string a0_8):=(bCe BK166.out 8).trans rfl
      have hcz14_9 : w3.cell? ⟨gb166,9,none⟩ = some (.string a0_9):=(bCe BK166.out 9).trans rfl
      have hcz14_10 : w3.cell? ⟨gb166,10,none⟩ = some (.bool a0_10):=(bCe BK166.out 10).trans rfl
      have hfz14_0:=bFr BK166.out 0
      have hfz14_1:=bFr BK166.out 1
      have hfz14_2:=bFr BK166.out 2
      have hfz14_3:=bFr BK166.out 3
      have hfz14_4:=bFr BK166.out 4
      have hfz14_5:=bFr BK166.out 5
      have hfz14_6:=bFr BK166.out 6
      have hfz14_7:=bFr BK166.out 7
      have hfz14_8:=bFr BK166.out 8
      have hfz14_9:=bFr BK166.out 9
      have hfz14_10:=bFr BK166.out 10
      go_wp2_with (first|(go_at_call 72;(with_reducible refine (impl_macOK.calls a0_0 true _ A4.out).mono ?_);rintro e w' ⟨rfl,⟨nd,rfl⟩⟩;(try first|exact ⟨rfl,_,World.drewN_drewN _ _ _⟩|exact ⟨rfl,_,Eq.trans (World.drewN_drewN _ _ _) (congrArg (World.drewN _) (Nat.add_assoc _ _ _))⟩))|(go_at_call 61;(with_reducible refine (impl_isAddress.calls a0_1 true _ A6.out).mono ?_);rintro e w' ⟨rfl,⟨nd,rfl⟩⟩;(try first|exact ⟨rfl,_,World.drewN_drewN _ _ _⟩|exact ⟨rfl,_,Eq.trans (World.drewN_drewN _ _ _) (congrArg (World.drewN _) (Nat.add_assoc _ _ _))⟩))|(go_at_call 73;(with_reducible refine (impl_isPort.calls a0_2 true _ A8.out).mono ?_);rintro e w' ⟨rfl,⟨nd,rfl⟩⟩;(try first|exact ⟨rfl,_,World.drewN_drewN _ _ _⟩|exact ⟨rfl,_,Eq.trans (World.drewN_drewN _ _ _) (congrArg (World.drewN _) (Nat.add_assoc _ _ _))⟩))|(go_at_call 61;(with_reducible refine (impl_isAddress.calls a0_3 false _ A10.out).mono ?_);rintro e w' ⟨rfl,⟨nd,rfl⟩⟩;(try first|exact ⟨rfl,_,World.drewN_drewN _ _ _⟩|exact ⟨rfl,_,Eq.trans (World.drewN_drewN _ _ _) (congrArg (World.drewN _) (Nat.add_assoc _ _ _))⟩)))
      repeat (go_quiet (first|(go_at_call 72;(with_reducible refine (impl_macOK.calls a0_0 true _ A4.out).mono ?_);rintro e w' ⟨rfl,⟨nd,rfl⟩⟩;(try first|exact ⟨rfl,_,World.drewN_drewN _ _ _⟩|exact ⟨rfl,_,Eq.trans (World.drewN_drewN _ _ _) (congrArg (World.drewN _) (Nat.add_assoc _ _ _))⟩))|(go_at_call 61;(with_reducible refine (impl_isAddress.calls a0_1 true _ A6.out).mono ?_);rintro e w' ⟨rfl,⟨nd,rfl⟩⟩;(try first|exact ⟨rfl,_,World.drewN_drewN _ _ _⟩|exact ⟨rfl,_,Eq.trans (World.drewN_drewN _ _ _) (congrArg (World.drewN _) (Nat.add_assoc _ _ _))⟩))|(go_at_call 73;(with_reducible refine (impl_isPort.calls a0_2 true _ A8.out).mono ?_);rintro e w' ⟨rfl,⟨nd,rfl⟩⟩;(try first|exact ⟨rfl,_,World.drewN_drewN _ _ _⟩|exact ⟨rfl,_,Eq.trans (World.drewN_drewN _ _ _) (congrArg (World.drewN _) (Nat.add_assoc _ _ _))⟩))|(go_at_call 61;(with_reducible refine (impl_isAddress.calls a0_3 false _ A10.out).mono ?_);rintro e w' ⟨rfl,⟨nd,rfl⟩⟩;(try first|exact ⟨rfl,_,World.drewN_drewN _ _ _⟩|exact ⟨rfl,_,Eq.trans (World.drewN_drewN _ _ _) (congrArg (World.drewN _) (Nat.add_assoc _ _ _))⟩)));try go_wp2_with (first|(go_at_call 72;(with_reducible refine (impl_macOK.calls a0_0 true _ A4.out).mono ?_);rintro e w' ⟨rfl,⟨nd,rfl⟩⟩;(try first|exact ⟨rfl,_,World.drewN_drewN _ _ _⟩|exact ⟨rfl,_,Eq.trans (World.drewN_drewN _ _ _) (congrArg (World.drewN _) (Nat.add_assoc _ _ _))⟩))|(go_at_call 61;(with_reducible refine (impl_isAddress.calls a0_1 true _ A6.out).mono ?_);rintro e w' ⟨rfl,⟨nd,rfl⟩⟩;(try first|exact ⟨rfl,_,World.drewN_drewN _ _ _⟩|exact ⟨rfl,_,Eq.trans (World.drewN_drewN _ _ _) (congrArg (World.drewN _) (Nat.add_assoc _ _ _))⟩))|(go_at_call 73;(with_reducible refine (impl_isPort.calls a0_2 true _ A8.out).mono ?_);rintro e w' ⟨rfl,⟨nd,rfl⟩⟩;(try first|exact ⟨rfl,_,World.drewN_drewN _ _ _⟩|exact ⟨rfl,_,Eq.trans (World.drewN_drewN _ _ _) (congrArg (World.drewN _) (Nat.add_assoc _ _ _))⟩))|(go_at_call 61;(with_reducible refine (impl_isAddress.calls a0_3 false _ A10.out).mono ?_);rintro e w' ⟨rfl,⟨nd,rfl⟩⟩;(try first|exact ⟨rfl,_,World.drewN_drewN _ _ _⟩|exact ⟨rfl,_,Eq.trans (World.drewN_drewN _ _ _) (congrArg (World.drewN _) (Nat.add_assoc _ _ _))⟩))))
      go_meet
      case rel => exact ⟨_,(true),(by first | rfl|(simp;done)|(simp [*];done)|(simp [ne_nil_b];done)|(simp [ne_nil_b, *];done)),H',⟨by first | omega|exact Nat.le_refl _⟩,⟨by (with_reducible repeat (first|refine bDn ?_ _|refine bDr ?_|refine bAl ?_ _));exact BK166.out⟩,⟨by repeat (first|(with_reducible first|exact HB.out|apply bwA|apply bwN|apply bw1|refine below_set ?_ GE166.out)|exact HB.out)⟩⟩
    ·replace c9:=Bool.eq_false_iff.mpr c9
     subst c9
     have H1 : (impl_ConnOK.j0 k true a0_0 a0_1 a0_2 a0_3 a0_4 a0_5 a0_6 a0_7 a0_8 a0_9 a0_10) = some r:=by rw [if_neg (show ¬ (false = true) by decide)] at H;exact H
     clear H
     have H:=H1
     clear H1
     have H':=aMk H
     clear H
     have hcz15_0 : w3.cell? ⟨gb166,0,none⟩ = some (.string a0_0):=(bCe BK166.out 0).trans rfl
     have hcz15_1 : w3.cell? ⟨gb166,1,none⟩ = some (.int .i64 a0_1):=(bCe BK166.out 1).trans rfl
     have hcz15_2 : w3.cell? ⟨gb166,2,none⟩ = some (.int .i64 a0_2):=(bCe BK166.out 2).trans rfl
     have hcz15_3 : w3.cell? ⟨gb166,3,none⟩ = some (.int .i64 a0_3):=(bCe BK166.out 3).trans rfl
     have hcz15_4 : w3.cell? ⟨gb166,4,none⟩ = some (.int .i64 a0_4):=(bCe BK166.out 4).trans rfl
     have hcz15_5 : w3.cell? ⟨gb166,5,none⟩ = some (.int .i64 a0_5):=(bCe BK166.out 5).trans rfl
     have hcz15_6 : w3.cell? ⟨gb166,6,none⟩ = some (.int .i64 a0_6):=(bCe BK166.out 6).trans rfl
     have hcz15_7 : w3.cell? ⟨gb166,7,none⟩ = some (.int .i64 a0_7):=(bCe BK166.out 7).trans rfl
     have hcz15_8 : w3.cell? ⟨gb166,8,none⟩ = some (.string a0_8):=(bCe BK166.out 8).trans rfl
     have hcz15_9 : w3.cell? ⟨gb166,9,none⟩ = some (.string a0_9):=(bCe BK166.out 9).trans rfl
     have hcz15_10 : w3.cell? ⟨gb166,10,none⟩ = some (.bool a0_10):=(bCe BK166.out 10).trans rfl
     have hfz15_0:=bFr BK166.out 0
     have hfz15_1:=bFr BK166.out 1
     have hfz15_2:=bFr BK166.out 2
     have hfz15_3:=bFr BK166.out 3
     have hfz15_4:=bFr BK166.out 4
     have hfz15_5:=bFr BK166.out 5
     have hfz15_6:=bFr BK166.out 6
     have hfz15_7:=bFr BK166.out 7
     have hfz15_8:=bFr BK166.out 8
     have hfz15_9:=bFr BK166.out 9
     have hfz15_10:=bFr BK166.out 10
     go_wp2_with (first|(go_at_call 72;(with_reducible refine (impl_macOK.calls a0_0 true _ A4.out).mono ?_);rintro e w' ⟨rfl,⟨nd,rfl⟩⟩;(try first|exact ⟨rfl,_,World.drewN_drewN _ _ _⟩|exact ⟨rfl,_,Eq.trans (World.drewN_drewN _ _ _) (congrArg (World.drewN _) (Nat.add_assoc _ _ _))⟩))|(go_at_call 61;(with_reducible refine (impl_isAddress.calls a0_1 true _ A6.out).mono ?_);rintro e w' ⟨rfl,⟨nd,rfl⟩⟩;(try first|exact ⟨rfl,_,World.drewN_drewN _ _ _⟩|exact ⟨rfl,_,Eq.trans (World.drewN_drewN _ _ _) (congrArg (World.drewN _) (Nat.add_assoc _ _ _))⟩))|(go_at_call 73;(with_reducible refine (impl_isPort.calls a0_2 false _ A8.out).mono ?_);rintro e w' ⟨rfl,⟨nd,rfl⟩⟩;(try first|exact ⟨rfl,_,World.drewN_drewN _ _ _⟩|exact ⟨rfl,_,Eq.trans (World.drewN_drewN _ _ _) (congrArg (World.drewN _) (Nat.add_assoc _ _ _))⟩)))
     repeat (go_quiet (first|(go_at_call 72;(with_reducible refine (impl_macOK.calls a0_0 true _ A4.out).mono ?_);rintro e w' ⟨rfl,⟨nd,rfl⟩⟩;(try first|exact ⟨rfl,_,World.drewN_drewN _ _ _⟩|exact ⟨rfl,_,Eq.trans (World.drewN_drewN _ _ _) (congrArg (World.drewN _) (Nat.add_assoc _ _ _))⟩))|(go_at_call 61;(with_reducible refine (impl_isAddress.calls a0_1 true _ A6.out).mono ?_);rintro e w' ⟨rfl,⟨nd,rfl⟩⟩;(try first|exact ⟨rfl,_,World.drewN_drewN _ _ _⟩|exact ⟨rfl,_,Eq.trans (World.drewN_drewN _ _ _) (congrArg (World.drewN _) (Nat.add_assoc _ _ _))⟩))|(go_at_call 73;(with_reducible refine (impl_isPort.calls a0_2 false _ A8.out).mono ?_);rintro e w' ⟨rfl,⟨nd,rfl⟩⟩;(try first|exact ⟨rfl,_,World.drewN_drewN _ _ _⟩|exact ⟨rfl,_,Eq.trans (World.drewN_drewN _ _ _) (congrArg (World.drewN _) (Nat.add_assoc _ _ _))⟩)));try go_wp2_with (first|(go_at_call 72;(with_reducible refine (impl_macOK.calls a0_0 true _ A4.out).mono ?_);rintro e w' ⟨rfl,⟨nd,rfl⟩⟩;(try first|exact ⟨rfl,_,World.drewN_drewN _ _ _⟩|exact ⟨rfl,_,Eq.trans (World.drewN_drewN _ _ _) (congrArg (World.drewN _) (Nat.add_assoc _ _ _))⟩))|(go_at_call 61;(with_reducible refine (impl_isAddress.calls a0_1 true _ A6.out).mono ?_);rintro e w' ⟨rfl,⟨nd,rfl⟩⟩;(try first|exact ⟨rfl,_,World.drewN_drewN _ _ _⟩|exact ⟨rfl,_,Eq.trans (World.drewN_drewN _ _ _) (congrArg (World.drewN _) (Nat.add_assoc _ _ _))⟩))|(go_at_call 73;(with_reducible refine (impl_isPort.calls a0_2 false _ A8.out).mono ?_);rintro e w' ⟨rfl,⟨nd,rfl⟩⟩;(try first|exact ⟨rfl,_,World.drewN_drewN _ _ _⟩|exact ⟨rfl,_,Eq.trans (World.drewN_drewN _ _ _) (congrArg (World.drewN _) (Nat.add_assoc _ _ _))⟩))))
     go_meet
     case rel => exact ⟨_,(true),(by first | rfl|(simp;done)|(simp [*];done)|(simp [ne_nil_b];done)|(simp [ne_nil_b, *];done)),H',⟨by first | omega|exact Nat.le_refl _⟩,⟨by (with_reducible repeat (first|refine bDn ?_ _|refine bDr ?_|refine bAl ?_ _));exact BK166.out⟩,⟨by repeat (first|(with_reducible first|exact HB.out|apply bwA|apply bwN|apply bw1|refine below_set ?_ GE166.out)|exact HB.out)⟩⟩
   ·replace c7:=Bool.eq_false_iff.mpr c7
    subst c7
    have H1 : (impl_ConnOK.j0 k true a0_0 a0_1 a0_2 a0_3 a0_4 a0_5 a0_6 a0_7 a0_8 a0_9 a0_10) = some r:=by rw [if_neg (show ¬ (false = true) by decide)] at H;exact H
    clear H
    have H:=H1
    clear H1
    have H':=aMk H
    clear H
    have hcz16_0 : w3.cell? ⟨gb166,0,none⟩ = some (.string a0_0):=(bCe BK166.out 0).trans rfl
    have hcz16_1 : w3.cell? ⟨gb166,1,none⟩ = some (.int .i64 a0_1):=(bCe BK166.out 1).trans rfl
    have hcz16_2 : w3.cell? ⟨gb166,2,none⟩ = some (.int .i64 a0_2):=(bCe BK166.out 2).trans rfl
    have hcz16_3 : w3.cell? ⟨gb166,3,none⟩ = some (.int .i64 a0_3):=(bCe BK166.out 3).trans rfl
    have hcz16_4 : w3.cell? ⟨gb166,4,none⟩ = some (.int .i64 a0_4):=(bCe BK166.out 4).trans rfl
    have hcz16_5 : w3.cell? ⟨gb166,5,none⟩ = some (.int .i64 a0_5):=(bCe BK166.out 5).trans rfl
    have hcz16_6 : w3.cell? ⟨gb166,6,none⟩ = some (.int .i64 a0_6):=(bCe BK166.out 6).trans rfl
    have hcz16_7 : w3.cell? ⟨gb166,7,none⟩ = some (.int .i64 a0_7):=(bCe BK166.out 7).trans rfl
    have hcz16_8 : w3.cell? ⟨gb166,8,none⟩ = some (.string a0_8):=(bCe BK166.out 8).trans rfl
    have hcz16_9 : w3.cell? ⟨gb166,9,none⟩ = some (.string a0_9):=(bCe BK166.out 9).trans rfl
    have hcz16_10 : w3.cell? ⟨gb166,10,none⟩ = some (.bool a0_10):=(bCe BK166.out 10).trans rfl
    have hfz16_0:=bFr BK166.out 0
    have hfz16_1:=bFr BK166.out 1
    have hfz16_2:=bFr BK166.out 2
    have hfz16_3:=bFr BK166.out 3
    have hfz16_4:=bFr BK166.out 4
    have hfz16_5:=bFr BK166.out 5
    have hfz16_6:=bFr BK166.out 6
    have hfz16_7:=bFr BK166.out 7
    have hfz16_8:=bFr BK166.out 8
    have hfz16_9:=bFr BK166.out 9
    have hfz16_10:=bFr BK166.out 10
    go_wp2_with (first|(go_at_call 72;(with_reducible refine (impl_macOK.calls a0_0 true _ A4.out).mono ?_);rintro e w' ⟨rfl,⟨nd,rfl⟩⟩;(try first|exact ⟨rfl,_,World.drewN_drewN _ _ _⟩|exact ⟨rfl,_,Eq.trans (World.drewN_drewN _ _ _) (congrArg (World.drewN _) (Nat.add_assoc _ _ _))⟩))|(go_at_call 61;(with_reducible refine (impl_isAddress.calls a0_1 false _ A6.out).mono ?_);rintro e w' ⟨rfl,⟨nd,rfl⟩⟩;(try first|exact ⟨rfl,_,World.drewN_drewN _ _ _⟩|exact ⟨rfl,_,Eq.trans (World.drewN_drewN _ _ _) (congrArg (World.drewN _) (Nat.add_assoc _ _ _))⟩)))
    repeat (go_quiet (first|(go_at_call 72;(with_reducible refine (impl_macOK.calls a0_0 true _ A4.out).mono ?_);rintro e w' ⟨rfl,⟨nd,rfl⟩⟩;(try first|exact ⟨rfl,_,World.drewN_drewN _ _ _⟩|exact ⟨rfl,_,Eq.trans (World.drewN_drewN _ _ _) (congrArg (World.drewN _) (Nat.add_assoc _ _ _))⟩))|(go_at_call 61;(with_reducible refine (impl_isAddress.calls a0_1 false _ A6.out).mono ?_);rintro e w' ⟨rfl,⟨nd,rfl⟩⟩;(try first|exact ⟨rfl,_,World.drewN_drewN _ _ _⟩|exact ⟨rfl,_,Eq.trans (World.drewN_drewN _ _ _) (congrArg (World.drewN _) (Nat.add_assoc _ _ _))⟩)));try go_wp2_with (first|(go_at_call 72;(with_reducible refine (impl_macOK.calls a0_0 true _ A4.out).mono ?_);rintro e w' ⟨rfl,⟨nd,rfl⟩⟩;(try first|exact ⟨rfl,_,World.drewN_drewN _ _ _⟩|exact ⟨rfl,_,Eq.trans (World.drewN_drewN _ _ _) (congrArg (World.drewN _) (Nat.add_assoc _ _ _))⟩))|(go_at_call 61;(with_reducible refine (impl_isAddress.calls a0_1 false _ A6.out).mono ?_);rintro e w' ⟨rfl,⟨nd,rfl⟩⟩;(try first|exact ⟨rfl,_,World.drewN_drewN _ _ _⟩|exact ⟨rfl,_,Eq.trans (World.drewN_drewN _ _ _) (congrArg (World.drewN _) (Nat.add_assoc _ _ _))⟩))))
    go_meet
    case rel => exact ⟨_,(true),(by first | rfl|(simp;done)|(simp [*];done)|(simp [ne_nil_b];done)|(simp [ne_nil_b, *];done)),H',⟨by first | omega|exact Nat.le_refl _⟩,⟨by (with_reducible repeat (first|refine bDn ?_ _|refine bDr ?_|refine bAl ?_ _));exact BK166.out⟩,⟨by repeat (first|(with_reducible first|exact HB.out|apply bwA|apply bwN|apply bw1|refine below_set ?_ GE166.out)|exact HB.out)⟩⟩
  ·replace c5:=Bool.eq_false_iff.mpr c5
   subst c5
   have H1 : (impl_ConnOK.j0 k true a0_0 a0_1 a0_2 a0_3 a0_4 a0_5 a0_6 a0_7 a0_8 a0_9 a0_10) = some r:=by rw [if_neg (show ¬ (false = true) by decide)] at H;exact H
   clear H
   have H:=H1
   clear H1
   have H':=aMk H
   clear H
   have hcz17_0 : w3.cell? ⟨gb166,0,none⟩ = some (.string a0_0):=(bCe BK166.out 0).trans rfl
   have hcz17_1 : w3.cell? ⟨gb166,1,none⟩ = some (.int .i64 a0_1):=(bCe BK166.out 1).trans rfl
   have hcz17_2 : w3.cell? ⟨gb166,2,none⟩ = some (.int .i64 a0_2):=(bCe BK166.out 2).trans rfl
   have hcz17_3 : w3.cell? ⟨gb166,3,none⟩ = some (.int .i64 a0_3):=(bCe BK166.out 3).trans rfl
   have hcz17_4 : w3.cell? ⟨gb166,4,none⟩ = some (.int .i64 a0_4):=(bCe BK166.out 4).trans rfl
   have hcz17_5 : w3.cell? ⟨gb166,5,none⟩ = some (.int .i64 a0_5):=(bCe BK166.out 5).trans rfl
   have hcz17_6 : w3.cell? ⟨gb166,6,none⟩ = some (.int .i64 a0_6):=(bCe BK166.out 6).trans rfl
   have hcz17_7 : w3.cell? ⟨gb166,7,none⟩ = some (.int .i64 a0_7):=(bCe BK166.out 7).trans rfl
   have hcz17_8 : w3.cell? ⟨gb166,8,none⟩ = some (.string a0_8):=(bCe BK166.out 8).trans rfl
   have hcz17_9 : w3.cell? ⟨gb166,9,none⟩ = some (.string a0_9):=(bCe BK166.out 9).trans rfl
   have hcz17_10 : w3.cell? ⟨gb166,10,none⟩ = some (.bool a0_10):=(bCe BK166.out 10).trans rfl
   have hfz17_0:=bFr BK166.out 0
   have hfz17_1:=bFr BK166.out 1
   have hfz17_2:=bFr BK166.out 2
   have hfz17_3:=bFr BK166.out 3
   have hfz17_4:=bFr BK166.out 4
   have hfz17_5:=bFr BK166.out 5
   have hfz17_6:=bFr BK166.out 6
   have hfz17_7:=bFr BK166.out 7
   have hfz17_8:=bFr BK166.out 8
   have hfz17_9:=bFr BK166.out 9
   have hfz17_10:=bFr BK166.out 10
   go_wp2_with (first|(go_at_call 72;(with_reducible refine (impl_macOK.calls a0_0 false _ A4.out).mono ?_);rintro e w' ⟨rfl,⟨nd,rfl⟩⟩;(try first|exact ⟨rfl,_,World.drewN_drewN _ _ _⟩|exact ⟨rfl,_,Eq.trans (World.drewN_drewN _ _ _) (congrArg (World.drewN _) (Nat.add_assoc _ _ _))⟩)))
   repeat (go_quiet (first|(go_at_call 72;(with_reducible refine (impl_macOK.calls a0_0 false _ A4.out).mono ?_);rintro e w' ⟨rfl,⟨nd,rfl⟩⟩;(try first|exact ⟨rfl,_,World.drewN_drewN _ _ _⟩|exact ⟨rfl,_,Eq.trans (World.drewN_drewN _ _ _) (congrArg (World.drewN _) (Nat.add_assoc _ _ _))⟩)));try go_wp2_with (first|(go_at_call 72;(with_reducible refine (impl_macOK.calls a0_0 false _ A4.out).mono ?_);rintro e w' ⟨rfl,⟨nd,rfl⟩⟩;(try first|exact ⟨rfl,_,World.drewN_drewN _ _ _⟩|exact ⟨rfl,_,Eq.trans (World.drewN_drewN _ _ _) (congrArg (World.drewN _) (Nat.add_assoc _ _ _))⟩))))
   go_meet
   case rel => exact ⟨_,(true),(by first | rfl|(simp;done)|(simp [*];done)|(simp [ne_nil_b];done)|(simp [ne_nil_b, *];done)),H',⟨by first | omega|exact Nat.le_refl _⟩,⟨by (with_reducible repeat (first|refine bDn ?_ _|refine bDr ?_|refine bAl ?_ _));exact BK166.out⟩,⟨by repeat (first|(with_reducible first|exact HB.out|apply bwA|apply bwN|apply bw1|refine below_set ?_ GE166.out)|exact HB.out)⟩⟩
 case rest =>
  clear HC2
  try clear c1
  try clear c2
  try clear p2
  try clear c5
  try clear c7
  try clear c9
  try clear c11
  try clear hcz13_0
  try clear hcz13_1
  try clear hcz13_10
  try clear hcz13_2
  try clear hcz13_3
  try clear hcz13_4
  try clear hcz13_5
  try clear hcz13_6
  try clear hcz13_7
  try clear hcz13_8
  try clear hcz13_9
  try clear hcz14_0
  try clear hcz14_1
  try clear hcz14_10
  try clear hcz14_2
  try clear hcz14_3
  try clear hcz14_4
  try clear hcz14_5
  try clear hcz14_6
  try clear hcz14_7
  try clear hcz14_8
  try clear hcz14_9
  try clear hcz15_0
  try clear hcz15_1
  try clear hcz15_10
  try clear hcz15_2
  try clear hcz15_3
  try clear hcz15_4
  try clear hcz15_5
  try clear hcz15_6
  try clear hcz15_7
  try clear hcz15_8
  try clear hcz15_9
  try clear hcz16_0
  try clear hcz16_1
  try clear hcz16_10
  try clear hcz16_2
  try clear hcz16_3
  try clear hcz16_4
  try clear hcz16_5
  try clear hcz16_6
  try clear hcz16_7
  try clear hcz16_8
  try clear hcz16_9
  try clear hcz17_0
  try clear hcz17_1
  try clear hcz17_10
  try clear hcz17_2
  try clear hcz17_3
  try clear hcz17_4
  try clear hcz17_5
  try clear hcz17_6
  try clear hcz17_7
  try clear hcz17_8
  try clear hcz17_9
  try clear hfz13_0
  try clear hfz13_1
  try clear hfz13_10
  try clear hfz13_2
  try clear hfz13_3
  try clear hfz13_4
  try clear hfz13_5
  try clear hfz13_6
  try clear hfz13_7
  try clear hfz13_8
  try clear hfz13_9
  try clear hfz14_0
  try clear hfz14_1
  try clear hfz14_10
  try clear hfz14_2
  try clear hfz14_3
  try clear hfz14_4
  try clear hfz14_5
  try clear hfz14_6
  try clear hfz14_7
  try clear hfz14_8
  try clear hfz14_9
  try clear hfz15_0
  try clear hfz15_1
  try clear hfz15_10
  try clear hfz15_2
  try clear hfz15_3
  try clear hfz15_4
  try clear hfz15_5
  try clear hfz15_6
  try clear hfz15_7
  try clear hfz15_8
  try clear hfz15_9
  try clear hfz16_0
  try clear hfz16_1
  try clear hfz16_10
  try clear hfz16_2
  try clear hfz16_3
  try clear hfz16_4
  try clear hfz16_5
  try clear hfz16_6
  try clear hfz16_7
  try clear hfz16_8
  try clear hfz16_9
  try clear hfz17_0
  try clear hfz17_1
  try clear hfz17_10
  try clear hfz17_2
  try clear hfz17_3
  try clear hfz17_4
  try clear hfz17_5
  try clear hfz17_6
  try clear hfz17_7
  try clear hfz17_8
  try clear hfz17_9
  obtain ⟨kq,x30_1,rfl,HA,HJ1,BK166,HB⟩:=hcut
  cases kq with
  | zero => exact absurd HA.out (by simp [impl_ConnOK.j0])
  | succ kj1 =>
   have H:=HA.out
   clear HA
   simp only [impl_ConnOK.j0] at H
   by_cases c18 : x30_1 = true
   ·subst c18
    have H1 : (some false) = some r:=by rw [if_pos rfl] at H;exact H
    clear H
    have H:=H1
    clear H1
    obtain rfl:=Option.some.inj H
    go_wp2
    repeat (go_quiet (fail);try go_wp2)
    go_ret
    exact ⟨by first | rfl|(simp [errW_none,errW_some] <;> rfl)|(simp [*,errW_none,errW_some] <;> rfl),by repeat (first|(with_reducible first|exact HB.out|apply bwA|apply bwN|apply bw1|refine below_set ?_ GE166.out)|exact HB.out)⟩
   ·replace c18:=Bool.eq_false_iff.mpr c18
    subst c18
    have H1 : ((impl_isAddress.f a0_5).bind fun t172 => (if t172 = true then ((impl_isAddress.f a0_6).bind fun t173 => (if t173 = true then ((impl_isAddress.f a0_7).bind fun t174 => (if t174 = true then (if (a0_8.size : Int) > 300 then (impl_ConnOK.j1 kj1 true a0_0 a0_1 a0_2 a0_3 a0_4 a0_5 a0_6 a0_7 a0_8 a0_9 a0_10) else (impl_ConnOK.j1 kj1 (decide ((a0_9.size : Int) > 300)) a0_0 a0_1 a0_2 a0_3 a0_4 a0_5 a0_6 a0_7 a0_8 a0_9 a0_10)) else (impl_ConnOK.j1 kj1 true a0_0 a0_1 a0_2 a0_3 a0_4 a0_5 a0_6 a0_7 a0_8 a0_9 a0_10))) else (impl_ConnOK.j1 kj1 true a0_0 a0_1 a0_2 a0_3 a0_4 a0_5 a0_6 a0_7 a0_8 a0_9 a0_10))) else (impl_ConnOK.j1 kj1 true a0_0 a0_1 a0_2 a0_3 a0_4 a0_5 a0_6 a0_7 a0_8 a0_9 a0_10))) = some r:=by rw [if_neg (show ¬ (false = true) by decide)] at H;exact H
    clear H
    have H:=H1
    clear H1
    have HC19:=aMk H
    clear H
    go_upto_region 3 with (fail)
    repeat (go_quiet (fail);go_upto_region 3 with (fail))
    go_cut [58] (fun v58 wc => ∃ (kq : Nat) (x58_18 : Bool),v58 = .bool x58_18 ∧ Aside0 (impl_ConnOK.j1 kq x58_18 a0_0 a0_1 a0_2 a0_3 a0_4 a0_5 a0_6 a0_7 a0_8 a0_9 a0_10 = some r) ∧ Aside0 (kq ≤ kj1) ∧ Aside0 (wc.heap[gb166]? = some (.cells #[.string a0_0,.int .i64 a0_1,.int .i64 a0_2,.int .i64 a0_3,.int .i64 a0_4,.int .i64 a0_5,.int .i64 a0_6,.int .i64 a0_7,.string a0_8,.string a0_9,.bool a0_10] 34 (0,0))) ∧ Aside0 (Below w.heap.size w wc))
    case first =>
     have H:=HC19.out
     clear HC19
     replace H:=Option.bind_eq_some_iff.mp H
     obtain ⟨t172,A200,H⟩:=H
     replace H : (if t172 = true then ((impl_isAddress.f a0_6).bind fun t173 => (if t173 = true then ((impl_isAddress.f a0_7).bind fun t174 => (if t174 = true then (if (a0_8.size : Int) > 300 then (impl_ConnOK.j1 kj1 true a0_0 a0_1 a0_2 a0_3 a0_4 a0_5 a0_6 a0_7 a0_8 a0_9 a0_10) else (impl_ConnOK.j1 kj1 (decide ((a0_9.size : Int) > 300)) a0_0 a0_1 a0_2 a0_3 a0_4 a0_5 a0_6 a0_7 a0_8 a0_9 a0_10)) else (impl_ConnOK.j1 kj1 true a0_0 a0_1 a0_2 a0_3 a0_4 a0_5 a0_6 a0_7 a0_8 a0_9 a0_10))) else (impl_ConnOK.j1 kj1 true a0_0 a0_1 a0_2 a0_3 a0_4 a0_5 a0_6 a0_7 a0_8 a0_9 a0_10))) else (impl_ConnOK.j1 kj1 true a0_0 a0_1 a0_2 a0_3 a0_4 a0_5 a0_6 a0_7 a0_8 a0_9 a0_10)) = some r:=H
     have A20:=aMk A200
     clear A200
     by_cases c21 : t172 = true
     ·subst c21
      have H1 : ((impl_isAddress.f a0_6).bind fun t173 => (if t173 = true then ((impl_isAddress.f a0_7).bind fun t174 => (if t174 = true then (if (a0_8.size : Int) > 300 then (impl_ConnOK.j1 kj1 true a0_0 a0_1 a0_2 a0_3 a0_4 a0_5 a0_6 a0_7 a0_8 a0_9 a0_10) else (impl_ConnOK.j1 kj1 (decide ((a0_9.size : Int) > 300)) a0_0 a0_1 a0_2 a0_3 a0_4 a0_5 a0_6 a0_7 a0_8 a0_9 a0_10)) else (impl_ConnOK.j1 kj1 true a0_0 a0_1 a0_2 a0_3 a0_4 a0_5 a0_6 a0_7 a0_8 a0_9 a0_10))) else (impl_ConnOK.j1 kj1 true a0_0 a0_1 a0_2 a0_3 a0_4 a0_5 a0_6 a0_7 a0_8 a0_9 a0_10))) = some r:=by rw [if_pos rfl] at H;exact H
      clear H
      have H:=H1
      clear H1
      replace H:=Option.bind_eq_some_iff.mp H
      obtain ⟨t173,A220,H⟩:=H
      replace H : (if t173 = true then ((impl_isAddress.f a0_7).bind fun t174 => (if t174 = true then (if (a0_8.size : Int) > 300 then (impl_ConnOK.j1 kj1 true a0_0 a0_1 a0_2 a0_3 a0_4 a0_5 a0_6 a0_7 a0_8 a0_9 a0_10) else (impl_ConnOK.j1 kj1 (decide ((a0_9.size : Int) > 300)) a0_0 a0_1 a0_2 a0_3 a0_4 a0_5 a0_6 a0_7 a0_8 a0_9 a0_10)) else (impl_ConnOK.j1 kj1 true a0_0 a0_1 a0_2 a0_3 a0_4 a0_5 a0_6 a0_7 a0_8 a0_9 a0_10))) else (impl_ConnOK.j1 kj1 true a0_0 a0_1 a0_2 a0_3 a0_4 a0_5 a0_6 a0_7 a0_8 a0_9 a0_10)) = some r:=H
      have A22:=aMk A220
      clear A220
      by_cases c23 : t173 = true
      ·subst c23
       have H1 : ((impl_isAddress.f a0_7).bind fun t174 => (if t174 = true then (if (a0_8.size : Int) > 300 then (impl_ConnOK.j1 kj1 true a0_0 a0_1 a0_2 a0_3 a0_4 a0_5 a0_6 a0_7 a0_8 a0_9 a0_10) else (impl_ConnOK.j1 kj1 (decide ((a0_9.size : Int) > 300)) a0_0 a0_1 a0_2 a0_3 a0_4 a0_5 a0_6 a0_7 a0_8 a0_9 a0_10)) else (impl_ConnOK.j1 kj1 true a0_0 a0_1 a0_2 a0_3 a0_4 a0_5 a0_6 a0_7 a0_8 a0_9 a0_10))) = some r:=by rw [if_pos rfl] at H;exact H
       clear H
       have H:=H1
       clear H1
       replace H:=Option.bind_eq_some_iff.mp H
       obtain ⟨t174,A240,H⟩:=H
       replace H : (if t174 = true then (if (a0_8.size : Int) > 300 then (impl_ConnOK.j1 kj1 true a0_0 a0_1 a0_2 a0_3 a0_4 a0_5 a0_6 a0_7 a0_8 a0_9 a0_10) else (impl_ConnOK.j1 kj1 (decide ((a0_9.size : Int) > 300)) a0_0 a0_1 a0_2 a0_3 a0_4 a0_5 a0_6 a0_7 a0_8 a0_9 a0_10)) else (impl_ConnOK.j1 kj1 true a0_0 a0_1 a0_2 a0_3 a0_4 a0_5 a0_6 a0_7 a0_8 a0_9 a0_10)) = some r:=H
       have A24:=aMk A240
       clear A240
       by_cases c25 : t174 = true
       ·subst c25
        have H1 : (if (a0_8.size : Int) > 300 then (impl_ConnOK.j1 kj1 true a0_0 a0_1 a0_2 a0_3 a0_4 a0_5 a0_6 a0_7 a0_8 a0_9 a0_10) else (impl_ConnOK.j1 kj1 (decide ((a0_9.size : Int) > 300)) a0_0 a0_1 a0_2 a0_3 a0_4 a0_5 a0_6 a0_7 a0_8 a0_9 a0_10)) = some r:=by rw [if_pos rfl] at H;exact H
        clear H
        have H:=H1
        clear H1
        by_cases c26 : (a0_8.size : Int) > 300
        ·rw [if_pos c26] at H
         have c26b0 : decide (300 < (a0_8.size : Int)) = true:=decide_eq_true c26
         have c26b1 : decide (300 < a0_8.size) = true:=decide_eq_true (by omega)
         clear c26
         (first|rw [c26b0]|(simp only [i64_w,i32_w];rw [c26b0]) | skip)
         have H':=aMk H
         clear H
         have hcz27_0 : wc.cell? ⟨gb166,0,none⟩ = some (.string a0_0):=(bCe BK166.out 0).trans rfl
         have hcz27_1 : wc.cell? ⟨gb166,1,none⟩ = some (.int .i64 a0_1):=(bCe BK166.out 1).trans rfl
         have hcz27_2 : wc.cell? ⟨gb166,2,none⟩ = some (.int .i64 a0_2):=(bCe BK166.out 2).trans rfl
         have hcz27_3 : wc.cell? ⟨gb166,3,none⟩ = some (.int .i64 a0_3):=(bCe BK166.out 3).trans rfl
         have hcz27_4 : wc.cell? ⟨gb166,4,none⟩ = some (.int .i64 a0_4):=(bCe BK166.out 4).trans rfl
         have hcz27_5 : wc.cell? ⟨gb166,5,none⟩ = some (.int .i64 a0_5):=(bCe BK166.out 5).trans rfl
         have hcz27_6 : wc.cell? ⟨gb166,6,none⟩ = some (.int .i64 a0_6):=(bCe BK166.out 6).trans rfl
         have hcz27_7 : wc.cell? ⟨gb166,7,none⟩ = some (.int .i64 a0_7):=(bCe BK166.out 7).trans rfl
         have hcz27_8 : wc.cell? ⟨gb166,8,none⟩ = some (.string a0_8):=(bCe BK166.out 8).trans rfl
         have hcz27_9 : wc.cell? ⟨gb166,9,none⟩ = some (.string a0_9):=(bCe BK166.out 9).trans rfl
         have hcz27_10 : wc.cell? ⟨gb166,10,none⟩ = some (.bool a0_10):=(bCe BK166.out 10).trans rfl
         have hfz27_0:=bFr BK166.out 0
         have hfz27_1:=bFr BK166.out 1
         have hfz27_2:=bFr BK166.out 2
         have hfz27_3:=bFr BK166.out 3
         have hfz27_4:=bFr BK166.out 4
         have hfz27_5:=bFr BK166.out 5
         have hfz27_6:=bFr BK166.out 6
         have hfz27_7:=bFr BK166.out 7
         have hfz27_8:=bFr BK166.out 8
         have hfz27_9:=bFr BK166.out 9
         have hfz27_10:=bFr BK166.out 10
         go_wp2_with (first|(go_at_call 61;(with_reducible refine (impl_isAddress.calls a0_5 true _ A20.out).mono ?_);rintro e w' ⟨rfl,⟨nd,rfl⟩⟩;(try first|exact ⟨rfl,_,World.drewN_drewN _ _ _⟩|exact ⟨rfl,_,Eq.trans (World.drewN_drewN _ _ _) (congrArg (World.drewN _) (Nat.add_assoc _ _ _))⟩))|(go_at_call 61;(with_reducible refine (impl_isAddress.calls a0_6 true _ A22.out).mono ?_);rintro e w' ⟨rfl,⟨nd,rfl⟩⟩;(try first|exact ⟨rfl,_,World.drewN_drewN _ _ _⟩|exact ⟨rfl,_,Eq.trans (World.drewN_drewN _ _ _) (congrArg (World.drewN _) (Nat.add_assoc _ _ _))⟩))|(go_at_call 61;(with_reducible refine (impl_isAddress.calls a0_7 true _ A24.out).mono ?_);rintro e w' ⟨rfl,⟨nd,rfl⟩⟩;(try first|exact ⟨rfl,_,World.drewN_drewN _ _ _⟩|exact ⟨rfl,_,Eq.trans (World.drewN_drewN _ _ _) (congrArg (World.drewN _) (Nat.add_assoc _ _ _))⟩)))
         repeat (go_quiet (first|(go_at_call 61;(with_reducible refine (impl_isAddress.calls a0_5 true _ A20.out).mono ?_);rintro e w' ⟨rfl,⟨nd,rfl⟩⟩;(try first|exact ⟨rfl,_,World.drewN_drewN _ _ _⟩|exact ⟨rfl,_,Eq.trans (World.drewN_drewN _ _ _) (congrArg (World.drewN _) (Nat.add_assoc _ _ _))⟩))|(go_at_call 61;(with_reducible refine (impl_isAddress.calls a0_6 true _ A22.out).mono ?_);rintro e w' ⟨rfl,⟨nd,rfl⟩⟩;(try first|exact ⟨rfl,_,World.drewN_drewN _ _ _⟩|exact ⟨rfl,_,Eq.trans (World.drewN_drewN _ _ _) (congrArg (World.drewN _) (Nat.add_assoc _ _ _))⟩))|(go_at_call 61;(with_reducible refine (impl_isAddress.calls a0_7 true _ A24.out).mono ?_);rintro e w' ⟨rfl,⟨nd,rfl⟩⟩;(try first|exact ⟨rfl,_,World.drewN_drewN _ _ _⟩|exact ⟨rfl,_,Eq.trans (World.drewN_drewN _ _ _) (congrArg (World.drewN _) (Nat.add_assoc _ _ _))⟩)));try go_wp2_with (first|(go_at_call 61;(with_reducible refine (impl_isAddress.calls a0_5 true _ A20.out).mono ?_);rintro e w' ⟨rfl,⟨nd,rfl⟩⟩;(try first|exact ⟨rfl,_,World.drewN_drewN _ _ _⟩|exact ⟨rfl,_,Eq.trans (World.drewN_drewN _ _ _) (congrArg (World.drewN _) (Nat.add_assoc _ _ _))⟩))|(go_at_call 61;(with_reducible refine (impl_isAddress.calls a0_6 true _ A22.out).mono ?_);rintro e w' ⟨rfl,⟨nd,rfl⟩⟩;(try first|exact ⟨rfl,_,World.drewN_drewN _ _ _⟩|exact ⟨rfl,_,Eq.trans (World.drewN_drewN _ _ _) (congrArg (World.drewN _) (Nat.add_assoc _ _ _))⟩))|(go_at_call 61;(with_reducible refine (impl_isAddress.calls a0_7 true _ A24.out).mono ?_);rintro e w' ⟨rfl,⟨nd,rfl⟩⟩;(try first|exact ⟨rfl,_,World.drewN_drewN _ _ _⟩|exact ⟨rfl,_,Eq.trans (World.drewN_drewN _ _ _) (congrArg (World.drewN _) (Nat.add_assoc _ _ _))⟩))))
         go_meet
         case rel => exact ⟨_,(true),(by first | rfl|(simp;done)|(simp [*];done)|(simp [ne_nil_b];done)|(simp [ne_nil_b, *];done)),H',⟨by have:=HJ1.out;first | omega|exact Nat.le_refl _⟩,⟨by (with_reducible repeat (first|refine bDn ?_ _|refine bDr ?_|refine bAl ?_ _));exact BK166.out⟩,⟨by repeat (first|(with_reducible first|exact HB.out|apply bwA|apply bwN|apply bw1|refine below_set ?_ GE166.out)|exact HB.out)⟩⟩
        ·rw [if_neg c26] at H
         have c26b0 : decide (300 < (a0_8.size : Int)) = false:=decide_eq_false c26
         have c26b1 : decide (300 < a0_8.size) = false:=decide_eq_false (by omega)
         clear c26
         (first|rw [c26b0]|(simp only [i64_w,i32_w];rw [c26b0]) | skip)
         have H':=aMk H
         clear H
         have hcz28_0 : wc.cell? ⟨gb166,0,none⟩ = some (.string a0_0):=(bCe BK166.out 0).trans rfl
         have hcz28_1 : wc.cell? ⟨gb166,1,none⟩ = some (.int .i64 a0_1):=(bCe BK166.out 1).trans rfl
         have hcz28_2 : wc.cell? ⟨gb166,2,none⟩ = some (.int .i64 a0_2):=(bCe BK166.out 2).trans rfl
         have hcz28_3 : wc.cell? ⟨gb166,3,none⟩ = some (.int .i64 a0_3):=(bCe BK166.out 3).trans rfl
         have hcz28_4 : wc.cell? ⟨gb166,4,none⟩ = some (.int .i64 a0_4):=(bCe BK166.out 4).trans rfl
         have hcz28_5 : wc.cell? ⟨gb166,5,none⟩ = some (.int .i64 a0_5):=(bCe BK166.out 5).trans rfl
         have hcz28_6 : wc.cell? ⟨gb166,6,none⟩ = some (.int .i64 a0_6):=(bCe BK166.out 6).trans rfl
         have hcz28_7 : wc.cell? ⟨gb166,7,none⟩ = some (.int .i64 a0_7):=(bCe BK166.out 7).trans rfl
         have hcz28_8 : wc.cell? ⟨gb166,8,none⟩ = some (.string a0_8):=(bCe BK166.out 8).trans rfl
         have hcz28_9 : wc.cell? ⟨gb166,9,none⟩ = some (.string a0_9):=(bCe BK166.out 9).trans rfl
         have hcz28_10 : wc.cell? ⟨gb166,10,none⟩ = some (.bool a0_10):=(bCe BK166.out 10).trans rfl
         have hfz28_0:=bFr BK166.out 0
         have hfz28_1:=bFr BK166.out 1
         have hfz28_2:=bFr BK166.out 2
         have hfz28_3:=bFr BK166.out 3
         have hfz28_4:=bFr BK166.out 4
         have hfz28_5:=bFr BK166.out 5
         have hfz28_6:=bFr BK166.out 6
         have hfz28_7:=bFr BK166.out 7
         have hfz28_8:=bFr BK166.out 8
         have hfz28_9:=bFr BK166.out 9
         have hfz28_10:=bFr BK166.out 10
         go_wp2_with (first|(go_at_call 61;(with_reducible refine (impl_isAddress.calls a0_5 true _ A20.out).mono ?_);rintro e w' ⟨rfl,⟨nd,rfl⟩⟩;(try first|exact ⟨rfl,_,World.drewN_drewN _ _ _⟩|exact ⟨rfl,_,Eq.trans (World.drewN_drewN _ _ _) (congrArg (World.drewN _) (Nat.add_assoc _ _ _))⟩))|(go_at_call 61;(with_reducible refine (impl_isAddress.calls a0_6 true _ A22.out).mono ?_);rintro e w' ⟨rfl,⟨nd,rfl⟩⟩;(try first|exact ⟨rfl,_,World.drewN_drewN _ _ _⟩|exact ⟨rfl,_,Eq.trans (World.drewN_drewN _ _ _) (congrArg (World.drewN _) (Nat.add_assoc _ _ _))⟩))|(go_at_call 61;(with_reducible refine (impl_isAddress.calls a0_7 true _ A24.out).mono ?_);rintro e w' ⟨rfl,⟨nd,rfl⟩⟩;(try first|exact ⟨rfl,_,World.drewN_drewN _ _ _⟩|exact ⟨rfl,_,Eq.trans (World.drewN_drewN _ _ _) (congrArg (World.drewN _) (Nat.add_assoc _ _ _))⟩)))
         repeat (go_quiet (first|(go_at_call 61;(with_reducible refine (impl_isAddress.calls a0_5 true _ A20.out).mono ?_);rintro e w' ⟨rfl,⟨nd,rfl⟩⟩;(try first|exact ⟨rfl,_,World.drewN_drewN _ _ _⟩|exact ⟨rfl,_,Eq.trans (World.drewN_drewN _ _ _) (congrArg (World.drewN _) (Nat.add_assoc _ _ _))⟩))|(go_at_call 61;(with_reducible refine (impl_isAddress.calls a0_6 true _ A22.out).mono ?_);rintro e w' ⟨rfl,⟨nd,rfl⟩⟩;(try first|exact ⟨rfl,_,World.drewN_drewN _ _ _⟩|exact ⟨rfl,_,Eq.trans (World.drewN_drewN _ _ _) (congrArg (World.drewN _) (Nat.add_assoc _ _ _))⟩))|(go_at_call 61;(with_reducible refine (impl_isAddress.calls a0_7 true _ A24.out).mono ?_);rintro e w' ⟨rfl,⟨nd,rfl⟩⟩;(try first|exact ⟨rfl,_,World.drewN_drewN _ _ _⟩|exact ⟨rfl,_,Eq.trans (World.drewN_drewN _ _ _) (congrArg (World.drewN _) (Nat.add_assoc _ _ _))⟩)));try go_wp2_with (first|(go_at_call 61;(with_reducible refine (impl_isAddress.calls a0_5 true _ A20.out).mono ?_);rintro e w' ⟨rfl,⟨nd,rfl⟩⟩;(try first|exact ⟨rfl,_,World.drewN_drewN _ _ _⟩|exact ⟨rfl,_,Eq.trans (World.drewN_drewN _ _ _) (congrArg (World.drewN _) (Nat.add_assoc _ _ _))⟩))|(go_at_call 61;(with_reducible refine (impl_isAddress.calls a0_6 true _ A22.out).mono ?_);rintro e w' ⟨rfl,⟨nd,rfl⟩⟩;(try first|exact ⟨rfl,_,World.drewN_drewN _ _ _⟩|exact ⟨rfl,_,Eq.trans (World.drewN_drewN _ _ _) (congrArg (World.drewN _) (Nat.add_assoc _ _ _))⟩))|(go_at_call 61;(with_reducible refine (impl_isAddress.calls a0_7 true _ A24.out).mono ?_);rintro e w' ⟨rfl,⟨nd,rfl⟩⟩;(try first|exact ⟨rfl,_,World.drewN_drewN _ _ _⟩|exact ⟨rfl,_,Eq.trans (World.drewN_drewN _ _ _) (congrArg (World.drewN _) (Nat.add_assoc _ _ _))⟩))))
         go_meet
         case rel => exact ⟨_,(decide ((a0_9.size : Int) > 300)),(by first | rfl|(simp;done)|(simp [*];done)|(simp [ne_nil_b];done)|(simp [ne_nil_b, *];done)),H',⟨by have:=HJ1.out;first | omega|exact Nat.le_refl _⟩,⟨by (with_reducible repeat (first|refine bDn ?_ _|refine bDr ?_|refine bAl ?_ _));exact BK166.out⟩,⟨by repeat (first|(with_reducible first|exact HB.out|apply bwA|apply bwN|apply bw1|refine below_set ?_ GE166.out)|exact HB.out)⟩⟩
       ·replace c25:=Bool.eq_false_iff.mpr c25
        subst c25
        have H1 : (impl_ConnOK.j1 kj1 true a0_0 a0_1 a0_2 a0_3 a0_4 a0_5 a0_6 a0_7 a0_8 a0_9 a0_10) = some r:=by rw [if_neg (show ¬ (false = true) by decide)] at H;exact H
        clear H
        have H:=H1
        clear H1
        have H':=aMk H
        clear H
        have hcz29_0 : wc.cell? ⟨gb166,0,none⟩ = some (.string a0_0):=(bCe BK166.out 0).trans rfl
        have hcz29_1 : wc.cell? ⟨gb166,1,none⟩ = some (.int .i64 a0_1):=(bCe BK166.out 1).trans rfl
        have hcz29_2 : wc.cell? ⟨gb166,2,none⟩ = some (.int .i64 a0_2):=(bCe BK166.out 2).trans rfl
        have hcz29_3 : wc.cell? ⟨gb166,3,none⟩ = some (.int .i64 a0_3):=(bCe BK166.out 3).trans rfl
        have hcz29_4 : wc.cell? ⟨gb166,4,none⟩ = some (.int .i64 a0_4):=(bCe BK166.out 4).trans rfl
        have hcz29_5 : wc.cell? ⟨gb166,5,none⟩ = some (.int .i64 a0_5):=(bCe BK166.out 5).trans rfl
        have hcz29_6 : wc.cell? ⟨gb166,6,none⟩ = some (.int .i64 a0_6):=(bCe BK166.out 6).trans rfl
        have hcz29_7 : wc.cell? ⟨gb166,7,none⟩ = some (.int .i64 a0_7):=(bCe BK166.out 7).trans rfl
        have hcz29_8 : wc.cell? ⟨gb166,8,none⟩ = some (.string a0_8):=(bCe BK166.out 8).trans rfl
        have hcz29_9 : wc.cell? ⟨gb166,9,none⟩ = some (.string a0_9):=(bCe BK166.out 9).trans rfl
        have hcz29_10 : wc.cell? ⟨gb166,10,none⟩ = some (.bool a0_10):=(bCe BK166.out 10).trans rfl
        have hfz29_0:=bFr BK166.out 0
        have hfz29_1:=bFr BK166.out 1
        have hfz29_2:=bFr BK166.out 2
        have hfz29_3:=bFr BK166.out 3
        have hfz29_4:=bFr BK166.out 4
        have hfz29_5:=bFr BK166.out 5
        have hfz29_6:=bFr BK166.out 6
        have hfz29_7:=bFr BK166.out 7
        have hfz29_8:=bFr BK166.out 8
        have hfz29_9:=bFr BK166.out 9
        have hfz29_10:=bFr BK166.out 10
        go_wp2_with (first|(go_at_call 61;(with_reducible refine (impl_isAddress.calls a0_5 true _ A20.out).mono ?_);rintro e w' ⟨rfl,⟨nd,rfl⟩⟩;(try first|exact ⟨rfl,_,World.drewN_drewN _ _ _⟩|exact ⟨rfl,_,Eq.trans (World.drewN_drewN _ _ _) (congrArg (World.drewN _) (Nat.add_assoc _ _ _))⟩))|(go_at_call 61;(with_reducible refine (impl_isAddress.calls a0_6 true _ A22.out).mono ?_);rintro e w' ⟨rfl,⟨nd,rfl⟩⟩;(try first|exact ⟨rfl,_,World.drewN_drewN _ _ _⟩|exact ⟨rfl,_,Eq.trans (World.drewN_drewN _ _ _) (congrArg (World.drewN _) (Nat.add_assoc _ _ _))⟩))|(go_at_call 61;(with_reducible refine (impl_isAddress.calls a0_7 false _ A24.out).mono ?_);rintro e w' ⟨rfl,⟨nd,rfl⟩⟩;(try first|exact ⟨rfl,_,World.drewN_drewN _ _ _⟩|exact ⟨rfl,_,Eq.trans (World.drewN_drewN _ _ _) (congrArg (World.drewN _) (Nat.add_assoc _ _ _))⟩)))
        repeat (go_quiet (first|(go_at_call 61;(with_reducible refine (impl_isAddress.calls a0_5 true _ A20.out).mono ?_);rintro e w' ⟨rfl,⟨nd,rfl⟩⟩;(try first|exact ⟨rfl,_,World.drewN_drewN _ _ _⟩|exact ⟨rfl,_,Eq.trans (World.drewN_drewN _ _ _) (congrArg (World.drewN _) (Nat.add_assoc _ _ _))⟩))|(go_at_call 61;(with_reducible refine (impl_isAddress.calls a0_6 true _ A22.out).mono ?_);rintro e w' ⟨rfl,⟨nd,rfl⟩⟩;(try first|exact ⟨rfl,_,World.drewN_drewN _ _ _⟩|exact ⟨rfl,_,Eq.trans (World.drewN_drewN _ _ _) (congrArg (World.drewN _) (Nat.add_assoc _ _ _))⟩))|(go_at_call 61;(with_reducible refine (impl_isAddress.calls a0_7 false _ A24.out).mono ?_);rintro e w' ⟨rfl,⟨nd,rfl⟩⟩;(try first|exact ⟨rfl,_,World.drewN_drewN _ _ _⟩|exact ⟨rfl,_,Eq.trans (World.drewN_drewN _ _ _) (congrArg (World.drewN _) (Nat.add_assoc _ _ _))⟩)));try go_wp2_with (first|(go_at_call 61;(with_reducible refine (impl_isAddress.calls a0_5 true _ A20.out).mono ?_);rintro e w' ⟨rfl,⟨nd,rfl⟩⟩;(try first|exact ⟨rfl,_,World.drewN_drewN _ _ _⟩|exact ⟨rfl,_,Eq.trans (World.drewN_drewN _ _ _) (congrArg (World.drewN _) (Nat.add_assoc _ _ _))⟩))|(go_at_call 61;(with_reducible refine (impl_isAddress.calls a0_6 true _ A22.out).mono ?_);rintro e w' ⟨rfl,⟨nd,rfl⟩⟩;(try first|exact ⟨rfl,_,World.drewN_drewN _ _ _⟩|exact ⟨rfl,_,Eq.trans (World.drewN_drewN _ _ _) (congrArg (World.drewN _) (Nat.add_assoc _ _ _))⟩))|(go_at_call 61;(with_reducible refine (impl_isAddress.calls a0_7 false _ A24.out).mono ?_);rintro e w' ⟨rfl,⟨nd,rfl⟩⟩;(try first|exact ⟨rfl,_,World.drewN_drewN _ _ _⟩|exact ⟨rfl,_,Eq.trans (World.drewN_drewN _ _ _) (congrArg (World.drewN _) (Nat.add_assoc _ _ _))⟩))))
        go_meet
        case rel => exact ⟨_,(true),(by first | rfl|(simp;done)|(simp [*];done)|(simp [ne_nil_b];done)|(simp [ne_nil_b, *];done)),H',⟨by have:=HJ1.out;first | omega|exact Nat.le_refl _⟩,⟨by (with_reducible repeat (first|refine bDn ?_ _|refine bDr ?_|refine bAl ?_ _));exact BK166.out⟩,⟨by repeat (first|(with_reducible first|exact HB.out|apply bwA|apply bwN|apply bw1|refine below_set ?_ GE166.out)|exact HB.out)⟩⟩
      ·replace c23:=Bool.eq_false_iff.mpr c23
       subst c23
       have H1 : (impl_ConnOK.j1 kj1 true a0_0 a0_1 a0_2 a0_3 a0_4 a0_5 a0_6 a0_7 a0_8 a0_9 a0_10) = some r:=by rw [if_neg (show ¬ (false = true) by decide)] at H;exact H
       clear H
       have H:=H1
       clear H1
       have H':=aMk H
       clear H
       have hcz30_0 : wc.cell? ⟨gb166,0,none⟩ = some (.string a0_0):=(bCe BK166.out 0).trans rfl
       have hcz30_1 : wc.cell? ⟨gb166,1,none⟩ = some (.int .i64 a0_1):=(bCe BK166.out 1).trans rfl
       have hcz30_2 : wc.cell? ⟨gb166,2,none⟩ = some (.int .i64 a0_2):=(bCe BK166.out 2).trans rfl
       have hcz30_3 : wc.cell? ⟨gb166,3,none⟩ = some (.int .i64 a0_3):=(bCe BK166.out 3).trans rfl
       have hcz30_4 : wc.cell? ⟨gb166,4,none⟩ = some (.int .i64 a0_4):=(bCe BK166.out 4).trans rfl
       have hcz30_5 : wc.cell? ⟨gb166,5,none⟩ = some (.int .i64 a0_5):=(bCe BK166.out 5).trans rfl
       have hcz30_6 : wc.cell? ⟨gb166,6,none⟩ = some (.int .i64 a0_6):=(bCe BK166.out 6).trans rfl
       have hcz30_7 : wc.cell? ⟨gb166,7,none⟩ = some (.int .i64 a0_7):=(bCe BK166.out 7).trans rfl
       have hcz30_8 : wc.cell? ⟨gb166,8,none⟩ = some (.string a0_8):=(bCe BK166.out 8).trans rfl
       have hcz30_9 : wc.cell? ⟨gb166,9,none⟩ = some (.string a0_9):=(bCe BK166.out 9).trans rfl
       have hcz30_10 : wc.cell? ⟨gb166,10,none⟩ = some (.bool a0_10):=(bCe BK166.out 10).trans rfl
       have hfz30_0:=bFr BK166.out 0
       have hfz30_1:=bFr BK166.out 1
       have hfz30_2:=bFr BK166.out 2
       have hfz30_3:=bFr BK166.out 3
       have hfz30_4:=bFr BK166.out 4
       have hfz30_5:=bFr BK166.out 5
       have hfz30_6:=bFr BK166.out 6
       have hfz30_7:=bFr BK166.out 7
       have hfz30_8:=bFr BK166.out 8
       have hfz30_9:=bFr BK166.out 9
       have hfz30_10:=bFr BK166.out 10
       go_wp2_with (first|(go_at_call 61;(with_reducible refine (impl_isAddress.calls a0_5 true _ A20.out).mono ?_);rintro e w' ⟨rfl,⟨nd,rfl⟩⟩;(try first|exact ⟨rfl,_,World.drewN_drewN _ _ _⟩|exact ⟨rfl,_,Eq.trans (World.drewN_drewN _ _ _) (congrArg (World.drewN _) (Nat.add_assoc _ _ _))⟩))|(go_at_call 61;(with_reducible refine (impl_isAddress.calls a0_6 false _ A22.out).mono ?_);rintro e w' ⟨rfl,⟨nd,rfl⟩⟩;(try first|exact ⟨rfl,_,World.drewN_drewN _ _ _⟩|exact ⟨rfl,_,Eq.trans (World.drewN_drewN _ _ _) (congrArg (World.drewN _) (Nat.add_assoc _ _ _))⟩)))
       repeat (go_quiet (first|(go_at_call 61;(with_reducible refine (impl_isAddress.calls a0_5 true _ A20.out).mono ?_);rintro e w' ⟨rfl,⟨nd,rfl⟩⟩;(try first|exact ⟨rfl,_,World.drewN_drewN _ _ _⟩|exact ⟨rfl,_,Eq.trans (World.drewN_drewN _ _ _) (congrArg (World.drewN _) (Nat.add_assoc _ _ _))⟩))|(go_at_call 61;(with_reducible refine (impl_isAddress.calls a0_6 false _ A22.out).mono ?_);rintro e w' ⟨rfl,⟨nd,rfl⟩⟩;(try first|exact ⟨rfl,_,World.drewN_drewN _ _ _⟩|exact ⟨rfl,_,Eq.trans (World.drewN_drewN _ _ _) (congrArg (World.drewN _) (Nat.add_assoc _ _ _))⟩)));try go_wp2_with (first|(go_at_call 61;(with_reducible refine (impl_isAddress.calls a0_5 true _ A20.out).mono ?_);rintro e w' ⟨rfl,⟨nd,rfl⟩⟩;(try first|exact ⟨rfl,_,World.drewN_drewN _ _ _⟩|exact ⟨rfl,_,Eq.trans (World.drewN_drewN _ _ _) (congrArg (World.drewN _) (Nat.add_assoc _ _ _))⟩))|(go_at_call 61;(with_reducible refine (impl_isAddress.calls a0_6 false _ A22.out).mono ?_);rintro e w' ⟨rfl,⟨nd,rfl⟩⟩;(try first|exact ⟨rfl,_,World.drewN_drewN _ _ _⟩|exact ⟨rfl,_,Eq.trans (World.drewN_drewN _ _ _) (congrArg (World.drewN _) (Nat.add_assoc _ _ _))⟩))))
       go_meet
       case rel => exact ⟨_,(true),(by first | rfl|(simp;done)|(simp [*];done)|(simp [ne_nil_b];done)|(simp [ne_nil_b, *];done)),H',⟨by have:=HJ1.out;first | omega|exact Nat.le_refl _⟩,⟨by (with_reducible repeat (first|refine bDn ?_ _|refine bDr ?_|refine bAl ?_ _));exact BK166.out⟩,⟨by repeat (first|(with_reducible first|exact HB.out|apply bwA|apply bwN|apply bw1|refine below_set ?_ GE166.out)|exact HB.out)⟩⟩
     ·replace c21:=Bool.eq_false_iff.mpr c21
      subst c21
      have H1 : (impl_ConnOK.j1 kj1 true a0_0 a0_1 a0_2 a0_3 a0_4 a0_5 a0_6 a0_7 a0_8 a0_9 a0_10) = some r:=by rw [if_neg (show ¬ (false = true) by decide)] at H;exact H
      clear H
      have H:=H1
      clear H1
      have H':=aMk H
      clear H
      have hcz31_0 : wc.cell? ⟨gb166,0,none⟩ = some (.string a0_0):=(bCe BK166.out 0).trans rfl
      have hcz31_1 : wc.cell? ⟨gb166,1,none⟩ = some (.int .i64 a0_1):=(bCe BK166.out 1).trans rfl
      have hcz31_2 : wc.cell? ⟨gb166,2,none⟩ = some (.int .i64 a0_2):=(bCe BK166.out 2).trans rfl
      have hcz31_3 : wc.cell? ⟨gb166,3,none⟩ = some (.int .i64 a0_3):=(bCe BK166.out 3).trans rfl
      have hcz31_4 : wc.cell? ⟨gb166,4,none⟩ = some (.int .i64 a0_4):=(bCe BK166.out 4).trans rfl
      have hcz31_5 : wc.cell? ⟨gb166,5,none⟩ = some (.int .i64 a0_5):=(bCe BK166.out 5).trans rfl
      have hcz31_6 : wc.cell? ⟨gb166,6,none⟩ = some (.int .i64 a0_6):=(bCe BK166.out 6).trans rfl
      have hcz31_7 : wc.cell? ⟨gb166,7,none⟩ = some (.int .i64 a0_7):=(bCe BK166.out 7).trans rfl
      have hcz31_8 : wc.cell? ⟨gb166,8,none⟩ = some (.string a0_8):=(bCe BK166.out 8).trans rfl
      have hcz31_9 : wc.cell? ⟨gb166,9,none⟩ = some (.string a0_9):=(bCe BK166.out 9).trans rfl
      have hcz31_10 : wc.cell? ⟨gb166,10,none⟩ = some (.bool a0_10):=(bCe BK166.out 10).trans rfl
      have hfz31_0:=bFr BK166.out 0
      have hfz31_1:=bFr BK166.out 1
      have hfz31_2:=bFr BK166.out 2
      have hfz31_3:=bFr BK166.out 3
      have hfz31_4:=bFr BK166.out 4
      have hfz31_5:=bFr BK166.out 5
      have hfz31_6:=bFr BK166.out 6
      have hfz31_7:=bFr BK166.out 7
      have hfz31_8:=bFr BK166.out 8
      have hfz31_9:=bFr BK166.out 9
      have hfz31_10:=bFr BK166.out 10
      go_wp2_with (first|(go_at_call 61;(with_reducible refine (impl_isAddress.calls a0_5 false _ A20.out).mono ?_);rintro e w' ⟨rfl,⟨nd,rfl⟩⟩;(try first|exact ⟨rfl,_,World.drewN_drewN _ _ _⟩|exact ⟨rfl,_,Eq.trans (World.drewN_drewN _ _ _) (congrArg (World.drewN _) (Nat.add_assoc _ _ _))⟩)))
      repeat (go_quiet (first|(go_at_call 61;(with_reducible refine (impl_isAddress.calls a0_5 false _ A20.out).mono ?_);rintro e w' ⟨rfl,⟨nd,rfl⟩⟩;(try first|exact ⟨rfl,_,World.drewN_drewN _ _ _⟩|exact ⟨rfl,_,Eq.trans (World.drewN_drewN _ _ _) (congrArg (World.drewN _) (Nat.add_assoc _ _ _))⟩)));try go_wp2_with (first|(go_at_call 61;(with_reducible refine (impl_isAddress.calls a0_5 false _ A20.out).mono ?_);rintro e w' ⟨rfl,⟨nd,rfl⟩⟩;(try first|exact ⟨rfl,_,World.drewN_drewN _ _ _⟩|exact ⟨rfl,_,Eq.trans (World.drewN_drewN _ _ _) (congrArg (World.drewN _) (Nat.add_assoc _ _ _))⟩))))
      go_meet
      case rel => exact ⟨_,(true),(by first | rfl|(simp;done)|(simp [*];done)|(simp [ne_nil_b];done)|(simp [ne_nil_b, *];done)),H',⟨by have:=HJ1.out;first | omega|exact Nat.le_refl _⟩,⟨by (with_reducible repeat (first|refine bDn ?_ _|refine bDr ?_|refine bAl ?_ _));exact BK166.out⟩,⟨by repeat (first|(with_reducible first|exact HB.out|apply bwA|apply bwN|apply bw1|refine below_set ?_ GE166.out)|exact HB.out)⟩⟩
    case rest =>
     clear HC19
     try clear c1
     try clear c2
     try clear p2
     try clear c5
     try clear c7
     try clear c9
     try clear c11
     try clear c18
     try clear c21
     try clear c23
     try clear c25
     try clear c26
     try clear c26b0
     try clear c26b1
     try clear hcz13_0
     try clear hcz13_1
     try clear hcz13_10
     try clear hcz13_2
     try clear hcz13_3
     try clear hcz13_4
     try clear hcz13_5
     try clear hcz13_6
     try clear hcz13_7
     try clear hcz13_8
     try clear hcz13_9
     try clear hcz14_0
     try clear hcz14_1
     try clear hcz14_10
     try clear hcz14_2
     try clear hcz14_3
     try clear hcz14_4
     try clear hcz14_5
     try clear hcz14_6
     try clear hcz14_7
     try clear hcz14_8
     try clear hcz14_9
     try clear hcz15_0
     try clear hcz15_1
     try clear hcz15_10
     try clear hcz15_2
     try clear hcz15_3
     try clear hcz15_4
     try clear hcz15_5
     try clear hcz15_6
     try clear hcz15_7
     try clear hcz15_8
     try clear hcz15_9
     try clear hcz16_0
     try clear hcz16_1
     try clear hcz16_10
     try clear hcz16_2
     try clear hcz16_3
     try clear hcz16_4
     try clear hcz16_5
     try clear hcz16_6
     try clear hcz16_7
     try clear hcz16_8
     try clear hcz16_9
     try clear hcz17_0
     try clear hcz17_1
     try clear hcz17_10
     try clear hcz17_2
     try clear hcz17_3
     try clear hcz17_4
     try clear hcz17_5
     try clear hcz17_6
     try clear hcz17_7
     try clear hcz17_8
     try clear hcz17_9
     try clear hcz27_0
     try clear hcz27_1
     try clear hcz27_10
     try clear hcz27_2
     try clear hcz27_3
     try clear hcz27_4
     try clear hcz27_5
     try clear hcz27_6
     try clear hcz27_7
     try clear hcz27_8
     try clear hcz27_9
     try clear hcz28_0
     try clear hcz28_1
     try clear hcz28_10
     try clear hcz28_2
     try clear hcz28_3
     try clear hcz28_4
     try clear hcz28_5
     try clear hcz28_6
     try clear hcz28_7
     try clear hcz28_8
     try clear hcz28_9
     try clear hcz29_0
     try clear hcz29_1
     try clear hcz29_10
     try clear hcz29_2
     try clear hcz29_3
     try clear hcz29_4
     try clear hcz29_5
     try clear hcz29_6
     try clear hcz29_7
     try clear hcz29_8
     try clear hcz29_9
     try clear hcz30_0
     try clear hcz30_1
     try clear hcz30_10
     try clear hcz30_2
     try clear hcz30_3
     try clear hcz30_4
     try clear hcz30_5
     try clear hcz30_6
     try clear hcz30_7
     try clear hcz30_8
     try clear hcz30_9
     try clear hcz31_0
     try clear hcz31_1
     try clear hcz31_10
     try clear hcz31_2
     try clear hcz31_3
     try clear hcz31_4
     try clear hcz31_5
     try clear hcz31_6
     try clear hcz31_7
     try clear hcz31_8
     try clear hcz31_9
     try clear hfz13_0
     try clear hfz13_1
     try clear hfz13_10
     try clear hfz13_2
     try clear hfz13_3
     try clear hfz13_4
     try clear hfz13_5
     try clear hfz13_6
     try clear hfz13_7
     try clear hfz13_8
     try clear hfz13_9
     try clear hfz14_0
     try clear hfz14_1
     try clear hfz14_10
     try clear hfz14_2
     try clear hfz14_3
     try clear hfz14_4
     try clear hfz14_5
     try clear hfz14_6
     try clear hfz14_7
     try clear hfz14_8
     try clear hfz14_9
     try clear hfz15_0
     try clear hfz15_1
     try clear hfz15_10
     try clear hfz15_2
     try clear hfz15_3
     try clear hfz15_4
     try clear hfz15_5
     try clear hfz15_6
     try clear hfz15_7
     try clear hfz15_8
     try clear hfz15_9
     try clear hfz16_0
     try clear hfz16_1
     try clear hfz16_10
     try clear hfz16_2
     try clear hfz16_3
     try clear hfz16_4
     try clear hfz16_5
     try clear hfz16_6
     try clear hfz16_7
     try clear hfz16_8
     try clear hfz16_9
     try clear hfz17_0
     try clear hfz17_1
     try clear hfz17_10
     try clear hfz17_2
     try clear hfz17_3
     try clear hfz17_4
     try clear hfz17_5
     try clear hfz17_6
     try clear hfz17_7
     try clear hfz17_8
     try clear hfz17_9
     try clear hfz27_0
     try clear hfz27_1
     try clear hfz27_10
     try clear hfz27_2
     try clear hfz27_3
     try clear hfz27_4
     try clear hfz27_5
     try clear hfz27_6
     try clear hfz27_7
     try clear hfz27_8
     try clear hfz27_9
     try clear hfz28_0
     try clear hfz28_1
     try clear hfz28_10
     try clear hfz28_2
     try clear hfz28_3
     try clear hfz28_4
     try clear hfz28_5
     try clear hfz28_6
     try clear hfz28_7
     try clear hfz28_8
     try clear hfz28_9
     try clear hfz29_0
     try clear hfz29_1
     try clear hfz29_10
     try clear hfz29_2
     try clear hfz29_3
     try clear hfz29_4
     try clear hfz29_5
     try clear hfz29_6
     try clear hfz29_7
     try clear hfz29_8
     try clear hfz29_9
     try clear hfz30_0
     try clear hfz30_1
     try clear hfz30_10
     try clear hfz30_2
     try clear hfz30_3
     try clear hfz30_4
     try clear hfz30_5
     try clear hfz30_6
     try clear hfz30_7
     try clear hfz30_8
     try clear hfz30_9
     try clear hfz31_0
     try clear hfz31_1
     try clear hfz31_10
     try clear hfz31_2
     try clear hfz31_3
     try clear hfz31_4
     try clear hfz31_5
     try clear hfz31_6
     try clear hfz31_7
     try clear hfz31_8
     try clear hfz31_9
     try clear p2
     obtain ⟨kq,x58_18,rfl,HA,HJ18,BK166,HB⟩:=hcut
     cases kq with
     | zero => exact absurd HA.out (by simp [impl_ConnOK.j1])
     | succ kj18 =>
      have H:=HA.out
      clear HA
      simp only [impl_ConnOK.j1] at H
      by_cases c32 : x58_18 = true
      ·subst c32
       have H1 : (some false) = some r:=by rw [if_pos rfl] at H;exact H
       clear H
       have H:=H1
       clear H1
       obtain rfl:=Option.some.inj H
       go_wp2
       repeat (go_quiet (fail);try go_wp2)
       go_ret
       exact ⟨by first | rfl|(simp [errW_none,errW_some] <;> rfl)|(simp [*,errW_none,errW_some] <;> rfl),by repeat (first|(with_reducible first|exact HB.out|apply bwA|apply bwN|apply bw1|refine below_set ?_ GE166.out)|exact HB.out)⟩
      ·replace c32:=Bool.eq_false_iff.mpr c32
       subst c32
       have H1 : (if (a0_10 != (a0_4 == 3)) = true then (impl_ConnOK.j2 kj18 true a0_0 a0_1 a0_2 a0_3 a0_4 a0_5 a0_6 a0_7 a0_8 a0_9 a0_10) else (if a0_10 = true then (if a0_4 = 1 then (impl_ConnOK.j2 kj18 (a0_8.toList != ([] : List UInt8)) a0_0 a0_1 a0_2 a0_3 a0_4 a0_5 a0_6 a0_7 a0_8 a0_9 a0_10) else (impl_ConnOK.j2 kj18 false a0_0 a0_1 a0_2 a0_3 a0_4 a0_5 a0_6 a0_7 a0_8 a0_9 a0_10)) else (if a0_9.toList = ([] : List UInt8) then (if a0_4 = 1 then (impl_ConnOK.j2 kj18 (a0_8.toList != ([] : List UInt8)) a0_0 a0_1 a0_2 a0_3 a0_4 a0_5 a0_6 a0_7 a0_8 a0_9 a0_10) else (impl_ConnOK.j2 kj18 false a0_0 a0_1 a0_2 a0_3 a0_4 a0_5 a0_6 a0_7 a0_8 a0_9 a0_10)) else (impl_ConnOK.j2 kj18 true a0_0 a0_1 a0_2 a0_3 a0_4 a0_5 a0_6 a0_7 a0_8 a0_9 a0_10)))) = some r:=by rw [if_neg (show ¬ (false = true) by decide)] at H;exact H
       clear H
       have H:=H1
       clear H1
       have HC33:=aMk H
       clear H
       go_upto_region 5 with (fail)
       repeat (go_quiet (fail);go_upto_region 5 with (fail))
       go_cut [84] (fun v84 wc => ∃ (kq : Nat) (x84_32 : Bool),v84 = .bool x84_32 ∧ Aside0 (impl_ConnOK.j2 kq x84_32 a0_0 a0_1 a0_2 a0_3 a0_4 a0_5 a0_6 a0_7 a0_8 a0_9 a0_10 = some r) ∧ Aside0 (kq ≤ kj18) ∧ Aside0 (wc.heap[gb166]? = some (.cells #[.string a0_0,.int .i64 a0_1,.int .i64 a0_2,.int .i64 a0_3,.int .i64 a0_4,.int .i64 a0_5,.int .i64 a0_6,.int .i64 a0_7,.string a0_8,.string a0_9,.bool a0_10] 34 (0,0))) ∧ Aside0 (Below w.heap.size w wc))
       case first =>
        have H:=HC33.out
        clear HC33
        by_cases c34 : (a0_10 != (a0_4 == 3)) = true
        ·rw [if_pos c34] at H
         have c34b0 : (a0_10 != (a0_4 == 3)) = true:=c34
         (try (have c34b1 : decide (a0_10 = (a0_4 == 3)) = false:=by simpa using c34))
         (try (have c34b2 : (a0_10 == (a0_4 == 3)) = false:=by simpa using c34))
         (try (have c34b3 : ¬ (a0_10 = (a0_4 == 3)):=by simpa using c34))
         clear c34
         (first|rw [c34b0]|(simp only [i64_w,i32_w];rw [c34b0]) | skip)
         have H':=aMk H
         clear H
         have hcz35_0 : wc.cell? ⟨gb166,0,none⟩ = some (.string a0_0):=(bCe BK166.out 0).trans rfl
         have hcz35_1 : wc.cell? ⟨gb166,1,none⟩ = some (.int .i64 a0_1):=(bCe BK166.out 1).trans rfl
         have hcz35_2 : wc.cell? ⟨gb166,2,none⟩ = some (.int .i64 a0_2):=(bCe BK166.out 2).trans rfl
         have hcz35_3 : wc.cell? ⟨gb166,3,none⟩ = some (.int .i64 a0_3):=(bCe BK166.out 3).trans rfl
         have hcz35_4 : wc.cell? ⟨gb166,4,none⟩ = some (.int .i64 a0_4):=(bCe BK166.out 4).trans rfl
         have hcz35_5 : wc.cell? ⟨gb166,5,none⟩ = some (.int .i64 a0_5):=(bCe BK166.out 5).trans rfl
         have hcz35_6 : wc.cell? ⟨gb166,6,none⟩ = some (.int .i64 a0_6):=(bCe BK166.out 6).trans rfl
         have hcz35_7 : wc.cell? ⟨gb166,7,none⟩ = some (.int .i64 a0_7):=(bCe BK166.out 7).trans rfl
         have hcz35_8 : wc.cell? ⟨gb166,8,none⟩ = some (.string a0_8):=(bCe BK166.out 8).trans rfl
         have hcz35_9 : wc.cell? ⟨gb166,9,none⟩ = some (.string a0_9):=(bCe BK166.out 9).trans rfl
         have hcz35_10 : wc.cell? ⟨gb166,10,none⟩ = some (.bool a0_10):=(bCe BK166.out 10).trans rfl
         have hfz35_0:=bFr BK166.out 0
         have hfz35_1:=bFr BK166.out 1
         have hfz35_2:=bFr BK166.out 2
         have hfz35_3:=bFr BK166.out 3
         have hfz35_4:=bFr BK166.out 4
         have hfz35_5:=bFr BK166.out 5
         have hfz35_6:=bFr BK166.out 6
         have hfz35_7:=bFr BK166.out 7
         have hfz35_8:=bFr BK166.out 8
         have hfz35_9:=bFr BK166.out 9
         have hfz35_10:=bFr BK166.out 10
         go_wp2
         repeat (go_quiet (fail);try go_wp2)
         go_meet
         case rel => exact ⟨_,(true),(by first | rfl|(simp;done)|(simp [*];done)|(simp [ne_nil_b];done)|(simp [ne_nil_b, *];done)),H',⟨by have:=HJ1.out;have:=HJ18.out;first | omega|exact Nat.le_refl _⟩,⟨by (with_reducible repeat (first|refine bDn ?_ _|refine bDr ?_|refine bAl ?_ _));exact BK166.out⟩,⟨by repeat (first|(with_reducible first|exact HB.out|apply bwA|apply bwN|apply bw1|refine below_set ?_ GE166.out)|exact HB.out)⟩⟩
        ·rw [if_neg c34] at H
         have c34b0 : (a0_10 != (a0_4 == 3)) = false:=by simpa using c34
         (try (have c34b1 : decide (a0_10 = (a0_4 == 3)) = true:=by simpa using c34))
         (try (have c34b2 : (a0_10 == (a0_4 == 3)) = true:=by simpa using c34))
         clear c34
         (first|rw [c34b0]|(simp only [i64_w,i32_w];rw [c34b0]) | skip)
         by_cases c36 : a0_10 = true
         ·subst c36
          have H1 : (if a0_4 = 1 then (impl_ConnOK.j2 kj18 (a0_8.toList != ([] : List UInt8)) a0_0 a0_1 a0_2 a0_3 a0_4 a0_5 a0_6 a0_7 a0_8 a0_9 true) else (impl_ConnOK.j2 kj18 false a0_0 a0_1 a0_2 a0_3 a0_4 a0_5 a0_6 a0_7 a0_8 a0_9 true)) = some r:=by rw [if_pos rfl] at H;exact H
          clear H
          have H:=H1
          clear H1
          by_cases c37 : a0_4 = 1
          ·rw [if_pos c37] at H
           have c37b0 : (a0_4 == 1) = true:=beq_iff_eq.mpr c37
           have c37b1 : (a0_4 != 1) = false:=bne_eq_false_iff_eq.mpr c37
           clear c37
           have H':=aMk H
           clear H
           have hcz38_0 : wc.cell? ⟨gb166,0,none⟩ = some (.string a0_0):=(bCe BK166.out 0).trans rfl
           have hcz38_1 : wc.cell? ⟨gb166,1,none⟩ = some (.int .i64 a0_1):=(bCe BK166.out 1).trans rfl
           have hcz38_2 : wc.cell? ⟨gb166,2,none⟩ = some (.int .i64 a0_2):=(bCe BK166.out 2).trans rfl
           have hcz38_3 : wc.cell? ⟨gb166,3,none⟩ = some (.int .i64 a0_3):=(bCe BK166.out 3).trans rfl
           have hcz38_4 : wc.cell? ⟨gb166,4,none⟩ = some (.int .i64 a0_4):=(bCe BK166.out 4).trans rfl
           have hcz38_5 : wc.cell? ⟨gb166,5,none⟩ = some (.int .i64 a0_5):=(bCe BK166.out 5).trans rfl
           have hcz38_6 : wc.cell? ⟨gb166,6,none⟩ = some (.int .i64 a0_6):=(bCe BK166.out 6).trans rfl
           have hcz38_7 : wc.cell? ⟨gb166,7,none⟩ = some (.int .i64 a0_7):=(bCe BK166.out 7).trans rfl
           have hcz38_8 : wc.cell? ⟨gb166,8,none⟩ = some (.string a0_8):=(bCe BK166.out 8).trans rfl
           have hcz38_9 : wc.cell? ⟨gb166,9,none⟩ = some (.string a0_9):=(bCe BK166.out 9).trans rfl
           have hcz38_10 : wc.cell? ⟨gb166,10,none⟩ = some (.bool true):=(bCe BK166.out 10).trans rfl
           have hfz38_0:=bFr BK166.out 0
           have hfz38_1:=bFr BK166.out 1
           have hfz38_2:=bFr BK166.out 2
           have hfz38_3:=bFr BK166.out 3
           have hfz38_4:=bFr BK166.out 4
           have hfz38_5:=bFr BK166.out 5
           have hfz38_6:=bFr BK166.out 6
           have hfz38_7:=bFr BK166.out 7
           have hfz38_8:=bFr BK166.out 8
           have hfz38_9:=bFr BK166.out 9
           have hfz38_10:=bFr BK166.out 10
           go_wp2
           repeat (go_quiet (fail);try go_wp2)
           go_meet
           case rel => exact ⟨_,((a0_8.toList != ([] : List UInt8))),(by first | rfl|(simp;done)|(simp [*];done)|(simp [ne_nil_b];done)|(simp [ne_nil_b, *];done)),H',⟨by have:=HJ1.out;have:=HJ18.out;first | omega|exact Nat.le_refl _⟩,⟨by (with_reducible repeat (first|refine bDn ?_ _|refine bDr ?_|refine bAl ?_ _));exact BK166.out⟩,⟨by repeat (first|(with_reducible first|exact HB.out|apply bwA|apply bwN|apply bw1|refine below_set ?_ GE166.out)|exact HB.out)⟩⟩
          ·rw [if_neg c37] at H
           have c37b0 : (a0_4 == 1) = false:=beq_eq_false_iff_ne.mpr c37
           have c37b1 : (a0_4 != 1) = true:=bne_iff_ne.mpr c37
           have H':=aMk H
           clear H
           have hcz39_0 : wc.cell? ⟨gb166,0,none⟩ = some (.string a0_0):=(bCe BK166.out 0).trans rfl
           have hcz39_1 : wc.cell? ⟨gb166,1,none⟩ = some (.int .i64 a0_1):=(bCe BK166.out 1).trans rfl
           have hcz39_2 : wc.cell? ⟨gb166,2,none⟩ = some (.int .i64 a0_2):=(bCe BK166.out 2).trans rfl
           have hcz39_3 : wc.cell? ⟨gb166,3,none⟩ = some (.int .i64 a0_3):=(bCe BK166.out 3).trans rfl
           have hcz39_4 : wc.cell? ⟨gb166,4,none⟩ = some (.int .i64 a0_4):=(bCe BK166.out 4).trans rfl
           have hcz39_5 : wc.cell? ⟨gb166,5,none⟩ = some (.int .i64 a0_5):=(bCe BK166.out 5).trans rfl
           have hcz39_6 : wc.cell? ⟨gb166,6,none⟩ = some (.int .i64 a0_6):=(bCe BK166.out 6).trans rfl
           have hcz39_7 : wc.cell? ⟨gb166,7,none⟩ = some (.int .i64 a0_7):=(bCe BK166.out 7).trans rfl
           have hcz39_8 : wc.cell? ⟨gb166,8,none⟩ = some (.string a0_8):=(bCe BK166.out 8).trans rfl
           have hcz39_9 : wc.cell? ⟨gb166,9,none⟩ = some (.string a0_9):=(bCe BK166.out 9).trans rfl
           have hcz39_10 : wc.cell? ⟨gb166,10,none⟩ = some (.bool true):=(bCe BK166.out 10).trans rfl
           have hfz39_0:=bFr BK166.out 0
           have hfz39_1:=bFr BK166.out 1
           have hfz39_2:=bFr BK166.out 2
           have hfz39_3:=bFr BK166.out 3
           have hfz39_4:=bFr BK166.out 4
           have hfz39_5:=bFr BK166.out 5
           have hfz39_6:=bFr BK166.out 6
           have hfz39_7:=bFr BK166.out 7
           have hfz39_8:=bFr BK166.out 8
           have hfz39_9:=bFr BK166.out 9
           have hfz39_10:=bFr BK166.out 10
           go_wp2
           repeat (go_quiet (fail);try go_wp2)
           go_meet
           case rel => exact ⟨_,(false),(by first | rfl|(simp;done)|(simp [*];done)|(simp [ne_nil_b];done)|(simp [ne_nil_b, *];done)),H',⟨by have:=HJ1.out;have:=HJ18.out;first | omega|exact Nat.le_refl _⟩,⟨by (with_reducible repeat (first|refine bDn ?_ _|refine bDr ?_|refine bAl ?_ _));exact BK166.out⟩,⟨by repeat (first|(with_reducible first|exact HB.out|apply bwA|apply bwN|apply bw1|refine below_set ?_ GE166.out)|exact HB.out)⟩⟩
         ·replace c36:=Bool.eq_false_iff.mpr c36
          subst c36
          have H1 : (if a0_9.toList = ([] : List UInt8) then (if a0_4 = 1 then (impl_ConnOK.j2 kj18 (a0_8.toList != ([] : List UInt8)) a0_0 a0_1 a0_2 a0_3 a0_4 a0_5 a0_6 a0_7 a0_8 a0_9 false) else (impl_ConnOK.j2 kj18 false a0_0 a0_1 a0_2 a0_3 a0_4 a0_5 a0_6 a0_7 a0_8 a0_9 false)) else (impl_ConnOK.j2 kj18 true a0_0 a0_1 a0_2 a0_3 a0_4 a0_5 a0_6 a0_7 a0_8 a0_9 false)) = some r:=by rw [if_neg (show ¬ (false = true) by decide)] at H;exact H
          clear H
          have H:=H1
          clear H1
          by_cases c40 : a0_9.toList = ([] : List UInt8)
          ·rw [if_pos c40] at H
           have c40b0 : (a0_9.toList == ([] : List UInt8)) = true:=beq_iff_eq.mpr c40
           have c40b1 : (a0_9.toList != ([] : List UInt8)) = false:=bne_eq_false_iff_eq.mpr c40
           clear c40
           by_cases c41 : a0_4 = 1
           ·rw [if_pos c41] at H
            have c41b0 : (a0_4 == 1) = true:=beq_iff_eq.mpr c41
            have c41b1 : (a0_4 != 1) = false:=bne_eq_false_iff_eq.mpr c41
            clear c41
            have H':=aMk H
            clear H
            have hcz42_0 : wc.cell? ⟨gb166,0,none⟩ = some (.string a0_0):=(bCe BK166.out 0).trans rfl
            have hcz42_1 : wc.cell? ⟨gb166,1,none⟩ = some (.int .i64 a0_1):=(bCe BK166.out 1).trans rfl
            have hcz42_2 : wc.cell? ⟨gb166,2,none⟩ = some (.int .i64 a0_2):=(bCe BK166.out 2).trans rfl
            have hcz42_3 : wc.cell? ⟨gb166,3,none⟩ = some (.int .i64 a0_3):=(bCe BK166.out 3).trans rfl
            have hcz42_4 : wc.cell? ⟨gb166,4,none⟩ = some (.int .i64 a0_4):=(bCe BK166.out 4).trans rfl
            have hcz42_5 : wc.cell? ⟨gb166,5,none⟩ = some (.int .i64 a0_5):=(bCe BK166.out 5).trans rfl
            have hcz42_6 : wc.cell? ⟨gb166,6,none⟩ = some (.int .i64 a0_6):=(bCe BK166.out 6).trans rfl
            have hcz42_7 : wc.cell? ⟨gb166,7,none⟩ = some (.int .i64 a0_7):=(bCe BK166.out 7).trans rfl
            have hcz42_8 : wc.cell? ⟨gb166,8,none⟩ = some (.string a0_8):=(bCe BK166.out 8).trans rfl
            have hcz42_9 : wc.cell? ⟨gb166,9,none⟩ = some (.string a0_9):=(bCe BK166.out 9).trans rfl
            have hcz42_10 : wc.cell? ⟨gb166,10,none⟩ = some (.bool false):=(bCe BK166.out 10).trans rfl
            have hfz42_0:=bFr BK166.out 0
            have hfz42_1:=bFr BK166.out 1
            have hfz42_2:=bFr BK166.out 2
            have hfz42_3:=bFr BK166.out 3
            have hfz42_4:=bFr BK166.out 4
            have hfz42_5:=bFr BK166.out 5
            have hfz42_6:=bFr BK166.out 6
            have hfz42_7:=bFr BK166.out 7
            have hfz42_8:=bFr BK166.out 8
            have hfz42_9:=bFr BK166.out 9
            have hfz42_10:=bFr BK166.out 10
            go_wp2
            repeat (go_quiet (fail);try go_wp2)
            go_meet
            case rel => exact ⟨_,((a0_8.toList != ([] : List UInt8))),(by first | rfl|(simp;done)|(simp [*];done)|(simp [ne_nil_b];done)|(simp [ne_nil_b, *];done)),H',⟨by have:=HJ1.out;have:=HJ18.out;first | omega|exact Nat.le_refl _⟩,⟨by (with_reducible repeat (first|refine bDn ?_ _|refine bDr ?_|refine bAl ?_ _));exact BK166.out⟩,⟨by repeat (first|(with_reducible first|exact HB.out|apply bwA|apply bwN|apply bw1|refine below_set ?_ GE166.out)|exact HB.out)⟩⟩
           ·rw [if_neg c41] at H
            have c41b0 : (a0_4 == 1) = false:=beq_eq_false_iff_ne.mpr c41
            have c41b1 : (a0_4 != 1) = true:=bne_iff_ne.mpr c41
            have H':=aMk H
            clear H
            have hcz43_0 : wc.cell? ⟨gb166,0,none⟩ = some (.string a0_0):=(bCe BK166.out 0).trans rfl
            have hcz43_1 : wc.cell? ⟨gb166,1,none⟩ = some (.int .i64 a0_1):=(bCe BK166.out 1).trans rfl
            have hcz43_2 : wc.cell? ⟨gb166,2,none⟩ = some (.int .i64 a0_2):=(bCe BK166.out 2).trans rfl
            have hcz43_3 : wc.cell? ⟨gb166,3,none⟩ = some (.int .i64 a0_3):=(bCe BK166.out 3).trans rfl
            have hcz43_4 : wc.cell? ⟨gb166,4,none⟩ = some (.int .i64 a0_4):=(bCe BK166.out 4).trans rfl
            have hcz43_5 : wc.cell? ⟨gb166,5,none⟩ = some (.int .i64 a0_5):=(bCe BK166.out 5).trans rfl
            have hcz43_6 : wc.cell? ⟨gb166,6,none⟩ = some (.int .i64 a0_6):=(bCe BK166.out 6).trans rfl
            have hcz43_7 : wc.cell? ⟨gb166,7,none⟩ = some (.int .i64 a0_7):=(bCe BK166.out 7).trans rfl
            have hcz43_8 : wc.cell? ⟨gb166,8,none⟩ = some (.string a0_8):=(bCe BK166.out 8).trans rfl
            have hcz43_9 : wc.cell? ⟨gb166,9,none⟩ = some (.string a0_9):=(bCe BK166.out 9).trans rfl
            have hcz43_10 : wc.cell? ⟨gb166,10,none⟩ = some (.bool false):=(bCe BK166.out 10).trans rfl
            have hfz43_0:=bFr BK166.out 0
            have hfz43_1:=bFr BK166.out 1
            have hfz43_2:=bFr BK166.out 2
            have hfz43_3:=bFr BK166.out 3
            have hfz43_4:=bFr BK166.out 4
            have hfz43_5:=bFr BK166.out 5
            have hfz43_6:=bFr BK166.out 6
            have hfz43_7:=bFr BK166.out 7
            have hfz43_8:=bFr BK166.out 8
            have hfz43_9:=bFr BK166.out 9
            have hfz43_10:=bFr BK166.out 10
            go_wp2
            repeat (go_quiet (fail);try go_wp2)
            go_meet
            case rel => exact ⟨_,(false),(by first | rfl|(simp;done)|(simp [*];done)|(simp [ne_nil_b];done)|(simp [ne_nil_b, *];done)),H',⟨by have:=HJ1.out;have:=HJ18.out;first | omega|exact Nat.le_refl _⟩,⟨by (with_reducible repeat (first|refine bDn ?_ _|refine bDr ?_|refine bAl ?_ _));exact BK166.out⟩,⟨by repeat (first|(with_reducible first|exact HB.out|apply bwA|apply bwN|apply bw1|refine below_set ?_ GE166.out)|exact HB.out)⟩⟩
          ·rw [if_neg c40] at H
           have c40b0 : (a0_9.toList == ([] : List UInt8)) = false:=beq_eq_false_iff_ne.mpr c40
           have c40b1 : (a0_9.toList != ([] : List UInt8)) = true:=bne_iff_ne.mpr c40
           have H':=aMk H
           clear H
           have hcz44_0 : wc.cell? ⟨gb166,0,none⟩ = some (.string a0_0):=(bCe BK166.out 0).trans rfl
           have hcz44_1 : wc.cell? ⟨gb166,1,none⟩ = some (.int .i64 a0_1):=(bCe BK166.out 1).trans rfl
           have hcz44_2 : wc.cell? ⟨gb166,2,none⟩ = some (.int .i64 a0_2):=(bCe BK166.out 2).trans rfl
           have hcz44_3 : wc.cell? ⟨gb166,3,none⟩ = some (.int .i64 a0_3):=(bCe BK166.out 3).trans rfl
           have hcz44_4 : wc.cell? ⟨gb166,4,none⟩ = some (.int .i64 a0_4):=(bCe BK166.out 4).trans rfl
           have hcz44_5 : wc.cell? ⟨gb166,5,none⟩ = some (.int .i64 a0_5):=(bCe BK166.out 5).trans rfl
           have hcz44_6 : wc.cell? ⟨gb166,6,none⟩ = some (.int .i64 a0_6):=(bCe BK166.out 6).trans rfl
           have hcz44_7 : wc.cell? ⟨gb166,7,none⟩ = some (.int .i64 a0_7):=(bCe BK166.out 7).trans rfl
           have hcz44_8 : wc.cell? ⟨gb166,8,none⟩ = some (.string a0_8):=(bCe BK166.out 8).trans rfl
           have hcz44_9 : wc.cell? ⟨gb166,9,none⟩ = some (.string a0_9):=(bCe BK166.out 9).trans rfl
           have hcz44_10 : wc.cell? ⟨gb166,10,none⟩ = some (.bool false):=(bCe BK166.out 10).trans rfl
           have hfz44_0:=bFr BK166.out 0
           have hfz44_1:=bFr BK166.out 1
           have hfz44_2:=bFr BK166.out 2
           have hfz44_3:=bFr BK166.out 3
           have hfz44_4:=bFr BK166.out 4
           have hfz44_5:=bFr BK166.out 5
           have hfz44_6:=bFr BK166.out 6
           have hfz44_7:=bFr BK166.out 7
           have hfz44_8:=bFr BK166.out 8
           have hfz44_9:=bFr BK166.out 9
           have hfz44_10:=bFr BK166.out 10
           go_wp2
           repeat (go_quiet (fail);try go_wp2)
           go_meet
           case rel => exact ⟨_,(true),(by first | rfl|(simp;done)|(simp [*];done)|(simp [ne_nil_b];done)|(simp [ne_nil_b, *];done)),H',⟨by have:=HJ1.out;have:=HJ18.out;first | omega|exact Nat.le_refl _⟩,⟨by (with_reducible repeat (first|refine bDn ?_ _|refine bDr ?_|refine bAl ?_ _));exact BK166.out⟩,⟨by repeat (first|(with_reducible first|exact HB.out|apply bwA|apply bwN|apply bw1|refine below_set ?_ GE166.out)|exact HB.out)⟩⟩
       case rest =>
        clear HC33
        try clear c1
        try clear c2
        try clear p2
        try clear c3
        try clear c4
        try clear c5
        try clear c7
        try clear c9
        try clear c11
        try clear c18
        try clear c21
        try clear c23
        try clear c25
        try clear c26
        try clear c26b0
        try clear c26b1
        try clear c32
        try clear c34
        try clear c34b0
        try clear c34b1
        try clear c34b2
        try clear c36
        try clear c37
        try clear c37b0
        try clear c37b1
        try clear c40
        try clear c40b0
        try clear c40b1
        try clear c41
        try clear c41b0
        try clear c41b1
        try clear hcz13_0
        try clear hcz13_1
        try clear hcz13_10
        try clear hcz13_2
        try clear hcz13_3
        try clear hcz13_4
        try clear hcz13_5
        try clear hcz13_6
        try clear hcz13_7
        try clear hcz13_8
        try clear hcz13_9
        try clear hcz14_0
        try clear hcz14_1
        try clear hcz14_10
        try clear hcz14_2
        try clear hcz14_3
        try clear hcz14_4
        try clear hcz14_5
        try clear hcz14_6
        try clear hcz14_7
        try clear hcz14_8
        try clear hcz14_9
        try clear hcz15_0
        try clear hcz15_1
        try clear hcz15_10
        try clear hcz15_2
        try clear hcz15_3
        try clear hcz15_4
        try clear hcz15_5
        try clear hcz15_6
        try clear hcz15_7
        try clear hcz15_8
        try clear hcz15_9
        try clear hcz16_0
        try clear hcz16_1
        try clear hcz16_10
        try clear hcz16_2
        try clear hcz16_3
        try clear hcz16_4
        try clear hcz16_5
        try clear hcz16_6
        try clear hcz16_7
        try clear hcz16_8
        try clear hcz16_9
        try clear hcz17_0
        try clear hcz17_1
        try clear hcz17_10
        try clear hcz17_2
        try clear hcz17_3
        try clear hcz17_4
        try clear hcz17_5
        try clear hcz17_6
        try clear hcz17_7
        try clear hcz17_8
        try clear hcz17_9
        try clear hcz27_0
        try clear hcz27_1
        try clear hcz27_10
        try clear hcz27_2
        try clear hcz27_3
        try clear hcz27_4
        try clear hcz27_5
        try clear hcz27_6
        try clear hcz27_7
        try clear hcz27_8
        try clear hcz27_9
        try clear hcz28_0
        try clear hcz28_1
        try clear hcz28_10
        try clear hcz28_2
        try clear hcz28_3
        try clear hcz28_4
        try clear hcz28_5
        try clear hcz28_6
        try clear hcz28_7
        try clear hcz28_8
        try clear hcz28_9
        try clear hcz29_0
        try clear hcz29_1
        try clear hcz29_10
        try clear hcz29_2
        try clear hcz29_3
        try clear hcz29_4
        try clear hcz29_5
        try clear hcz29_6
        try clear hcz29_7
        try clear hcz29_8
        try clear hcz29_9
        try clear hcz30_0
        try clear hcz30_1
        try clear hcz30_10
        try clear hcz30_2
        try clear hcz30_3
        try clear hcz30_4
        try clear hcz30_5
        try clear hcz30_6
        try clear hcz30_7
        try clear hcz30_8
        try clear hcz30_9
        try clear hcz31_0
        try clear hcz31_1
        try clear hcz31_10
        try clear hcz31_2
        try clear hcz31_3
        try clear hcz31_4
        try clear hcz31_5
        try clear hcz31_6
        try clear hcz31_7
        try clear hcz31_8
        try clear hcz31_9
        try clear hcz35_0
        try clear hcz35_1
        try clear hcz35_10
        try clear hcz35_2
        try clear hcz35_3
        try clear hcz35_4
        try clear hcz35_5
        try clear hcz35_6
        try clear hcz35_7
        try clear hcz35_8
        try clear hcz35_9
        try clear hcz38_0
        try clear hcz38_1
        try clear hcz38_10
        try clear hcz38_2
        try clear hcz38_3
        try clear hcz38_4
        try clear hcz38_5
        try clear hcz38_6
        try clear hcz38_7
        try clear hcz38_8
        try clear hcz38_9
        try clear hcz39_0
        try clear hcz39_1
        try clear hcz39_10
        try clear hcz39_2
        try clear hcz39_3
        try clear hcz39_4
        try clear hcz39_5
        try clear hcz39_6
        try clear hcz39_7
        try clear hcz39_8
        try clear hcz39_9
        try clear hcz42_0
        try clear hcz42_1
        try clear hcz42_10
        try clear hcz42_2
        try clear hcz42_3
        try clear hcz42_4
        try clear hcz42_5
        try clear hcz42_6
        try clear hcz42_7
        try clear hcz42_8
        try clear hcz42_9
        try clear hcz43_0
        try clear hcz43_1
        try clear hcz43_10
        try clear hcz43_2
        try clear hcz43_3
        try clear hcz43_4
        try clear hcz43_5
        try clear hcz43_6
        try clear hcz43_7
        try clear hcz43_8
        try clear hcz43_9
        try clear hcz44_0
        try clear hcz44_1
        try clear hcz44_10
        try clear hcz44_2
        try clear hcz44_3
        try clear hcz44_4
        try clear hcz44_5
        try clear hcz44_6
        try clear hcz44_7
        try clear hcz44_8
        try clear hcz44_9
        try clear hfz13_0
        try clear hfz13_1
        try clear hfz13_10
        try clear hfz13_2
        try clear hfz13_3
        try clear hfz13_4
        try clear hfz13_5
        try clear hfz13_6
        try clear hfz13_7
        try clear hfz13_8
        try clear hfz13_9
        try clear hfz14_0
        try clear hfz14_1
        try clear hfz14_10
        try clear hfz14_2
        try clear hfz14_3
        try clear hfz14_4
        try clear hfz14_5
        try clear hfz14_6
        try clear hfz14_7
        try clear hfz14_8
        try clear hfz14_9
        try clear hfz15_0
        try clear hfz15_1
        try clear hfz15_10
        try clear hfz15_2
        try clear hfz15_3
        try clear hfz15_4
        try clear hfz15_5
        try clear hfz15_6
        try clear hfz15_7
        try clear hfz15_8
        try clear hfz15_9
        try clear hfz16_0
        try clear hfz16_1
        try clear hfz16_10
        try clear hfz16_2
        try clear hfz16_3
        try clear hfz16_4
        try clear hfz16_5
        try clear hfz16_6
        try clear hfz16_7
        try clear hfz16_8
        try clear hfz16_9
        try clear hfz17_0
        try clear hfz17_1
        try clear hfz17_10
        try clear hfz17_2
        try clear hfz17_3
        try clear hfz17_4
        try clear hfz17_5
        try clear hfz17_6
        try clear hfz17_7
        try clear hfz17_8
        try clear hfz17_9
        try clear hfz27_0
        try clear hfz27_1
        try clear hfz27_10
        try clear hfz27_2
        try clear hfz27_3
        try clear hfz27_4
        try clear hfz27_5
        try clear hfz27_6
        try clear hfz27_7
        try clear hfz27_8
        try clear hfz27_9
        try clear hfz28_0
        try clear hfz28_1
        try clear hfz28_10
        try clear hfz28_2
        try clear hfz28_3
        try clear hfz28_4
        try clear hfz28_5
        try clear hfz28_6
        try clear hfz28_7
        try clear hfz28_8
        try clear hfz28_9
        try clear hfz29_0
        try clear hfz29_1
        try clear hfz29_10
        try clear hfz29_2
        try clear hfz29_3
        try clear hfz29_4
        try clear hfz29_5
        try clear hfz29_6
        try clear hfz29_7
        try clear hfz29_8
        try clear hfz29_9
        try clear hfz30_0
        try clear hfz30_1
        try clear hfz30_10
        try clear hfz30_2
        try clear hfz30_3
        try clear hfz30_4
        try clear hfz30_5
        try clear hfz30_6
        try clear hfz30_7
        try clear hfz30_8
        try clear hfz30_9
        try clear hfz31_0
        try clear hfz31_1
        try clear hfz31_10
        try clear hfz31_2
        try clear hfz31_3
        try clear hfz31_4
        try clear hfz31_5
        try clear hfz31_6
        try clear hfz31_7
        try clear hfz31_8
        try clear hfz31_9
        try clear hfz35_0
        try clear hfz35_1
        try clear hfz35_10
        try clear hfz35_2
        try clear hfz35_3
        try clear hfz35_4
        try clear hfz35_5
        try clear hfz35_6
        try clear hfz35_7
        try clear hfz35_8
        try clear hfz35_9
        try clear hfz38_0
        try clear hfz38_1
        try clear hfz38_10
        try clear hfz38_2
        try clear hfz38_3
        try clear hfz38_4
        try clear hfz38_5
        try clear hfz38_6
        try clear hfz38_7
        try clear hfz38_8
        try clear hfz38_9
        try clear hfz39_0
        try clear hfz39_1
        try clear hfz39_10
        try clear hfz39_2
        try clear hfz39_3
        try clear hfz39_4
        try clear hfz39_5
        try clear hfz39_6
        try clear hfz39_7
        try clear hfz39_8
        try clear hfz39_9
        try clear hfz42_0
        try clear hfz42_1
        try clear hfz42_10
        try clear hfz42_2
        try clear hfz42_3
        try clear hfz42_4
        try clear hfz42_5
        try clear hfz42_6
        try clear hfz42_7
        try clear hfz42_8
        try clear hfz42_9
        try clear hfz43_0
        try clear hfz43_1
        try clear hfz43_10
        try clear hfz43_2
        try clear hfz43_3
        try clear hfz43_4
        try clear hfz43_5
        try clear hfz43_6
        try clear hfz43_7
        try clear hfz43_8
        try clear hfz43_9
        try clear hfz44_0
        try clear hfz44_1
        try clear hfz44_10
        try clear hfz44_2
        try clear hfz44_3
        try clear hfz44_4
        try clear hfz44_5
        try clear hfz44_6
        try clear hfz44_7
        try clear hfz44_8
        try clear hfz44_9
        try clear p2
        obtain ⟨kq,x84_32,rfl,HA,HJ32,BK166,HB⟩:=hcut
        cases kq with
        | zero => exact absurd HA.out (by simp [impl_ConnOK.j2])
        | succ kj32 =>
         have H:=HA.out
         clear HA
         simp only [impl_ConnOK.j2] at H
         by_cases c45 : x84_32 = true
         ·subst c45
          have H1 : (some false) = some r:=by rw [if_pos rfl] at H;exact H
          clear H
          have H:=H1
          clear H1
          obtain rfl:=Option.some.inj H
          go_wp2
          repeat (go_quiet (fail);try go_wp2)
          go_ret
          exact ⟨by first | rfl|(simp [errW_none,errW_some] <;> rfl)|(simp [*,errW_none,errW_some] <;> rfl),by repeat (first|(with_reducible first|exact HB.out|apply bwA|apply bwN|apply bw1|refine below_set ?_ GE166.out)|exact HB.out)⟩
         ·replace c45:=Bool.eq_false_iff.mpr c45
          subst c45
          have H1 : ((impl_behind.f a0_6 a0_5).bind fun t175 => ((impl_oneIf.f a0_10).bind fun t176 => ((impl_oneIf.f (a0_4 == 1)).bind fun t177 => (some (t175 == (wrap64 ((wrap64 ((a0_9.size : Int) + t176)) + t177))))))) = some r:=by rw [if_neg (show ¬ (false = true) by decide)] at H;exact H
          clear H
          have H:=H1
          clear H1
          replace H:=Option.bind_eq_some_iff.mp H
          obtain ⟨t175,A460,H⟩:=H
          replace H : ((impl_oneIf.f a0_10).bind fun t176 => ((impl_oneIf.f (a0_4 == 1)).bind fun t177 => (some (t175 == (wrap64 ((wrap64 ((a0_9.size : Int) + t176)) + t177)))))) = some r:=H
          have A46:=aMk A460
          clear A460
          replace H:=Option.bind_eq_some_iff.mp H
          obtain ⟨t176,A470,H⟩:=H
          replace H : ((impl_oneIf.f (a0_4 == 1)).bind fun t177 => (some (t175 == (wrap64 ((wrap64 ((a0_9.size : Int) + t176)) + t177))))) = some r:=H
          have A47:=aMk A470
          clear A470
          replace H:=Option.bind_eq_some_iff.mp H
          obtain ⟨t177,A480,H⟩:=H
          replace H : (some (t175 == (wrap64 ((wrap64 ((a0_9.size : Int) + t176)) + t177)))) = some r:=H
          have A48:=aMk A480
          clear A480
          obtain rfl:=Option.some.inj H
          have hcz49_0 : wc.cell? ⟨gb166,0,none⟩ = some (.string a0_0):=(bCe BK166.out 0).trans rfl
          have hcz49_1 : wc.cell? ⟨gb166,1,none⟩ = some (.int .i64 a0_1):=(bCe BK166.out 1).trans rfl
          have hcz49_2 : wc.cell? ⟨gb166,2,none⟩ = some (.int .i64 a0_2):=(bCe BK166.out 2).trans rfl
          have hcz49_3 : wc.cell? ⟨gb166,3,none⟩ = some (.int .i64 a0_3):=(bCe BK166.out 3).trans rfl
          have hcz49_4 : wc.cell? ⟨gb166,4,none⟩ = some (.int .i64 a0_4):=(bCe BK166.out 4).trans rfl
          have hcz49_5 : wc.cell? ⟨gb166,5,none⟩ = some (.int .i64 a0_5):=(bCe BK166.out 5).trans rfl
          have hcz49_6 : wc.cell? ⟨gb166,6,none⟩ = some (.int .i64 a0_6):=(bCe BK166.out 6).trans rfl
          have hcz49_7 : wc.cell? ⟨gb166,7,none⟩ = some (.int .i64 a0_7):=(bCe BK166.out 7).trans rfl
          have hcz49_8 : wc.cell? ⟨gb166,8,none⟩ = some (.string a0_8):=(bCe BK166.out 8).trans rfl
          have hcz49_9 : wc.cell? ⟨gb166,9,none⟩ = some (.string a0_9):=(bCe BK166.out 9).trans rfl
          have hcz49_10 : wc.cell? ⟨gb166,10,none⟩ = some (.bool a0_10):=(bCe BK166.out 10).trans rfl
          have hfz49_0:=bFr BK166.out 0
          have hfz49_1:=bFr BK166.out 1
          have hfz49_2:=bFr BK166.out 2
          have hfz49_3:=bFr BK166.out 3
          have hfz49_4:=bFr BK166.out 4
          have hfz49_5:=bFr BK166.out 5
          have hfz49_6:=bFr BK166.out 6
          have hfz49_7:=bFr BK166.out 7
          have hfz49_8:=bFr BK166.out 8
          have hfz49_9:=bFr BK166.out 9
          have hfz49_10:=bFr BK166.out 10
          go_wp2_with (first|(go_at_call 63;(with_reducible refine (impl_behind.calls a0_6 a0_5 t175 _ A46.out).mono ?_);rintro e w' ⟨rfl,⟨nd,rfl⟩⟩;(try first|exact ⟨rfl,_,World.drewN_drewN _ _ _⟩|exact ⟨rfl,_,Eq.trans (World.drewN_drewN _ _ _) (congrArg (World.drewN _) (Nat.add_assoc _ _ _))⟩))|(go_at_call 74;(with_reducible refine (impl_oneIf.calls a0_10 t176 _ A47.out).mono ?_);rintro e w' ⟨rfl,⟨nd,rfl⟩⟩;(try first|exact ⟨rfl,_,World.drewN_drewN _ _ _⟩|exact ⟨rfl,_,Eq.trans (World.drewN_drewN _ _ _) (congrArg (World.drewN _) (Nat.add_assoc _ _ _))⟩))|(go_at_call 74;(with_reducible refine (impl_oneIf.calls (a0_4 == 1) t177 _ A48.out).mono ?_);rintro e w' ⟨rfl,⟨nd,rfl⟩⟩;(try first|exact ⟨rfl,_,World.drewN_drewN _ _ _⟩|exact ⟨rfl,_,Eq.trans (World.drewN_drewN _ _ _) (congrArg (World.drewN _) (Nat.add_assoc _ _ _))⟩)))
          repeat (go_quiet (first|(go_at_call 63;(with_reducible refine (impl_behind.calls a0_6 a0_5 t175 _ A46.out).mono ?_);rintro e w' ⟨rfl,⟨nd,rfl⟩⟩;(try first|exact ⟨rfl,_,World.drewN_drewN _ _ _⟩|exact ⟨rfl,_,Eq.trans (World.drewN_drewN _ _ _) (congrArg (World.drewN _) (Nat.add_assoc _ _ _))⟩))|(go_at_call 74;(with_reducible refine (impl_oneIf.calls a0_10 t176 _ A47.out).mono ?_);rintro e w' ⟨rfl,⟨nd,rfl⟩⟩;(try first|exact ⟨rfl,_,World.drewN_drewN _ _ _⟩|exact ⟨rfl,_,Eq.trans (World.drewN_drewN _ _ _) (congrArg (World.drewN _) (Nat.add_assoc _ _ _))⟩))|(go_at_call 74;(with_reducible refine (impl_oneIf.calls (a0_4 == 1) t177 _ A48.out).mono ?_);rintro e w' ⟨rfl,⟨nd,rfl⟩⟩;(try first|exact ⟨rfl,_,World.drewN_drewN _ _ _⟩|exact ⟨rfl,_,Eq.trans (World.drewN_drewN _ _ _) (congrArg (World.drewN _) (Nat.add_assoc _ _ _))⟩)));try go_wp2_with (first|(go_at_call 63;(with_reducible refine (impl_behind.calls a0_6 a0_5 t175 _ A46.out).mono ?_);rintro e w' ⟨rfl,⟨nd,rfl⟩⟩;(try first|exact ⟨rfl,_,World.drewN_drewN _ _ _⟩|exact ⟨rfl,_,Eq.trans (World.drewN_drewN _ _ _) (congrArg (World.drewN _) (Nat.add_assoc _ _ _))⟩))|(go_at_call 74;(with_reducible refine (impl_oneIf.calls a0_10 t176 _ A47.out).mono ?_);rintro e w' ⟨rfl,⟨nd,rfl⟩⟩;(try first|exact ⟨rfl,_,World.drewN_drewN _ _ _⟩|exact ⟨rfl,_,Eq.trans (World.drewN_drewN _ _ _) (congrArg (World.drewN _) (Nat.add_assoc _ _ _))⟩))|(go_at_call 74;(with_reducible refine (impl_oneIf.calls (a0_4 == 1) t177 _ A48.out).mono ?_);rintro e w' ⟨rfl,⟨nd,rfl⟩⟩;(try first|exact ⟨rfl,_,World.drewN_drewN _ _ _⟩|exact ⟨rfl,_,Eq.trans (World.drewN_drewN _ _ _) (congrArg (World.drewN _) (Nat.add_assoc _ _ _))⟩))))
          go_ret
          exact ⟨by first | rfl|(simp [errW_none,errW_some] <;> rfl)|(simp [*,errW_none,errW_some] <;> rfl),by repeat (first|(with_reducible first|exact HB.out|apply bwA|apply bwN|apply bw1|refine below_set ?_ GE166.out)|exact HB.out)⟩
end
section
/-! ### impl_onward: function 112 -/
def impl_onward.f (a0 : Int) (a1 : Int) : Option (Int):=some (Int.tmod (wrap64 (a0 + a1)) 4294967296)
set_option maxHeartbeats 8000000 in
set_option maxRecDepth 100000 in
theorem impl_onward.calls (a0 : Int) (a1 : Int) (r : Int) (w : World) (h : impl_onward.f a0 a1 = some r) :
  Calls Try.prog 112 #[.int .i64 a0,.int .i64 a1] w fun e w' => e = .returned (.int .i64 r) ∧ Drawn0 w w':=by
 have H : (some (Int.tmod (wrap64 (a0 + a1)) 4294967296)) = some r:=h
 clear h
 obtain rfl:=Option.some.inj H
 go_enter Try.func112,Try.ntmps112
 go_wp2
 go_ret
 exact ⟨by first | rfl|(simp;done)|(simp [*];done)|(simp [ne_nil_b];done)|(simp [ne_nil_b, *];done),by repeat (first|exact Drawn0.refl _|apply Drawn0.step)⟩
end
section
/-- A state of type 34 at block g of W;what its slices lead to came in by w0. -/
def IsS34 (w0 W : World) (g : Nat) (f0 : ByteArray) (f1 : Int) (f2 : Int) (f3 : Int) (f4 : Int) (f5 : Int) (f6 : Int) (f7 : Int) (f8 : ByteArray) (f9 : ByteArray) (f10 : Bool) : Prop:=W.heap[g]? = some (.cells #[.string f0,.int .i64 f1,.int .i64 f2,.int .i64 f3,.int .i64 f4,.int .i64 f5,.int .i64 f6,.int .i64 f7,.string f8,.string f9,.bool f10] 34 (0,0)) ∧ w0.heap.size ≤ g
theorem IsS34.grown {w0 W : World} {g : Nat} {f0 : ByteArray} {f1 : Int} {f2 : Int} {f3 : Int} {f4 : Int} {f5 : Int} {f6 : Int} {f7 : Int} {f8 : ByteArray} {f9 : ByteArray} {f10 : Bool} {W1 : World} {row : Option Nat} (h : IsS34 w0 W g f0 f1 f2 f3 f4 f5 f6 f7 f8 f9 f10) (hw : W.grownBy W1 row) (hne : some g ≠ row) : IsS34 w0 W1 g f0 f1 f2 f3 f4 f5 f6 f7 f8 f9 f10:=by
 obtain ⟨hb,hg⟩:=h
 exact ⟨blk_grown hb hw hne,hg⟩
theorem IsS34.kept {w0 W : World} {g : Nat} {f0 : ByteArray} {f1 : Int} {f2 : Int} {f3 : Int} {f4 : Int} {f5 : Int} {f6 : Int} {f7 : Int} {f8 : ByteArray} {f9 : ByteArray} {f10 : Bool} {W1 : World} {S : Nat → Prop} (h : IsS34 w0 W g f0 f1 f2 f3 f4 f5 f6 f7 f8 f9 f10) (hk : Kept W W1 S) (hne : ¬ S g) : IsS34 w0 W1 g f0 f1 f2 f3 f4 f5 f6 f7 f8 f9 f10:=by
 obtain ⟨hb,hg⟩:=h
 exact ⟨blk_kept hb hk hne,hg⟩
theorem IsS34.below {w0 W : World} {g : Nat} {f0 : ByteArray} {f1 : Int} {f2 : Int} {f3 : Int} {f4 : Int} {f5 : Int} {f6 : Int} {f7 : Int} {f8 : ByteArray} {f9 : ByteArray} {f10 : Bool} {W1 : World} (h : IsS34 w0 W g f0 f1 f2 f3 f4 f5 f6 f7 f8 f9 f10) (hw : Below W.heap.size W W1) : IsS34 w0 W1 g f0 f1 f2 f3 f4 f5 f6 f7 f8 f9 f10:=h.grown (grown_of_below hw none) (by simp)
theorem IsS34.alloc {w0 W : World} {g : Nat} {f0 : ByteArray} {f1 : Int} {f2 : Int} {f3 : Int} {f4 : Int} {f5 : Int} {f6 : Int} {f7 : Int} {f8 : ByteArray} {f9 : ByteArray} {f10 : Bool} (h : IsS34 w0 W g f0 f1 f2 f3 f4 f5 f6 f7 f8 f9 f10) (o : Obj) : IsS34 w0 (W.alloc o) g f0 f1 f2 f3 f4 f5 f6 f7 f8 f9 f10:=h.below (bwA (Below.refl _ _) o)
theorem IsS34.drewN {w0 W : World} {g : Nat} {f0 : ByteArray} {f1 : Int} {f2 : Int} {f3 : Int} {f4 : Int} {f5 : Int} {f6 : Int} {f7 : Int} {f8 : ByteArray} {f9 : ByteArray} {f10 : Bool} (h : IsS34 w0 W g f0 f1 f2 f3 f4 f5 f6 f7 f8 f9 f10) (m : Nat) : IsS34 w0 (W.drewN m) g f0 f1 f2 f3 f4 f5 f6 f7 f8 f9 f10:=h
theorem IsS34.drew {w0 W : World} {g : Nat} {f0 : ByteArray} {f1 : Int} {f2 : Int} {f3 : Int} {f4 : Int} {f5 : Int} {f6 : Int} {f7 : Int} {f8 : ByteArray} {f9 : ByteArray} {f10 : Bool} (h : IsS34 w0 W g f0 f1 f2 f3 f4 f5 f6 f7 f8 f9 f10) : IsS34 w0 W.drew g f0 f1 f2 f3 f4 f5 f6 f7 f8 f9 f10:=h
theorem IsS34.at_ {w0 W : World} {g : Nat} {f0 : ByteArray} {f1 : Int} {f2 : Int} {f3 : Int} {f4 : Int} {f5 : Int} {f6 : Int} {f7 : Int} {f8 : ByteArray} {f9 : ByteArray} {f10 : Bool} {w' : World} {m : Nat} (hq : W.drewN m = w') (h : IsS34 w0 W g f0 f1 f2 f3 f4 f5 f6 f7 f8 f9 f10) : IsS34 w0 w' g f0 f1 f2 f3 f4 f5 f6 f7 f8 f9 f10:=by subst hq;exact IsS34.drewN h m
theorem IsS34.apart {w0 W : World} {g : Nat} {f0 : ByteArray} {f1 : Int} {f2 : Int} {f3 : Int} {f4 : Int} {f5 : Int} {f6 : Int} {f7 : Int} {f8 : ByteArray} {f9 : ByteArray} {f10 : Bool} {α : Type} {d : Kd α} {e : Nat} {base : Nat} {ok : Nat → Prop} {v : Value} {xs : List α} (h : IsS34 w0 W g f0 f1 f2 f3 f4 f5 f6 f7 f8 f9 f10) (ho : d.R e W base ok v xs) (ht : ∀ q,q ∈ e :: d.E → q ≠ 34) : d.R e W base (fun k => ok k ∧ k ≠ g) v xs:=by
 obtain ⟨hb,hg⟩:=h
 exact Kd.R_types ho hb ht
theorem IsS34.own_ne {w0 W : World} {g : Nat} {f0 : ByteArray} {f1 : Int} {f2 : Int} {f3 : Int} {f4 : Int} {f5 : Int} {f6 : Int} {f7 : Int} {f8 : ByteArray} {f9 : ByteArray} {f10 : Bool} {α : Type} {d : Kd α} {e : Nat} {base : Nat} {ok : Nat → Prop} {v : Value} {xs : List α} (h : IsS34 w0 W g f0 f1 f2 f3 f4 f5 f6 f7 f8 f9 f10) (ho : d.R e W base ok v xs) (ht : e ≠ 34) : some g ≠ v.ownBlock:=by
 obtain ⟨hb,hg⟩:=h
 exact Kd.R_ne ho hb ht
theorem IsS34.lt {w0 W : World} {g : Nat} {f0 : ByteArray} {f1 : Int} {f2 : Int} {f3 : Int} {f4 : Int} {f5 : Int} {f6 : Int} {f7 : Int} {f8 : ByteArray} {f9 : ByteArray} {f10 : Bool} (h : IsS34 w0 W g f0 f1 f2 f3 f4 f5 f6 f7 f8 f9 f10) : g < W.heap.size:=by
 obtain ⟨hb,hg⟩:=h
 exact blk_lt hb
theorem IsS34.ge {w0 W : World} {g : Nat} {f0 : ByteArray} {f1 : Int} {f2 : Int} {f3 : Int} {f4 : Int} {f5 : Int} {f6 : Int} {f7 : Int} {f8 : ByteArray} {f9 : ByteArray} {f10 : Bool} (h : IsS34 w0 W g f0 f1 f2 f3 f4 f5 f6 f7 f8 f9 f10) : w0.heap.size ≤ g:=by
 obtain ⟨hb,hg⟩:=h
 exact hg
theorem IsS34.far {w0 W : World} {g : Nat} {f0 : ByteArray} {f1 : Int} {f2 : Int} {f3 : Int} {f4 : Int} {f5 : Int} {f6 : Int} {f7 : Int} {f8 : ByteArray} {f9 : ByteArray} {f10 : Bool} {p : Addr} (h : IsS34 w0 W g f0 f1 f2 f3 f4 f5 f6 f7 f8 f9 f10) (hne : g ≠ p.block) (u : Value) : IsS34 w0 (W.setCell p u) g f0 f1 f2 f3 f4 f5 f6 f7 f8 f9 f10:=by
 obtain ⟨hb,hg⟩:=h
 exact ⟨blk_far hb hne u,hg⟩
theorem cellS34_0 {W : World} {g : Nat} {f0 : ByteArray} {f1 : Int} {f2 : Int} {f3 : Int} {f4 : Int} {f5 : Int} {f6 : Int} {f7 : Int} {f8 : ByteArray} {f9 : ByteArray} {f10 : Bool} (h : W.heap[g]? = some (.cells #[.string f0,.int .i64 f1,.int .i64 f2,.int .i64 f3,.int .i64 f4,.int .i64 f5,.int .i64 f6,.int .i64 f7,.string f8,.string f9,.bool f10] 34 (0,0))) : W.cell? ⟨g,0,none⟩ = some (.string f0):=(bCe h 0).trans rfl
theorem IsS34.set_0 {w0 W : World} {g : Nat} {f0 : ByteArray} {f1 : Int} {f2 : Int} {f3 : Int} {f4 : Int} {f5 : Int} {f6 : Int} {f7 : Int} {f8 : ByteArray} {f9 : ByteArray} {f10 : Bool} (h : IsS34 w0 W g f0 f1 f2 f3 f4 f5 f6 f7 f8 f9 f10) (x : ByteArray) : IsS34 w0 (W.setCell ⟨g,0,none⟩ (.string x)) g x f1 f2 f3 f4 f5 f6 f7 f8 f9 f10:=by
 obtain ⟨hb,hg⟩:=h
 exact ⟨by simpa using blk_set hb 0 (.string x),hg⟩
theorem cellS34_1 {W : World} {g : Nat} {f0 : ByteArray} {f1 : Int} {f2 : Int} {f3 : Int} {f4 : Int} {f5 : Int} {f6 : Int} {f7 : Int} {f8 : ByteArray} {f9 : ByteArray} {f10 : Bool} (h : W.heap[g]? = some (.cells #[.string f0,.int .i64 f1,.int .i64 f2,.int .i64 f3,.int .i64 f4,.int .i64 f5,.int .i64 f6,.int .i64 f7,.string f8,.string f9,.bool f10] 34 (0,0))) : W.cell? ⟨g,1,none⟩ = some (.int .i64 f1):=(bCe h 1).trans rfl
theorem IsS34.set_1 {w0 W : World} {g : Nat} {f0 : ByteArray} {f1 : Int} {f2 : Int} {f3 : Int} {f4 : Int} {f5 : Int} {f6 : Int} {f7 : Int} {f8 : ByteArray} {f9 : ByteArray} {f10 : Bool} (h : IsS34 w0 W g f0 f1 f2 f3 f4 f5 f6 f7 f8 f9 f10) (x : Int) : IsS34 w0 (W.setCell ⟨g,1,none⟩ (.int .i64 x)) g f0 x f2 f3 f4 f5 f6 f7 f8 f9 f10:=by
 obtain ⟨hb,hg⟩:=h
 exact ⟨by simpa using blk_set hb 1 (.int .i64 x),hg⟩
theorem cellS34_2 {W : World} {g : Nat} {f0 : ByteArray} {f1 : Int} {f2 : Int} {f3 : Int} {f4 : Int} {f5 : Int} {f6 : Int} {f7 : Int} {f8 : ByteArray} {f9 : ByteArray} {f10 : Bool} (h : W.heap[g]? = some (.cells #[.string f0,.int .i64 f1,.int .i64 f2,.int .i64 f3,.int .i64 f4,.int .i64 f5,.int .i64 f6,.int .i64 f7,.string f8,.string f9,.bool f10] 34 (0,0))) : W.cell? ⟨g,2,none⟩ = some (.int .i64 f2):=(bCe h 2).trans rfl
theorem IsS34.set_2 {w0 W : World} {g : Nat} {f0 : ByteArray} {f1 : Int} {f2 : Int} {f3 : Int} {f4 : Int} {f5 : Int} {f6 : Int} {f7 : Int} {f8 : ByteArray} {f9 : ByteArray} {f10 : Bool} (h : IsS34 w0 W g f0 f1 f2 f3 f4 f5 f6 f7 f8 f9 f10) (x : Int) : IsS34 w0 (W.setCell ⟨g,2,none⟩ (.int .i64 x)) g f0 f1 x f3 f4 f5 f6 f7 f8 f9 f10:=by
 obtain ⟨hb,hg⟩:=h
 exact ⟨by simpa using blk_set hb 2 (.int .i64 x),hg⟩
theorem cellS34_3 {W : World} {g : Nat} {f0 : ByteArray} {f1 : Int} {f2 : Int} {f3 : Int} {f4 : Int} {f5 : Int} {f6 : Int} {f7 : Int} {f8 : ByteArray} {f9 : ByteArray} {f10 : Bool} (h : W.heap[g]? = some (.cells #[.string f0,.int .i64 f1,.int .i64 f2,.int .i64 f3,.int .i64 f4,.int .i64 f5,.int .i64 f6,.int .i64 f7,.string f8,.string f9,.bool f10] 34 (0,0))) : W.cell? ⟨g,3,none⟩ = some (.int .i64 f3):=(bCe h 3).trans rfl
theorem IsS34.set_3 {w0 W : World} {g : Nat} {f0 : ByteArray} {f1 : Int} {f2 : Int} {f3 : Int} {f4 : Int} {f5 : Int} {f6 : Int} {f7 : Int} {f8 : ByteArray} {f9 : ByteArray} {f10 : Bool} (h : IsS34 w0 W g f0 f1 f2 f3 f4 f5 f6 f7 f8 f9 f10) (x : Int) : IsS34 w0 (W.setCell ⟨g,3,none⟩ (.int .i64 x)) g f0 f1 f2 x f4 f5 f6 f7 f8 f9 f10:=by
 obtain ⟨hb,hg⟩:=h
 exact ⟨by simpa using blk_set hb 3 (.int .i64 x),hg⟩
theorem cellS34_4 {W : World} {g : Nat} {f0 : ByteArray} {f1 : Int} {f2 : Int} {f3 : Int} {f4 : Int} {f5 : Int} {f6 : Int} {f7 : Int} {f8 : ByteArray} {f9 : ByteArray} {f10 : Bool} (h : W.heap[g]? = some (.cells #[.string f0,.int .i64 f1,.int .i64 f2,.int .i64 f3,.int .i64 f4,.int .i64 f5,.int .i64 f6,.int .i64 f7,.string f8,.string f9,.bool f10] 34 (0,0))) : W.cell? ⟨g,4,none⟩ = some (.int .i64 f4):=(bCe h 4).trans rfl
theorem IsS34.set_4 {w0 W : World} {g : Nat} {f0 : ByteArray} {f1 : Int} {f2 : Int} {f3 : Int} {f4 : Int} {f5 : Int} {f6 : Int} {f7 : Int} {f8 : ByteArray} {f9 : ByteArray} {f10 : Bool} (h : IsS34 w0 W g f0 f1 f2 f3 f4 f5 f6 f7 f8 f9 f10) (x : Int) : IsS34 w0 (W.setCell ⟨g,4,none⟩ (.int .i64 x)) g f0 f1 f2 f3 x f5 f6 f7 f8 f9 f10:=by
 obtain ⟨hb,hg⟩:=h
 exact ⟨by simpa using blk_set hb 4 (.int .i64 x),hg⟩
theorem cellS34_5 {W : World} {g : Nat} {f0 : ByteArray} {f1 : Int} {f2 : Int} {f3 : Int} {f4 : Int} {f5 : Int} {f6 : Int} {f7 : Int} {f8 : ByteArray} {f9 : ByteArray} {f10 : Bool} (h : W.heap[g]? = some (.cells #[.string f0,.int .i64 f1,.int .i64 f2,.int .i64 f3,.int .i64 f4,.int .i64 f5,.int .i64 f6,.int .i64 f7,.string f8,.string f9,.bool f10] 34 (0,0))) : W.cell? ⟨g,5,none⟩ = some (.int .i64 f5):=(bCe h 5).trans rfl
theorem IsS34.set_5 {w0 W : World} {g : Nat} {f0 : ByteArray} {f1 : Int} {f2 : Int} {f3 : Int} {f4 : Int} {f5 : Int} {f6 : Int} {f7 : Int} {f8 : ByteArray} {f9 : ByteArray} {f10 : Bool} (h : IsS34 w0 W g f0 f1 f2 f3 f4 f5 f6 f7 f8 f9 f10) (x : Int) : IsS34 w0 (W.setCell ⟨g,5,none⟩ (.int .i64 x)) g f0 f1 f2 f3 f4 x f6 f7 f8 f9 f10:=by
 obtain ⟨hb,hg⟩:=h
 exact ⟨by simpa using blk_set hb 5 (.int .i64 x),hg⟩
theorem cellS34_6 {W : World} {g : Nat} {f0 : ByteArray} {f1 : Int} {f2 : Int} {f3 : Int} {f4 : Int} {f5 : Int} {f6 : Int} {f7 : Int} {f8 : ByteArray} {f9 : ByteArray} {f10 : Bool} (h : W.heap[g]? = some (.cells #[.string f0,.int .i64 f1,.int .i64 f2,.int .i64 f3,.int .i64 f4,.int .i64 f5,.int .i64 f6,.int .i64 f7,.string f8,.string f9,.bool f10] 34 (0,0))) : W.cell? ⟨g,6,none⟩ = some (.int .i64 f6):=(bCe h 6).trans rfl
theorem IsS34.set_6 {w0 W : World} {g : Nat} {f0 : ByteArray} {f1 : Int} {f2 : Int} {f3 : Int} {f4 : Int} {f5 : Int} {f6 : Int} {f7 : Int} {f8 : ByteArray} {f9 : ByteArray} {f10 : Bool} (h : IsS34 w0 W g f0 f1 f2 f3 f4 f5 f6 f7 f8 f9 f10) (x : Int) : IsS34 w0 (W.setCell ⟨g,6,none⟩ (.int .i64 x)) g f0 f1 f2 f3 f4 f5 x f7 f8 f9 f10:=by
 obtain ⟨hb,hg⟩:=h
 exact ⟨by simpa using blk_set hb 6 (.int .i64 x),hg⟩
theorem cellS34_7 {W : World} {g : Nat} {f0 : ByteArray} {f1 : Int} {f2 : Int} {f3 : Int} {f4 : Int} {f5 : Int} {f6 : Int} {f7 : Int} {f8 : ByteArray} {f9 : ByteArray} {f10 : Bool} (h : W.heap[g]? = some (.cells #[.string f0,.int .i64 f1,.int .i64 f2,.int .i64 f3,.int .i64 f4,.int .i64 f5,.int .i64 f6,.int .i64 f7,.string f8,.string f9,.bool f10] 34 (0,0))) : W.cell? ⟨g,7,none⟩ = some (.int .i64 f7):=(bCe h 7).trans rfl
theorem IsS34.set_7 {w0 W : World} {g : Nat} {f0 : ByteArray} {f1 : Int} {f2 : Int} {f3 : Int} {f4 : Int} {f5 : Int} {f6 : Int} {f7 : Int} {f8 : ByteArray} {f9 : ByteArray} {f10 : Bool} (h : IsS34 w0 W g f0 f1 f2 f3 f4 f5 f6 f7 f8 f9 f10) (x : Int) : IsS34 w0 (W.setCell ⟨g,7,none⟩ (.int .i64 x)) g f0 f1 f2 f3 f4 f5 f6 x f8 f9 f10:=by
 obtain ⟨hb,hg⟩:=h
 exact ⟨by simpa using blk_set hb 7 (.int .i64 x),hg⟩
theorem cellS34_8 {W : World} {g : Nat} {f0 : ByteArray} {f1 : Int} {f2 : Int} {f3 : Int} {f4 : Int} {f5 : Int} {f6 : Int} {f7 : Int} {f8 : ByteArray} {f9 : ByteArray} {f10 : Bool} (h : W.heap[g]? = some (.cells #[.string f0,.int .i64 f1,.int .i64 f2,.int .i64 f3,.int .i64 f4,.int .i64 f5,.int .i64 f6,.int .i64 f7,.string f8,.string f9,.bool f10] 34 (0,0))) : W.cell? ⟨g,8,none⟩ = some (.string f8):=(bCe h 8).trans rfl
theorem IsS34.set_8 {w0 W : World} {g : Nat} {f0 : ByteArray} {f1 : Int} {f2 : Int} {f3 : Int} {f4 : Int} {f5 : Int} {f6 : Int} {f7 : Int} {f8 : ByteArray} {f9 : ByteArray} {f10 : Bool} (h : IsS34 w0 W g f0 f1 f2 f3 f4 f5 f6 f7 f8 f9 f10) (x : ByteArray) : IsS34 w0 (W.setCell ⟨g,8,none⟩ (.string x)) g f0 f1 f2 f3 f4 f5 f6 f7 x f9 f10:=by
 obtain ⟨hb,hg⟩:=h
 exact ⟨by simpa using blk_set hb 8 (.string x),hg⟩
theorem cellS34_9 {W : World} {g : Nat} {f0 : ByteArray} {f1 : Int} {f2 : Int} {f3 : Int} {f4 : Int} {f5 : Int} {f6 : Int} {f7 : Int} {f8 : ByteArray} {f9 : ByteArray} {f10 : Bool} (h : W.heap[g]? = some (.cells #[.string f0,.int .i64 f1,.int .i64 f2,.int .i64 f3,.int .i64 f4,.int .i64 f5,.int .i64 f6,.int .i64 f7,.string f8,.string f9,.bool f10] 34 (0,0))) : W.cell? ⟨g,9,none⟩ = some (.string f9):=(bCe h 9).trans rfl
theorem IsS34.set_9 {w0 W : World} {g : Nat} {f0 : ByteArray} {f1 : Int} {f2 : Int} {f3 : Int} {f4 : Int} {f5 : Int} {f6 : Int} {f7 : Int} {f8 : ByteArray} {f9 : ByteArray} {f10 : Bool} (h : IsS34 w0 W g f0 f1 f2 f3 f4 f5 f6 f7 f8 f9 f10) (x : ByteArray) : IsS34 w0 (W.setCell ⟨g,9,none⟩ (.string x)) g f0 f1 f2 f3 f4 f5 f6 f7 f8 x f10:=by
 obtain ⟨hb,hg⟩:=h
 exact ⟨by simpa using blk_set hb 9 (.string x),hg⟩
theorem cellS34_10 {W : World} {g : Nat} {f0 : ByteArray} {f1 : Int} {f2 : Int} {f3 : Int} {f4 : Int} {f5 : Int} {f6 : Int} {f7 : Int} {f8 : ByteArray} {f9 : ByteArray} {f10 : Bool} (h : W.heap[g]? = some (.cells #[.string f0,.int .i64 f1,.int .i64 f2,.int .i64 f3,.int .i64 f4,.int .i64 f5,.int .i64 f6,.int .i64 f7,.string f8,.string f9,.bool f10] 34 (0,0))) : W.cell? ⟨g,10,none⟩ = some (.bool f10):=(bCe h 10).trans rfl
theorem IsS34.set_10 {w0 W : World} {g : Nat} {f0 : ByteArray} {f1 : Int} {f2 : Int} {f3 : Int} {f4 : Int} {f5 : Int} {f6 : Int} {f7 : Int} {f8 : ByteArray} {f9 : ByteArray} {f10 : Bool} (h : IsS34 w0 W g f0 f1 f2 f3 f4 f5 f6 f7 f8 f9 f10) (x : Bool) : IsS34 w0 (W.setCell ⟨g,10,none⟩ (.bool x)) g f0 f1 f2 f3 f4 f5 f6 f7 f8 f9 x:=by
 obtain ⟨hb,hg⟩:=h
 exact ⟨by simpa using blk_set hb 10 (.bool x),hg⟩
theorem IsS34.new (w0 W : World) (f0 : ByteArray) (f1 : Int) (f2 : Int) (f3 : Int) (f4 : Int) (f5 : Int) (f6 : Int) (f7 : Int) (f8 : ByteArray) (f9 : ByteArray) (f10 : Bool) (hB : Below w0.heap.size w0 W) : IsS34 w0 (W.alloc (.cells #[.string f0,.int .i64 f1,.int .i64 f2,.int .i64 f3,.int .i64 f4,.int .i64 f5,.int .i64 f6,.int .i64 f7,.string f8,.string f9,.bool f10] 34)) W.heap.size f0 f1 f2 f3 f4 f5 f6 f7 f8 f9 f10:=⟨by simpa using heap_alloc_new W _,hB.size⟩
end
section
/-! ### impl_Conn_tell: function 113 -/
def impl_Conn_tell.f (s0_0 : ByteArray) (s0_1 : Int) (s0_2 : Int) (s0_3 : Int) (s0_4 : Int) (s0_5 : Int) (s0_6 : Int) (s0_7 : Int) (s0_8 : ByteArray) (s0_9 : ByteArray) (s0_10 : Bool) (a1 : Int) (a2 : Int) (a3 : ByteArray) : Option (Int × Int × Int × Int × Int × Int × ByteArray):=some (80,s0_2,a1,s0_7,a2,1000,a3)
def impl_Conn_tell.T1 : Bool × List (List Nat × List Nat):=(true,[([],[]),([0],[0]),([1],[1]),([2],[2]),([],[]),([],[]),([5],[5]),([6],[6]),([7],[7]),([],[]),([],[]),([3,4,8,9,10],[3,4,8,9,10]),([11,0,1,2,3,4,5,6,7,8,9,10,11],[11])])
def impl_Conn_tell.B1 : List Nat:=[0,1,3,7,0,0,32,96,224,0,0,2047,4095]
theorem impl_Conn_tell.tab1 : rtab .any (opsOf Try.f113 1) = impl_Conn_tell.T1:=by kernel_rfl
theorem impl_Conn_tell.bits1 : waitsOk impl_Conn_tell.T1.2 impl_Conn_tell.B1 = true:=by kernel_rfl
set_option maxHeartbeats 8000000 in
set_option maxRecDepth 100000 in
theorem impl_Conn_tell.calls (g : Nat) (s0_0 : ByteArray) (s0_1 : Int) (s0_2 : Int) (s0_3 : Int) (s0_4 : Int) (s0_5 : Int) (s0_6 : Int) (s0_7 : Int) (s0_8 : ByteArray) (s0_9 : ByteArray) (s0_10 : Bool) (a1 : Int) (a2 : Int) (a3 : ByteArray) (r1 : Int) (r2 : Int) (r3 : Int) (r4 : Int) (r5 : Int) (r6 : Int) (r7 : ByteArray) (w0 w : World) (hI : IsS34 w0 w g s0_0 s0_1 s0_2 s0_3 s0_4 s0_5 s0_6 s0_7 s0_8 s0_9 s0_10) (hB : Below w0.heap.size w0 w) (h : impl_Conn_tell.f s0_0 s0_1 s0_2 s0_3 s0_4 s0_5 s0_6 s0_7 s0_8 s0_9 s0_10 a1 a2 a3 = some (r1,r2,r3,r4,r5,r6,r7)) :
  Calls Try.prog 113 #[.pointer (some ⟨g,0,none⟩),.int .i64 a1,.int .i64 a2,.string a3] w fun e w' => e = .returned (.agg #[.int .i64 r1,.int .i64 r2,.int .i64 r3,.int .i64 r4,.int .i64 r5,.int .i64 r6,.string r7]) ∧ IsS34 w0 w' g s0_0 s0_1 s0_2 s0_3 s0_4 s0_5 s0_6 s0_7 s0_8 s0_9 s0_10 ∧ Below w0.heap.size w0 w' ∧ KeepBut w w' g none:=by
 have hu53:=Try.underlying53
 have HI0:=aMk hI
 have HK:=aMk (KeepBut.refl w g none)
 have HL:=aMk hB.size
 clear hI
 have HW0:=aMk hB.size
 have HB:=aMk hB
 clear hB
 have H : (some (80,s0_2,a1,s0_7,a2,1000,a3)) = some (r1,r2,r3,r4,r5,r6,r7):=h
 clear h
 simp only [Option.some.injEq,Prod.mk.injEq] at H
 obtain ⟨rfl,rfl,rfl,rfl,rfl,rfl,rfl⟩:=H
 go_enter Try.func113,Try.ntmps113
 try go_wp2_with (first|((with_reducible refine gate_dst (N:=8) rfl ?_);refine box_event ?hg (N:=8) ?hd (cs:=#[.int .i64 0,.int .i64 0,.int .i64 0,.int .i64 0,.int .i64 0,.int .i64 0,.string (⟨#[]⟩ : ByteArray)]) (t:=53) ?hr ?_;(case hd => rfl);(case hg => rfl);(case hr => first|(go_simp;done)|(go_simp;rfl));intro gb359 hg w5 hbox hb;have n0_:=aMk (IsS34.below (by repeat (first|(with_reducible first|exact HI0.out|apply IsS34.alloc|apply IsS34.drewN|apply IsS34.drew|apply IsS34.set_0|apply IsS34.set_1|apply IsS34.set_2|apply IsS34.set_3|apply IsS34.set_4|apply IsS34.set_5|apply IsS34.set_6|apply IsS34.set_7|apply IsS34.set_8|apply IsS34.set_9|apply IsS34.set_10)|exact HI0.out)) hb);have n1_:=aMk (KeepBut.trans (by repeat (first|(with_reducible first|exact HK.out|apply KeepBut.set_|apply keep_drewN|apply keep_drew|apply keep_alloc)|exact HK.out)) (KeepBut.of_below hb g none) (.inl rfl));have n2_:=aMk (below_step (by repeat (first|(with_reducible first|exact HB.out|apply bwA|apply bwN|apply bw1|refine below_set ?_ (IsS34.ge HI0.out))|exact HB.out)) hb);have n3_:=aMk (hbox);have n4_:=aMk ((by rw [hg];exact (keep_size (w:=w) (g:=g) (row:=none) (by repeat (first|(with_reducible first|exact HK.out|apply KeepBut.set_|apply keep_drewN|apply keep_drew|apply keep_alloc)|exact HK.out))) : w.heap.size ≤ gb359));have n5_:=aMk ((Nat.le_trans HW0.out (by rw [hg];exact (keep_size (w:=w) (g:=g) (row:=none) (by repeat (first|(with_reducible first|exact HK.out|apply KeepBut.set_|apply keep_drewN|apply keep_drew|apply keep_alloc)|exact HK.out))) : w.heap.size ≤ gb359) : w0.heap.size ≤ gb359));have n6_:=aMk ((by rw [hg];exact Nat.ne_of_lt (IsS34.lt (show IsS34 w0 _ g s0_0 s0_1 s0_2 s0_3 s0_4 s0_5 s0_6 s0_7 s0_8 s0_9 s0_10 from by repeat (first|(with_reducible first|exact HI0.out|apply IsS34.alloc|apply IsS34.drewN|apply IsS34.drew|apply IsS34.set_0|apply IsS34.set_1|apply IsS34.set_2|apply IsS34.set_3|apply IsS34.set_4|apply IsS34.set_5|apply IsS34.set_6|apply IsS34.set_7|apply IsS34.set_8|apply IsS34.set_9|apply IsS34.set_10)|exact HI0.out))) : g ≠ gb359));have n7_:=aMk ((by rw [hg];exact Nat.ne_of_gt (IsS34.lt (show IsS34 w0 _ g s0_0 s0_1 s0_2 s0_3 s0_4 s0_5 s0_6 s0_7 s0_8 s0_9 s0_10 from by repeat (first|(with_reducible first|exact HI0.out|apply IsS34.alloc|apply IsS34.drewN|apply IsS34.drew|apply IsS34.set_0|apply IsS34.set_1|apply IsS34.set_2|apply IsS34.set_3|apply IsS34.set_4|apply IsS34.set_5|apply IsS34.set_6|apply IsS34.set_7|apply IsS34.set_8|apply IsS34.set_9|apply IsS34.set_10)|exact HI0.out))) : gb359 ≠ g));clear HI0;clear HK;clear HB;have HI0:=n0_;have HK:=n1_;have HB:=n2_;have BK359:=n3_;have GW359:=n4_;have GE359:=n5_;have NB0_359:=n6_;have NB359_0:=n7_;clear n0_ n1_ n2_ n3_ n4_ n5_ n6_ n7_;clear hb hbox hg))
 have n0_:=aMk (bDr BK359.out)
 have n1_:=aMk (IsS34.drew HI0.out)
 have n2_:=aMk (keep_drew HK.out)
 have n3_:=aMk (bw1 HB.out)
 clear BK359
 clear HI0
 clear HK
 clear HB
 have BK359:=n0_
 have HI0:=n1_
 have HK:=n2_
 have HB:=n3_
 clear n0_ n1_ n2_ n3_
 refine start_ (n:=13) (S:=fun w' => w'.cell? ⟨g,0,none⟩ = some (.string s0_0) ∧ w'.cell? ⟨g,1,none⟩ = some (.int .i64 s0_1) ∧ w'.cell? ⟨g,2,none⟩ = some (.int .i64 s0_2) ∧ w'.cell? ⟨g,3,none⟩ = some (.int .i64 s0_3) ∧ w'.cell? ⟨g,4,none⟩ = some (.int .i64 s0_4) ∧ w'.cell? ⟨g,5,none⟩ = some (.int .i64 s0_5) ∧ w'.cell? ⟨g,6,none⟩ = some (.int .i64 s0_6) ∧ w'.cell? ⟨g,7,none⟩ = some (.int .i64 s0_7) ∧ w'.cell? ⟨g,8,none⟩ = some (.string s0_8) ∧ w'.cell? ⟨g,9,none⟩ = some (.string s0_9) ∧ w'.cell? ⟨g,10,none⟩ = some (.bool s0_10)) (ds:=[]) #[false,false,false,false,false,false,false,false,false,false,false,false,false] (by kernel_rfl) rfl rfl ⟨(cellS34_0 HI0.out.1),(cellS34_1 HI0.out.1),(cellS34_2 HI0.out.1),(cellS34_3 HI0.out.1),(cellS34_4 HI0.out.1),(cellS34_5 HI0.out.1),(cellS34_6 HI0.out.1),(cellS34_7 HI0.out.1),(cellS34_8 HI0.out.1),(cellS34_9 HI0.out.1),(cellS34_10 HI0.out.1)⟩ (fun hHeld => ?_);refine with_tabW impl_Conn_tell.tab1 impl_Conn_tell.bits1 (fun HT_ HW_ => ?_)
 generalize w5.drew = w6 at BK359 HI0 HK HB hHeld ⊢
 refine pure_ (i:=0) (N:=some 9) (v:=?_) (a':=?_) #[true,false,false,false,false,false,false,false,false,false,false,false,false] rfl rfl (any_of HT_.out (by kernel_rfl)) (fun _ _ _ h => h) (Or.inl ⟨by rfl,?_⟩) ?_ ?_
 rotate_left
 ·intro w'
  go_simp
  with_reducible rfl
 rotate_left
 ·simp only [Act.put,List.setIfInBounds_toArray,List.set_cons_zero,List.set_cons_succ,i64_w,i32_w]
  rfl
 refine pure_ (i:=1) (N:=some 10) (v:=?_) (a':=?_) #[true,true,false,false,false,false,false,false,false,false,false,false,false] rfl rfl (any_of HT_.out (by kernel_rfl)) (fun _ _ _ h => h) (Or.inl ⟨by rfl,?_⟩) ?_ ?_
 rotate_left
 ·intro w'
  go_simp
  with_reducible rfl
 rotate_left
 ·simp only [Act.put,List.setIfInBounds_toArray,List.set_cons_zero,List.set_cons_succ,i64_w,i32_w]
  rfl
 refine pure_ (i:=2) (N:=some 11) (v:=?_) (a':=?_) #[true,true,true,false,false,false,false,false,false,false,false,false,false] rfl rfl (any_of HT_.out (by kernel_rfl)) (fun _ _ _ h => h) (Or.inl ⟨by rfl,?_⟩) ?_ ?_
 rotate_left
 ·intro w'
  go_simp
  with_reducible rfl
 rotate_left
 ·simp only [Act.put,List.setIfInBounds_toArray,List.set_cons_zero,List.set_cons_succ,i64_w,i32_w]
  rfl
 refine pure_ (i:=4) (N:=some 13) (v:=?_) (a':=?_) #[true,true,true,false,true,false,false,false,false,false,false,false,false] rfl rfl (any_of HT_.out (by kernel_rfl)) (fun _ _ _ h => h) (Or.inl ⟨by rfl,?_⟩) ?_ ?_
 rotate_left
 ·intro w'
  go_simp
  with_reducible rfl
 rotate_left
 ·simp only [Act.put,List.setIfInBounds_toArray,List.set_cons_zero,List.set_cons_succ,i64_w,i32_w]
  rfl
 refine pure_ (i:=5) (N:=some 14) (v:=?_) (a':=?_) #[true,true,true,false,true,true,false,false,false,false,false,false,false] rfl rfl (any_of HT_.out (by kernel_rfl)) (fun _ _ _ h => h) (Or.inl ⟨by rfl,?_⟩) ?_ ?_
 rotate_left
 ·intro w'
  go_simp
  with_reducible rfl
 rotate_left
 ·simp only [Act.put,List.setIfInBounds_toArray,List.set_cons_zero,List.set_cons_succ,i64_w,i32_w]
  rfl
 refine pure_ (i:=6) (N:=some 15) (v:=?_) (a':=?_) #[true,true,true,false,true,true,true,false,false,false,false,false,false] rfl rfl (any_of HT_.out (by kernel_rfl)) (fun _ _ _ h => h) (Or.inl ⟨by rfl,?_⟩) ?_ ?_
 rotate_left
 ·intro w'
  go_simp
  with_reducible rfl
 rotate_left
 ·simp only [Act.put,List.setIfInBounds_toArray,List.set_cons_zero,List.set_cons_succ,i64_w,i32_w]
  rfl
 refine pure_ (i:=7) (N:=some 16) (v:=?_) (a':=?_) #[true,true,true,false,true,true,true,true,false,false,false,false,false] rfl rfl (any_of HT_.out (by kernel_rfl)) (fun _ _ _ h => h) (Or.inl ⟨by rfl,?_⟩) ?_ ?_
 rotate_left
 ·intro w'
  go_simp
  with_reducible rfl
 rotate_left
 ·simp only [Act.put,List.setIfInBounds_toArray,List.set_cons_zero,List.set_cons_succ,i64_w,i32_w]
  rfl
 refine pure_ (i:=9) (N:=some 18) (v:=?_) (a':=?_) #[true,true,true,false,true,true,true,true,false,true,false,false,false] rfl rfl (any_of HT_.out (by kernel_rfl)) (fun _ _ _ h => h) (Or.inl ⟨by rfl,?_⟩) ?_ ?_
 rotate_left
 ·intro w'
  go_simp
  with_reducible rfl
 rotate_left
 ·simp only [Act.put,List.setIfInBounds_toArray,List.set_cons_zero,List.set_cons_succ,i64_w,i32_w]
  rfl
 refine pure_ (i:=10) (N:=some 19) (v:=?_) (a':=?_) #[true,true,true,false,true,true,true,true,false,true,true,false,false] rfl rfl (any_of HT_.out (by kernel_rfl)) (fun _ _ _ h => h) (Or.inl ⟨by rfl,?_⟩) ?_ ?_
 rotate_left
 ·intro w'
  go_simp
  with_reducible rfl
 rotate_left
 ·simp only [Act.put,List.setIfInBounds_toArray,List.set_cons_zero,List.set_cons_succ,i64_w,i32_w]
  rfl
 refine take_ (i:=3) (N:=some 12) (v:=?_) (a':=?_) #[true,true,true,true,true,true,true,true,false,true,true,false,false] rfl rfl (take_ofW HT_.out HW_.out (by kernel_rfl)) (fun _ _ _ h => h) (Or.inl ⟨by rfl,?_⟩) hHeld ?_ ?_
 rotate_left
 ·rintro w' ⟨s0,s1,s2,s3,s4,s5,s6,s7,s8,s9,s10⟩
  go_simp
  with_reducible rfl
 rotate_left
 ·simp only [Act.put,List.setIfInBounds_toArray,List.set_cons_zero,List.set_cons_succ,i64_w,i32_w]
  rfl
 refine take_ (i:=8) (N:=some 17) (v:=?_) (a':=?_) #[true,true,true,true,true,true,true,true,true,true,true,false,false] rfl rfl (take_ofW HT_.out HW_.out (by kernel_rfl)) (fun _ _ _ h => h) (Or.inl ⟨by rfl,?_⟩) hHeld ?_ ?_
 rotate_left
 ·rintro w' ⟨s0,s1,s2,s3,s4,s5,s6,s7,s8,s9,s10⟩
  go_simp
  with_reducible rfl
 rotate_left
 ·simp only [Act.put,List.setIfInBounds_toArray,List.set_cons_zero,List.set_cons_succ,i64_w,i32_w]
  rfl
 refine pure_ (i:=11) (N:=some 20) (v:=?_) (a':=?_) #[true,true,true,true,true,true,true,true,true,true,true,true,false] rfl rfl (any_of HT_.out (by kernel_rfl)) (fun _ _ _ h => h) (Or.inl ⟨by rfl,?_⟩) ?_ ?_
 rotate_left
 ·intro w'
  go_simp
  with_reducible rfl
 rotate_left
 ·simp only [Act.put,List.setIfInBounds_toArray,List.set_cons_zero,List.set_cons_succ,i64_w,i32_w]
  rfl
 refine one_ (i:=12) (N:=none) #[true,true,true,true,true,true,true,true,true,true,true,true,true] rfl rfl (one_of HT_.out (by kernel_rfl)) (by decide) (fun K hK => ?_)
 have hs7 : w6.cell? ⟨gb359,0,none⟩ = some (.int .i64 0):=(bCe BK359.out 0).trans rfl
 have hfs7:=bFr BK359.out 0
 have hs8 : w6.cell? ⟨gb359,1,none⟩ = some (.int .i64 0):=(bCe BK359.out 1).trans rfl
 have hfs8:=bFr BK359.out 1
 have hs9 : w6.cell? ⟨gb359,2,none⟩ = some (.int .i64 0):=(bCe BK359.out 2).trans rfl
 have hfs9:=bFr BK359.out 2
 have hs10 : w6.cell? ⟨gb359,3,none⟩ = some (.int .i64 0):=(bCe BK359.out 3).trans rfl
 have hfs10:=bFr BK359.out 3
 have hs11 : w6.cell? ⟨gb359,4,none⟩ = some (.int .i64 0):=(bCe BK359.out 4).trans rfl
 have hfs11:=bFr BK359.out 4
 have hs12 : w6.cell? ⟨gb359,5,none⟩ = some (.int .i64 0):=(bCe BK359.out 5).trans rfl
 have hfs12:=bFr BK359.out 5
 have hs13 : w6.cell? ⟨gb359,6,none⟩ = some (.string (⟨#[]⟩ : ByteArray)):=(bCe BK359.out 6).trans rfl
 have hfs13:=bFr BK359.out 6
 refine skip_ (w1:=?_) (by rfl) rfl ?_ ?_
 rotate_left
 ·go_simp
  rfl
 refine hK.out _ _ ⟨((cell_far (p:=⟨gb359,_,none⟩) NB0_359.out _).trans (((cell_far (p:=⟨gb359,_,none⟩) NB0_359.out _).trans (((cell_far (p:=⟨gb359,_,none⟩) NB0_359.out _).trans (((cell_far (p:=⟨gb359,_,none⟩) NB0_359.out _).trans (((cell_far (p:=⟨gb359,_,none⟩) NB0_359.out _).trans (((cell_far (p:=⟨gb359,_,none⟩) NB0_359.out _).trans (((cell_far (p:=⟨gb359,_,none⟩) NB0_359.out _).trans (hHeld.1)))))))))))))),((cell_far (p:=⟨gb359,_,none⟩) NB0_359.out _).trans (((cell_far (p:=⟨gb359,_,none⟩) NB0_359.out _).trans (((cell_far (p:=⟨gb359,_,none⟩) NB0_359.out _).trans (((cell_far (p:=⟨gb359,_,none⟩) NB0_359.out _).trans (((cell_far (p:=⟨gb359,_,none⟩) NB0_359.out _).trans (((cell_far (p:=⟨gb359,_,none⟩) NB0_359.out _).trans (((cell_far (p:=⟨gb359,_,none⟩) NB0_359.out _).trans (hHeld.2.1)))))))))))))),((cell_far (p:=⟨gb359,_,none⟩) NB0_359.out _).trans (((cell_far (p:=⟨gb359,_,none⟩) NB0_359.out _).trans (((cell_far (p:=⟨gb359,_,none⟩) NB0_359.out _).trans (((cell_far (p:=⟨gb359,_,none⟩) NB0_359.out _).trans (((cell_far (p:=⟨gb359,_,none⟩) NB0_359.out _).trans (((cell_far (p:=⟨gb359,_,none⟩) NB0_359.out _).trans (((cell_far (p:=⟨gb359,_,none⟩) NB0_359.out _).trans (hHeld.2.2.1)))))))))))))),((cell_far (p:=⟨gb359,_,none⟩) NB0_359.out _).trans (((cell_far (p:=⟨gb359,_,none⟩) NB0_359.out _).trans (((cell_far (p:=⟨gb359,_,none⟩) NB0_359.out _).trans (((cell_far (p:=⟨gb359,_,none⟩) NB0_359.out _).trans (((cell_far (p:=⟨gb359,_,none⟩) NB0_359.out _).trans (((cell_far (p:=⟨gb359,_,none⟩) NB0_359.out _).trans (((cell_far (p:=⟨gb359,_,none⟩) NB0_359.out _).trans (hHeld.2.2.2.1)))))))))))))),((cell_far (p:=⟨gb359,_,none⟩) NB0_359.out _).trans (((cell_far (p:=⟨gb359,_,none⟩) NB0_359.out _).trans (((cell_far (p:=⟨gb359,_,none⟩) NB0_359.out _).trans (((cell_far (p:=⟨gb359,_,none⟩) NB0_359.out _).trans (((cell_far (p:=⟨gb359,_,none⟩) NB0_359.out _).trans (((cell_far (p:=⟨gb359,_,none⟩) NB0_359.out _).trans (((cell_far (p:=⟨gb359,_,none⟩) NB0_359.out _).trans (hHeld.2.2.2.2.1)))))))))))))),((cell_far (p:=⟨gb359,_,none⟩) NB0_359.out _).trans (((cell_far (p:=⟨gb359,_,none⟩) NB0_359.out _).trans (((cell_far (p:=⟨gb359,_,none⟩) NB0_359.out _).trans (((cell_far (p:=⟨gb359,_,none⟩) NB0_359.out _).trans (((cell_far (p:=⟨gb359,_,none⟩) NB0_359.out _).trans (((cell_far (p:=⟨gb359,_,none⟩) NB0_359.out _).trans (((cell_far (p:=⟨gb359,_,none⟩) NB0_359.out _).trans (hHeld.2.2.2.2.2.1)))))))))))))),((cell_far (p:=⟨gb359,_,none⟩) NB0_359.out _).trans (((cell_far (p:=⟨gb359,_,none⟩) NB0_359.out _).trans (((cell_far (p:=⟨gb359,_,none⟩) NB0_359.out _).trans (((cell_far (p:=⟨gb359,_,none⟩) NB0_359.out _).trans (((cell_far (p:=⟨gb359,_,none⟩) NB0_359.out _).trans (((cell_far (p:=⟨gb359,_,none⟩) NB0_359.out _).trans (((cell_far (p:=⟨gb359,_,none⟩) NB0_359.out _).trans (hHeld.2.2.2.2.2.2.1)))))))))))))),((cell_far (p:=⟨gb359,_,none⟩) NB0_359.out _).trans (((cell_far (p:=⟨gb359,_,none⟩) NB0_359.out _).trans (((cell_far (p:=⟨gb359,_,none⟩) NB0_359.out _).trans (((cell_far (p:=⟨gb359,_,none⟩) NB0_359.out _).trans (((cell_far (p:=⟨gb359,_,none⟩) NB0_359.out _).trans (((cell_far (p:=⟨gb359,_,none⟩) NB0_359.out _).trans (((cell_far (p:=⟨gb359,_,none⟩) NB0_359.out _).trans (hHeld.2.2.2.2.2.2.2.1)))))))))))))),((cell_far (p:=⟨gb359,_,none⟩) NB0_359.out _).trans (((cell_far (p:=⟨gb359,_,none⟩) NB0_359.out _).trans (((cell_far (p:=⟨gb359,_,none⟩) NB0_359.out _).trans (((cell_far (p:=⟨gb359,_,none⟩) NB0_359.out _).trans (((cell_far (p:=⟨gb359,_,none⟩) NB0_359.out _).trans (((cell_far (p:=⟨gb359,_,none⟩) NB0_359.out _).trans (((cell_far (p:=⟨gb359,_,none⟩) NB0_359.out _).trans (hHeld.2.2.2.2.2.2.2.2.1)))))))))))))),((cell_far (p:=⟨gb359,_,none⟩) NB0_359.out _).trans (((cell_far (p:=⟨gb359,_,none⟩) NB0_359.out _).trans (((cell_far (p:=⟨gb359,_,none⟩) NB0_359.out _).trans (((cell_far (p:=⟨gb359,_,none⟩) NB0_359.out _).trans (((cell_far (p:=⟨gb359,_,none⟩) NB0_359.out _).trans (((cell_far (p:=⟨gb359,_,none⟩) NB0_359.out _).trans (((cell_far (p:=⟨gb359,_,none⟩) NB0_359.out _).trans (hHeld.2.2.2.2.2.2.2.2.2.1)))))))))))))),((cell_far (p:=⟨gb359,_,none⟩) NB0_359.out _).trans (((cell_far (p:=⟨gb359,_,none⟩) NB0_359.out _).trans (((cell_far (p:=⟨gb359,_,none⟩) NB0_359.out _).trans (((cell_far (p:=⟨gb359,_,none⟩) NB0_359.out _).trans (((cell_far (p:=⟨gb359,_,none⟩) NB0_359.out _).trans (((cell_far (p:=⟨gb359,_,none⟩) NB0_359.out _).trans (((cell_far (p:=⟨gb359,_,none⟩) NB0_359.out _).trans (hHeld.2.2.2.2.2.2.2.2.2.2))))))))))))))⟩ (fun hHeld => ?_)
 clear hK K
 refine done_ (done_of HT_.out (by kernel_rfl)) ?_
 try go_wp2
 refine bodyPost_ret (results_cell_row rfl _ _ gb359 53 #[.int .i64 80,.int .i64 s0_2,.int .i64 a1,.int .i64 s0_7,.int .i64 a2,.int .i64 1000,.string a3] (0,0) _ rfl (by (with_reducible repeat (first|refine bDn ?_ _|refine bDr ?_|refine bAl ?_ _));refine blk_put (cs:=#[.int .i64 80,.int .i64 s0_2,.int .i64 a1,.int .i64 s0_7,.int .i64 a2,.int .i64 1000,.string (⟨#[]⟩ : ByteArray)]) ?_ 6 _ rfl;(with_reducible repeat (first|refine bDn ?_ _|refine bDr ?_|refine bAl ?_ _));refine blk_put (cs:=#[.int .i64 80,.int .i64 s0_2,.int .i64 a1,.int .i64 s0_7,.int .i64 a2,.int .i64 0,.string (⟨#[]⟩ : ByteArray)]) ?_ 5 _ rfl;(with_reducible repeat (first|refine bDn ?_ _|refine bDr ?_|refine bAl ?_ _));refine blk_put (cs:=#[.int .i64 80,.int .i64 s0_2,.int .i64 a1,.int .i64 s0_7,.int .i64 0,.int .i64 0,.string (⟨#[]⟩ : ByteArray)]) ?_ 4 _ rfl;(with_reducible repeat (first|refine bDn ?_ _|refine bDr ?_|refine bAl ?_ _));refine blk_put (cs:=#[.int .i64 80,.int .i64 s0_2,.int .i64 a1,.int .i64 0,.int .i64 0,.int .i64 0,.string (⟨#[]⟩ : ByteArray)]) ?_ 3 _ rfl;(with_reducible repeat (first|refine bDn ?_ _|refine bDr ?_|refine bAl ?_ _));refine blk_put (cs:=#[.int .i64 80,.int .i64 s0_2,.int .i64 0,.int .i64 0,.int .i64 0,.int .i64 0,.string (⟨#[]⟩ : ByteArray)]) ?_ 2 _ rfl;(with_reducible repeat (first|refine bDn ?_ _|refine bDr ?_|refine bAl ?_ _));refine blk_put (cs:=#[.int .i64 80,.int .i64 0,.int .i64 0,.int .i64 0,.int .i64 0,.int .i64 0,.string (⟨#[]⟩ : ByteArray)]) ?_ 1 _ rfl;(with_reducible repeat (first|refine bDn ?_ _|refine bDr ?_|refine bAl ?_ _));refine blk_put (cs:=#[.int .i64 0,.int .i64 0,.int .i64 0,.int .i64 0,.int .i64 0,.int .i64 0,.string (⟨#[]⟩ : ByteArray)]) ?_ 0 _ rfl;(with_reducible repeat (first|refine bDn ?_ _|refine bDr ?_|refine bAl ?_ _));exact BK359.out) Try.underlying53 rfl (by kernel_rfl)) rfl ?_
 exact ⟨by first | rfl|(simp [errW_none,errW_some] <;> rfl)|(simp [*,errW_none,errW_some] <;> rfl),by repeat (first|(with_reducible first|exact HI0.out|apply IsS34.alloc|apply IsS34.drewN|apply IsS34.drew|apply IsS34.set_0|apply IsS34.set_1|apply IsS34.set_2|apply IsS34.set_3|apply IsS34.set_4|apply IsS34.set_5|apply IsS34.set_6|apply IsS34.set_7|apply IsS34.set_8|apply IsS34.set_9|apply IsS34.set_10|refine IsS34.far ?_ NB0_359.out _)|exact HI0.out),by repeat (first|(with_reducible first|exact HB.out|apply bwA|apply bwN|apply bw1|refine below_set ?_ (IsS34.ge HI0.out)|refine below_set ?_ GE359.out)|exact HB.out),by repeat (first|(with_reducible first|exact HK.out|apply KeepBut.set_|apply keep_drewN|apply keep_drew|apply keep_alloc|refine keep_far ?_ GW359.out _)|exact HK.out)⟩
end
end Go.Proofs.Ytlpkldomoniegaa.X
