/- The program's ConnTake returns what the reference's ConnTake returns, for all arguments. Conditions: none beyond the row's own reach. -/
import Derived.Test.YtlpkldomoniegaaCFnExactConnTake5
import Derived.Test.YtlpkldomoniegaaRows
namespace Go.Proofs.Ytlpkldomoniegaa.X
open Go.RowKit Go.Proofs.YtlpkldomoniegaaW.PrintWords Go.Proofs.YtlpkldomoniegaaW.PrintLast Go.Proofs.YtlpkldomoniegaaW.PrintMore
attribute [local go_sem] max2_int min2_int max_two min_two max_three min_three max_four min_four   -- for this text's walks alone
set_option linter.unusedVariables false
set_option linter.unusedSimpArgs false
open Go.Proofs.YtlpkldomoniegaaW.PrintWords renaming blk_drewN -> bDn
open Go.Proofs.YtlpkldomoniegaaW.PrintWords renaming blk_drew -> bDr
open Go.Proofs.YtlpkldomoniegaaW.PrintWords renaming blk_alloc -> bAl
open Go.Proofs.YtlpkldomoniegaaW.PrintWords renaming blk_frozen -> bFr
open Go.Proofs.YtlpkldomoniegaaW.PrintWords renaming blk_cell -> bCe
open Go.Proofs.YtlpkldomoniegaaW.PrintWords.Aside0 renaming mk -> aMk
open Go.World renaming block_lt_of_cell? -> wLt
open Go.Proofs.YtlpkldomoniegaaW.PrintWords renaming pw_below_drewN -> bwN
open Go.Proofs.YtlpkldomoniegaaW.PrintWords renaming below_drew1 -> bw1
open Go.Proofs.YtlpkldomoniegaaW.PrintWords renaming below_alloc -> bwA
section
/-! ### spec_ConnAgain: function 41 -/
def spec_ConnAgain.f (k:Nat) (a0_0:ByteArray) (a0_1 a0_2:Int) (a0_3 a0_4:Int) (a0_5 a0_6 a0_7:Int) (a0_8 a0_9:ByteArray) (a0_10:Bool):Option ((List (S53)) × Int):=(spec_ConnOK.f k a0_0 a0_1 a0_2 a0_3 a0_4 a0_5 a0_6 a0_7 a0_8 a0_9 a0_10).bind fun t588 => (if t588 = true then ((spec_l10Again.f k a0_0 a0_1 a0_2 a0_3 a0_4 a0_5 a0_6 a0_7 a0_8 a0_9 a0_10).bind fun t589 => (some (t589,0))) else (some ((([]:List (S53))),1)))
theorem spec_ConnAgain.mono:∀ a0 a1 a2 a3 a4 a5 a6 a7 a8 a9 a10 k,LeO (spec_ConnAgain.f k a0 a1 a2 a3 a4 a5 a6 a7 a8 a9 a10) (spec_ConnAgain.f (k + 1) a0 a1 a2 a3 a4 a5 a6 a7 a8 a9 a10):=by
 intro a0 a1 a2 a3 a4 a5 a6 a7 a8 a9 a10 k
 unfold spec_ConnAgain.f
 repeat' first
   | (with_reducible exact spec_ConnOK.mono ..)
   | (with_reducible exact spec_l10Again.mono ..)
   | (with_reducible exact LeO.refl _)
   | (with_reducible exact LeO.none _)
   | (with_reducible refine LeO.ite ?_ ?_)
   | (with_reducible refine LeO.bind ?_ (fun _ => ?_))
   | exact spec_ConnOK.mono ..
   | exact spec_l10Again.mono ..
   | exact LeO.none _
   | refine LeO.ite ?_ ?_
   | refine LeO.bind ?_ (fun _ => ?_)
set_option maxHeartbeats 8000000 in
set_option maxRecDepth 100000 in
theorem spec_ConnAgain.calls (k:Nat) (a0_0:ByteArray) (a0_1 a0_2:Int) (a0_3 a0_4:Int) (a0_5 a0_6 a0_7:Int) (a0_8 a0_9:ByteArray) (a0_10:Bool) (r1:List (S53)) (r2:Int) (w:World) (h:spec_ConnAgain.f k a0_0 a0_1 a0_2 a0_3 a0_4 a0_5 a0_6 a0_7 a0_8 a0_9 a0_10 = some (r1,r2)) :
  Calls Try.prog 41 #[.agg #[.string a0_0,.int .i64 a0_1,.int .i64 a0_2,.int .i64 a0_3,.int .i64 a0_4,.int .i64 a0_5,.int .i64 a0_6,.int .i64 a0_7,.string a0_8,.string a0_9,.bool a0_10]] w fun e w' => ∃ v0_:Value,e = .returned (.tuple #[v0_,.int .i64 r2])∧Kd.R k53 53 w' w.heap.size (fun _ => True) v0_ r1∧Below w.heap.size w w':=by
 have hu34:=Try.underlying34
 have HB:=aMk (Below.refl w.heap.size w)
 have H:=h
 unfold spec_ConnAgain.f at H
 clear h
 replace H:=Option.bind_eq_some_iff.mp H
 obtain ⟨t588,A20,H⟩:=H
 try dsimp only at H
 have A2:=aMk A20
 clear A20
 by_cases c3:t588 = true
 ·subst c3
  have H1:=H
  rw [if_pos rfl] at H1
  clear H
  have H:=H1
  clear H1
  replace H:=Option.bind_eq_some_iff.mp H
  obtain ⟨t589,A40,H⟩:=H
  try dsimp only at H
  have A4:=aMk A40
  clear A40
  simp only [Option.some.injEq,Prod.mk.injEq] at H
  obtain ⟨rfl,rfl⟩:=H
  go_enter Try.func41,Try.ntmps41
  go_wp2_with (first|((with_reducible refine gate_dst (N:=1) rfl ?_);refine bxE (N:=1) (cs:=#[.string a0_0,.int .i64 a0_1,.int .i64 a0_2,.int .i64 a0_3,.int .i64 a0_4,.int .i64 a0_5,.int .i64 a0_6,.int .i64 a0_7,.string a0_8,.string a0_9,.bool a0_10]) (t:=34) ?_;intro gb587 hg w5 hbox hb;have BK587:=aMk (hbox);have GW587:=aMk (bZ hg);have GE587:=aMk (bZ hg);replace HB:=aMk (bSt hb);clear hb hbox hg;obtain ⟨Z6_0,Z6_1,Z6_2,Z6_3,Z6_4,Z6_5,Z6_6,Z6_7,Z6_8,Z6_9,Z6_10,Y6_0,Y6_1,Y6_2,Y6_3,Y6_4,Y6_5,Y6_6,Y6_7,Y6_8,Y6_9,Y6_10⟩:=bC11 BK587.out)|((with_reducible refine gate_callee (f:=23) rfl ?_);refine gLs 5 Try.func23 #[.agg #[.string a0_0,.int .i64 a0_1,.int .i64 a0_2,.int .i64 a0_3,.int .i64 a0_4,.int .i64 a0_5,.int .i64 a0_6,.int .i64 a0_7,.string a0_8,.string a0_9,.bool a0_10]] ?_;(with_reducible refine (spec_ConnOK.calls k a0_0 a0_1 a0_2 a0_3 a0_4 a0_5 a0_6 a0_7 a0_8 a0_9 a0_10 true _ A2.out).mono ?_);rintro e w7 ⟨rfl,hb⟩;refine ⟨_,rfl,?_⟩;replace BK587:=aMk (bkB BK587.out hb);replace HB:=aMk (bU hb);obtain ⟨Z8_0,Z8_1,Z8_2,Z8_3,Z8_4,Z8_5,Z8_6,Z8_7,Z8_8,Z8_9,Z8_10,Y8_0,Y8_1,Y8_2,Y8_3,Y8_4,Y8_5,Y8_6,Y8_7,Y8_8,Y8_9,Y8_10⟩:=bC11 BK587.out)|((with_reducible refine gate_callee (f:=90) rfl ?_);refine gLs 9 Try.func90 #[.agg #[.string a0_0,.int .i64 a0_1,.int .i64 a0_2,.int .i64 a0_3,.int .i64 a0_4,.int .i64 a0_5,.int .i64 a0_6,.int .i64 a0_7,.string a0_8,.string a0_9,.bool a0_10]] ?_;(with_reducible refine (spec_l10Again.calls k a0_0 a0_1 a0_2 a0_3 a0_4 a0_5 a0_6 a0_7 a0_8 a0_9 a0_10 t589 _ A4.out).mono ?_);rintro e w9 ⟨v590,rfl,ho0,hb⟩;refine ⟨_,rfl,?_⟩;have HO591:=aMk (Kd.R_lower ho0 (below_size bW));replace BK587:=aMk (bkB BK587.out hb);replace HB:=aMk (bU hb);(try clear ho0)))
  go_ret2
  exact ⟨_,eRf,kR (HO591.out),bW⟩
 ·replace c3:=Bool.eq_false_iff.mpr c3
  subst c3
  have H1:=H
  rw [if_neg (show ¬ (false = true) by decide)] at H1
  clear H
  have H:=H1
  clear H1
  obtain ⟨y592,hy592⟩:∃ y_:List (S53),y_ = (([]:List (S53))):=⟨_,rfl⟩
  replace H:(some (y592,1)) = some (r1,r2):=by first|(rw [hy592];with_reducible exact H)|(have H2_:=(Option.bind_some _ _).symm.trans H;rw [hy592];with_reducible exact H2_)|(have H2_:=(Option.bind_some _ _).symm.trans H;with_reducible exact H2_) | with_reducible exact H|(rw [hy592];exact H)|exact H
  have Ny592:=aMk hy592
  clear hy592
  simp only [Option.some.injEq,Prod.mk.injEq] at H
  obtain ⟨rfl,rfl⟩:=H
  go_enter Try.func41,Try.ntmps41
  go_wp2_with (first|((with_reducible refine gate_dst (N:=1) rfl ?_);refine bxE (N:=1) (cs:=#[.string a0_0,.int .i64 a0_1,.int .i64 a0_2,.int .i64 a0_3,.int .i64 a0_4,.int .i64 a0_5,.int .i64 a0_6,.int .i64 a0_7,.string a0_8,.string a0_9,.bool a0_10]) (t:=34) ?_;intro gb587 hg w10 hbox hb;have BK587:=aMk (hbox);have GW587:=aMk (bZ hg);have GE587:=aMk (bZ hg);replace HB:=aMk (bSt hb);clear hb hbox hg;obtain ⟨Z11_0,Z11_1,Z11_2,Z11_3,Z11_4,Z11_5,Z11_6,Z11_7,Z11_8,Z11_9,Z11_10,Y11_0,Y11_1,Y11_2,Y11_3,Y11_4,Y11_5,Y11_6,Y11_7,Y11_8,Y11_9,Y11_10⟩:=bC11 BK587.out)|((with_reducible refine gate_callee (f:=23) rfl ?_);refine gLs 5 Try.func23 #[.agg #[.string a0_0,.int .i64 a0_1,.int .i64 a0_2,.int .i64 a0_3,.int .i64 a0_4,.int .i64 a0_5,.int .i64 a0_6,.int .i64 a0_7,.string a0_8,.string a0_9,.bool a0_10]] ?_;(with_reducible refine (spec_ConnOK.calls k a0_0 a0_1 a0_2 a0_3 a0_4 a0_5 a0_6 a0_7 a0_8 a0_9 a0_10 false _ A2.out).mono ?_);rintro e w12 ⟨rfl,hb⟩;refine ⟨_,rfl,?_⟩;replace BK587:=aMk (bkB BK587.out hb);replace HB:=aMk (bU hb))|((with_reducible refine gate_dst (N:=7) rfl ?_);refine Kd.R_lit k53 _ 53 ?hg (N:=7) ?hd (xs:=([]:List (S53))) (inner:=[]) (ok:=fun _ => True) (okp:=fun _ => True) ?hr ?hp (fun _ hk => hk) trivial (Below.refl _ _) (Nat.le_refl _) (by simp) ?_;(case hd => rfl);(case hg => rfl);(case hr => first|(go_simp;done)|(go_simp;rfl));(case hp => exact (Reps.none _ _));intro v593 w13 ho14 hb hg_ hnew_;clear hg_ hnew_;(first|rw [← Ny592.out] at ho14|(simp only [Int.reduceToNat] at ho14;rw [← Ny592.out] at ho14));have HO594:=aMk (Kd.R_lower ho14 (below_size bW));replace BK587:=aMk (bkB BK587.out hb);replace HB:=aMk (bU hb);clear hb ho14))
  go_ret2
  exact ⟨_,eRf,kR (HO594.out),bW⟩
end
section
/-! ### impl_Conn_again: function 91 -/
def impl_Conn_again.f (k:Nat) (s0_0:ByteArray) (s0_1 s0_2:Int) (s0_3 s0_4:Int) (s0_5 s0_6 s0_7:Int) (s0_8 s0_9:ByteArray) (s0_10:Bool):Option ((List (S53))):=if s0_4 = 1 then ((impl_Conn_opened.f s0_0 s0_1 s0_2 s0_3 s0_4 s0_5 s0_6 s0_7 s0_8 s0_9 s0_10).bind fun t619 => (some t619)) else (if s0_10 = true then ((impl_Conn_pieces.f k s0_0 s0_1 s0_2 s0_3 s0_4 s0_5 s0_6 s0_7 s0_8 s0_9 s0_10 s0_5 s0_9).bind fun t622 => (some t622)) else (some ([]:List (S53))))
theorem impl_Conn_again.mono:∀ a0 a1 a2 a3 a4 a5 a6 a7 a8 a9 a10 k,LeO (impl_Conn_again.f k a0 a1 a2 a3 a4 a5 a6 a7 a8 a9 a10) (impl_Conn_again.f (k + 1) a0 a1 a2 a3 a4 a5 a6 a7 a8 a9 a10):=by
 intro a0 a1 a2 a3 a4 a5 a6 a7 a8 a9 a10 k
 unfold impl_Conn_again.f
 repeat' first
   | (with_reducible exact impl_Conn_pieces.mono ..)
   | (with_reducible exact LeO.refl _)
   | (with_reducible exact LeO.none _)
   | (with_reducible refine LeO.ite ?_ ?_)
   | (with_reducible refine LeO.bind ?_ (fun _ => ?_))
   | exact impl_Conn_pieces.mono ..
   | exact LeO.none _
   | refine LeO.ite ?_ ?_
   | refine LeO.bind ?_ (fun _ => ?_)
def impl_Conn_again.T4:Bool × List (List Nat × List Nat):=(true,[([],[]),([],[]),([1],[1]),([2],[2]),([3],[3]),([],[]),([5],[5]),([6],[6]),([7],[7]),([0,4,8],[0,4,8]),([9,9,0,1,2,3,4,5,6,7,8,9],[9])])
def impl_Conn_again.B4:List Nat:=[0,0,2,6,14,0,32,96,224,511,1023]
theorem impl_Conn_again.tab4:rtab .any (opsOf Try.f91 4) = impl_Conn_again.T4:=by kernel_rfl
theorem impl_Conn_again.bits4:waitsOk impl_Conn_again.T4.2 impl_Conn_again.B4 = true:=by kernel_rfl
set_option maxHeartbeats 8000000 in
set_option maxRecDepth 100000 in
theorem impl_Conn_again.calls (k:Nat) (g:Nat) (s0_0:ByteArray) (s0_1 s0_2:Int) (s0_3 s0_4:Int) (s0_5 s0_6 s0_7:Int) (s0_8 s0_9:ByteArray) (s0_10:Bool) (r:List (S53)) (w0 w:World) (hI:IsS34 w0 w g s0_0 s0_1 s0_2 s0_3 s0_4 s0_5 s0_6 s0_7 s0_8 s0_9 s0_10) (hB:Below w0.heap.size w0 w) (h:impl_Conn_again.f k s0_0 s0_1 s0_2 s0_3 s0_4 s0_5 s0_6 s0_7 s0_8 s0_9 s0_10 = some r) :
  Calls Try.prog 91 #[.pointer (some ⟨g,0,none⟩)] w fun e w' => ∃ v0_:Value,e = .returned (v0_)∧Kd.R k53 53 w' w.heap.size (fun _ => True) v0_ r∧IsS34 w0 w' g s0_0 s0_1 s0_2 s0_3 s0_4 s0_5 s0_6 s0_7 s0_8 s0_9 s0_10∧Below w0.heap.size w0 w'∧KeepBut w w' g none:=by
 have HI0:=aMk hI
 have HK:=aMk (KeepBut.refl w g none)
 have HL:=aMk hB.size
 clear hI
 have HW0:=aMk hB.size
 have HB:=aMk hB
 clear hB
 have H:=h
 unfold impl_Conn_again.f at H
 clear h
 by_cases c2:s0_4 = 1
 ·rw [if_pos c2] at H
  have c2b0:(s0_4 == 1) = true:=beq_iff_eq.mpr c2
  have c2b1:(s0_4 != 1) = false:=bne_eq_false_iff_eq.mpr c2
  clear c2
  replace H:=Option.bind_eq_some_iff.mp H
  obtain ⟨t619,A30,H⟩:=H
  try dsimp only at H
  have A3:=aMk A30
  clear A30
  obtain rfl:=Option.some.inj H
  obtain ⟨HGz4,hgz4⟩:=HI0.out
  have Z4_0:=cellS34_0 HGz4
  have Z4_1:=cellS34_1 HGz4
  have Z4_2:=cellS34_2 HGz4
  have Z4_3:=cellS34_3 HGz4
  have Z4_4:=cellS34_4 HGz4
  have Z4_5:=cellS34_5 HGz4
  have Z4_6:=cellS34_6 HGz4
  have Z4_7:=cellS34_7 HGz4
  have Z4_8:=cellS34_8 HGz4
  have Z4_9:=cellS34_9 HGz4
  have Z4_10:=cellS34_10 HGz4
  have Y4_0:=bFr HGz4 0
  have Y4_1:=bFr HGz4 1
  have Y4_2:=bFr HGz4 2
  have Y4_3:=bFr HGz4 3
  have Y4_4:=bFr HGz4 4
  have Y4_5:=bFr HGz4 5
  have Y4_6:=bFr HGz4 6
  have Y4_7:=bFr HGz4 7
  have Y4_8:=bFr HGz4 8
  have Y4_9:=bFr HGz4 9
  have Y4_10:=bFr HGz4 10
  clear HGz4 hgz4
  go_enter Try.func91,Try.ntmps91
  go_wp2_with (first|((with_reducible refine gate_callee (f:=87) rfl ?_);refine gLs 10 Try.func87 #[.pointer (some ⟨g,0,none⟩)] ?_;(with_reducible refine (impl_Conn_opened.calls g s0_0 s0_1 s0_2 s0_3 s0_4 s0_5 s0_6 s0_7 s0_8 s0_9 s0_10 t619 w0 _ ?side1 ?side2 A3.out).mono ?_);(case side1 => exact iQ34 HI0.out);(case side2 => repeat (first|(with_reducible first|exact HB.out|apply bwA|apply bwN|apply bw1|refine below_set ?_ (IsS34.ge HI0.out))|exact HB.out));rintro e w5 ⟨v620,rfl,ho0,hi,hb,hk⟩;refine ⟨_,rfl,?_⟩;have HO621:=aMk (Kd.R_lower ho0 (keep_size (w:=w) (g:=g) (row:=none) (kQ HK.out)));replace HK:=aMk (KeepBut.trans (kQ HK.out) hk (.inl rfl));replace HB:=aMk (hb);replace HI0:=aMk (hi);(try clear ho0)))
  go_ret
  exact ⟨_,eRf,kR (HO621.out),by repeat (first|(with_reducible first|exact HI0.out|apply IsS34.alloc|apply IsS34.drewN|apply IsS34.drew|apply IsS34.set_0|apply IsS34.set_1|apply IsS34.set_2|apply IsS34.set_3|apply IsS34.set_4|apply IsS34.set_5|apply IsS34.set_6|apply IsS34.set_7|apply IsS34.set_8|apply IsS34.set_9|apply IsS34.set_10)|exact HI0.out),bW34,by repeat (first|(with_reducible first|exact HK.out|apply KeepBut.set_|apply keep_drewN|apply keep_drew|apply keep_alloc)|exact HK.out)⟩
 ·rw [if_neg c2] at H
  have c2b0:(s0_4 == 1) = false:=beq_eq_false_iff_ne.mpr c2
  have c2b1:(s0_4 != 1) = true:=bne_iff_ne.mpr c2
  by_cases c6:s0_10 = true
  ·subst c6
   have H1:=H
   rw [if_pos rfl] at H1
   clear H
   have H:=H1
   clear H1
   replace H:=Option.bind_eq_some_iff.mp H
   obtain ⟨t622,A70,H⟩:=H
   try dsimp only at H
   have A7:=aMk A70
   clear A70
   obtain rfl:=Option.some.inj H
   obtain ⟨HGz8,hgz8⟩:=HI0.out
   have Z8_0:=cellS34_0 HGz8
   have Z8_1:=cellS34_1 HGz8
   have Z8_2:=cellS34_2 HGz8
   have Z8_3:=cellS34_3 HGz8
   have Z8_4:=cellS34_4 HGz8
   have Z8_5:=cellS34_5 HGz8
   have Z8_6:=cellS34_6 HGz8
   have Z8_7:=cellS34_7 HGz8
   have Z8_8:=cellS34_8 HGz8
   have Z8_9:=cellS34_9 HGz8
   have Z8_10:=cellS34_10 HGz8
   have Y8_0:=bFr HGz8 0
   have Y8_1:=bFr HGz8 1
   have Y8_2:=bFr HGz8 2
   have Y8_3:=bFr HGz8 3
   have Y8_4:=bFr HGz8 4
   have Y8_5:=bFr HGz8 5
   have Y8_6:=bFr HGz8 6
   have Y8_7:=bFr HGz8 7
   have Y8_8:=bFr HGz8 8
   have Y8_9:=bFr HGz8 9
   have Y8_10:=bFr HGz8 10
   clear HGz8 hgz8
   go_enter Try.func91,Try.ntmps91
   try go_wp2
   replace HI0:=aMk (IsS34.drew HI0.out)
   replace HK:=aMk (keep_drew HK.out)
   replace HB:=aMk (bw1 HB.out)
   refine start_ (n:=11) (S:=fun w' => w'.cell? ⟨g,0,none⟩ = some (.string s0_0)∧w'.cell? ⟨g,1,none⟩ = some (.int .i64 s0_1)∧w'.cell? ⟨g,2,none⟩ = some (.int .i64 s0_2)∧w'.cell? ⟨g,3,none⟩ = some (.int .i64 s0_3)∧w'.cell? ⟨g,4,none⟩ = some (.int .i64 s0_4)∧w'.cell? ⟨g,5,none⟩ = some (.int .i64 s0_5)∧w'.cell? ⟨g,6,none⟩ = some (.int .i64 s0_6)∧w'.cell? ⟨g,7,none⟩ = some (.int .i64 s0_7)∧w'.cell? ⟨g,8,none⟩ = some (.string s0_8)∧w'.cell? ⟨g,9,none⟩ = some (.string s0_9)∧w'.cell? ⟨g,10,none⟩ = some (.bool true)) (ds:=[]) #[false,false,false,false,false,false,false,false,false,false,false] (by kernel_rfl) rfl rfl ⟨(cellS34_0 HI0.out.1),(cellS34_1 HI0.out.1),(cellS34_2 HI0.out.1),(cellS34_3 HI0.out.1),(cellS34_4 HI0.out.1),(cellS34_5 HI0.out.1),(cellS34_6 HI0.out.1),(cellS34_7 HI0.out.1),(cellS34_8 HI0.out.1),(cellS34_9 HI0.out.1),(cellS34_10 HI0.out.1)⟩ (fun hHeld => ?_);refine with_tabW impl_Conn_again.tab4 impl_Conn_again.bits4 (fun HT_ HW_ => ?_)
   generalize w.drew = w9 at HI0 HK HB hHeld ⊢
   refine pU (i:=0) (N:=some 16) #[true,false,false,false,false,false,false,false,false,false,false] (any_of HT_.out (by kernel_rfl)) ?_
   refine pU (i:=1) (N:=some 17) #[true,true,false,false,false,false,false,false,false,false,false] (any_of HT_.out (by kernel_rfl)) ?_
   refine pU (i:=2) (N:=some 18) #[true,true,true,false,false,false,false,false,false,false,false] (any_of HT_.out (by kernel_rfl)) ?_
   refine pU (i:=3) (N:=some 19) #[true,true,true,true,false,false,false,false,false,false,false] (any_of HT_.out (by kernel_rfl)) ?_
   refine pU (i:=5) (N:=some 21) #[true,true,true,true,false,true,false,false,false,false,false] (any_of HT_.out (by kernel_rfl)) ?_
   refine pU (i:=6) (N:=some 22) #[true,true,true,true,false,true,true,false,false,false,false] (any_of HT_.out (by kernel_rfl)) ?_
   refine pU (i:=7) (N:=some 23) #[true,true,true,true,false,true,true,true,false,false,false] (any_of HT_.out (by kernel_rfl)) ?_
   refine tU11 (i:=4) (N:=some 20) #[true,true,true,true,true,true,true,true,false,false,false] (take_ofW HT_.out HW_.out (by kernel_rfl)) hHeld ?_
   refine tU11 (i:=8) (N:=some 24) #[true,true,true,true,true,true,true,true,true,false,false] (take_ofW HT_.out HW_.out (by kernel_rfl)) hHeld ?_
   refine one_ (i:=9) (N:=some 25) #[true,true,true,true,true,true,true,true,true,true,false] rfl rfl (one_of HT_.out (by kernel_rfl)) (by decide) (fun K hK => ?_)
   refine goes_ Try.func115 (by kernel_rfl) rfl #[.pointer (some ⟨g,0,none⟩),.int .i64 s0_5,.string s0_9] (by rfl) rfl rfl (by (try simp only [List.map_toArray,List.map_cons,List.map_nil]);first | done | rfl|(simp only [List.length_drop,List.length_take];rfl)) ?_
   with_reducible refine (impl_Conn_pieces.calls k g s0_0 s0_1 s0_2 s0_3 s0_4 s0_5 s0_6 s0_7 s0_8 s0_9 true s0_5 s0_9 t622 w0 _ ?side1 ?side2 A7.out).mono ?_
   (case side1 => exact iQ34 HI0.out)
   (case side2 => repeat (first|(with_reducible first|exact HB.out|apply bwA|apply bwN|apply bw1|refine below_set ?_ (IsS34.ge HI0.out))|exact HB.out))
   rintro e w10 ⟨v623,rfl,ho0,hi,hb,hk⟩
   refine ⟨_,rfl,?_⟩
   have HO624:=aMk (Kd.R_lower ho0 (keep_size (w:=w) (g:=g) (row:=none) (kQ HK.out)))
   replace HK:=aMk (KeepBut.trans (kQ HK.out) hk (.inl rfl))
   replace HB:=aMk (hb)
   replace HI0:=aMk (hi)
   (try clear hb)
   (try clear hb2)
   (try clear hk)
   (try clear hi)
   (try clear ho0)
   refine hK.out _ _ ⟨(cellS34_0 HI0.out.1),(cellS34_1 HI0.out.1),(cellS34_2 HI0.out.1),(cellS34_3 HI0.out.1),(cellS34_4 HI0.out.1),(cellS34_5 HI0.out.1),(cellS34_6 HI0.out.1),(cellS34_7 HI0.out.1),(cellS34_8 HI0.out.1),(cellS34_9 HI0.out.1),(cellS34_10 HI0.out.1)⟩ (fun hHeld => ?_)
   clear hK K
   refine norm_ (a':=?_) ?_ ?_
   rotate_left
   ·show Act.put _ (some 25) _ = _
    simp only [Act.put,List.setIfInBounds_toArray,List.set_cons_zero,List.set_cons_succ,i64_w,i32_w]
    rfl
   refine pU (i:=10) (N:=some 2) #[true,true,true,true,true,true,true,true,true,true,true] (any_of HT_.out (by kernel_rfl)) ?_
   refine done_ (done_of HT_.out (by kernel_rfl)) ?_
   try go_wp2
   go_ret
   exact ⟨_,eRf,kR (HO624.out),by repeat (first|(with_reducible first|exact HI0.out|apply IsS34.alloc|apply IsS34.drewN|apply IsS34.drew|apply IsS34.set_0|apply IsS34.set_1|apply IsS34.set_2|apply IsS34.set_3|apply IsS34.set_4|apply IsS34.set_5|apply IsS34.set_6|apply IsS34.set_7|apply IsS34.set_8|apply IsS34.set_9|apply IsS34.set_10)|exact HI0.out),bW34,by repeat (first|(with_reducible first|exact HK.out|apply KeepBut.set_|apply keep_drewN|apply keep_drew|apply keep_alloc)|exact HK.out)⟩
  ·replace c6:=Bool.eq_false_iff.mpr c6
   subst c6
   have H1:=H
   rw [if_neg (show ¬ (false = true) by decide)] at H1
   clear H
   have H:=H1
   clear H1
   obtain rfl:=Option.some.inj H
   obtain ⟨HGz11,hgz11⟩:=HI0.out
   have Z11_0:=cellS34_0 HGz11
   have Z11_1:=cellS34_1 HGz11
   have Z11_2:=cellS34_2 HGz11
   have Z11_3:=cellS34_3 HGz11
   have Z11_4:=cellS34_4 HGz11
   have Z11_5:=cellS34_5 HGz11
   have Z11_6:=cellS34_6 HGz11
   have Z11_7:=cellS34_7 HGz11
   have Z11_8:=cellS34_8 HGz11
   have Z11_9:=cellS34_9 HGz11
   have Z11_10:=cellS34_10 HGz11
   have Y11_0:=bFr HGz11 0
   have Y11_1:=bFr HGz11 1
   have Y11_2:=bFr HGz11 2
   have Y11_3:=bFr HGz11 3
   have Y11_4:=bFr HGz11 4
   have Y11_5:=bFr HGz11 5
   have Y11_6:=bFr HGz11 6
   have Y11_7:=bFr HGz11 7
   have Y11_8:=bFr HGz11 8
   have Y11_9:=bFr HGz11 9
   have Y11_10:=bFr HGz11 10
   clear HGz11 hgz11
   go_enter Try.func91,Try.ntmps91
   go_wp2
   go_ret
   exact ⟨_,eRf,by first|exact Kd.R_nil _ _ _ _ _|exact Kd.N_nil _ _ _ _ _|exact Kd.V_nil _ _ _ _ _|exact Kd.Q_nil _ _ _ _ _|exact Kd.S_nil _ _ _ _ _,by repeat (first|(with_reducible first|exact HI0.out|apply IsS34.alloc|apply IsS34.drewN|apply IsS34.drew|apply IsS34.set_0|apply IsS34.set_1|apply IsS34.set_2|apply IsS34.set_3|apply IsS34.set_4|apply IsS34.set_5|apply IsS34.set_6|apply IsS34.set_7|apply IsS34.set_8|apply IsS34.set_9|apply IsS34.set_10)|exact HI0.out),bW34,by repeat (first|(with_reducible first|exact HK.out|apply KeepBut.set_|apply keep_drewN|apply keep_drew|apply keep_alloc)|exact HK.out)⟩
end
section
/-! ### impl_ConnAgain: function 42 -/
def impl_ConnAgain.f (k:Nat) (a0_0:ByteArray) (a0_1 a0_2:Int) (a0_3 a0_4:Int) (a0_5 a0_6 a0_7:Int) (a0_8 a0_9:ByteArray) (a0_10:Bool):Option ((List (S53)) × Int):=(impl_ConnOK.f k a0_0 a0_1 a0_2 a0_3 a0_4 a0_5 a0_6 a0_7 a0_8 a0_9 a0_10).bind fun t626 => (if t626 = true then ((impl_Conn_again.f k a0_0 a0_1 a0_2 a0_3 a0_4 a0_5 a0_6 a0_7 a0_8 a0_9 a0_10).bind fun t627 => (some (t627,0))) else (some (([]:List (S53)),1)))
theorem impl_ConnAgain.mono:∀ a0 a1 a2 a3 a4 a5 a6 a7 a8 a9 a10 k,LeO (impl_ConnAgain.f k a0 a1 a2 a3 a4 a5 a6 a7 a8 a9 a10) (impl_ConnAgain.f (k + 1) a0 a1 a2 a3 a4 a5 a6 a7 a8 a9 a10):=by
 intro a0 a1 a2 a3 a4 a5 a6 a7 a8 a9 a10 k
 unfold impl_ConnAgain.f
 repeat' first
   | (with_reducible exact impl_ConnOK.mono ..)
   | (with_reducible exact impl_Conn_again.mono ..)
   | (with_reducible exact LeO.refl _)
   | (with_reducible exact LeO.none _)
   | (with_reducible refine LeO.ite ?_ ?_)
   | (with_reducible refine LeO.bind ?_ (fun _ => ?_))
   | exact impl_ConnOK.mono ..
   | exact impl_Conn_again.mono ..
   | exact LeO.none _
   | refine LeO.ite ?_ ?_
   | refine LeO.bind ?_ (fun _ => ?_)
set_option maxHeartbeats 8000000 in
set_option maxRecDepth 100000 in
theorem impl_ConnAgain.calls (k:Nat) (a0_0:ByteArray) (a0_1 a0_2:Int) (a0_3 a0_4:Int) (a0_5 a0_6 a0_7:Int) (a0_8 a0_9:ByteArray) (a0_10:Bool) (r1:List (S53)) (r2:Int) (w:World) (h:impl_ConnAgain.f k a0_0 a0_1 a0_2 a0_3 a0_4 a0_5 a0_6 a0_7 a0_8 a0_9 a0_10 = some (r1,r2)) :
  Calls Try.prog 42 #[.agg #[.string a0_0,.int .i64 a0_1,.int .i64 a0_2,.int .i64 a0_3,.int .i64 a0_4,.int .i64 a0_5,.int .i64 a0_6,.int .i64 a0_7,.string a0_8,.string a0_9,.bool a0_10]] w fun e w' => ∃ v0_:Value,e = .returned (.tuple #[v0_,.int .i64 r2])∧Kd.R k53 53 w' w.heap.size (fun _ => True) v0_ r1∧Below w.heap.size w w':=by
 have hu34:=Try.underlying34
 have HB:=aMk (Below.refl w.heap.size w)
 have H:=h
 unfold impl_ConnAgain.f at H
 clear h
 replace H:=Option.bind_eq_some_iff.mp H
 obtain ⟨t626,A20,H⟩:=H
 try dsimp only at H
 have A2:=aMk A20
 clear A20
 by_cases c3:t626 = true
 ·subst c3
  have H1:=H
  rw [if_pos rfl] at H1
  clear H
  have H:=H1
  clear H1
  replace H:=Option.bind_eq_some_iff.mp H
  obtain ⟨t627,A40,H⟩:=H
  try dsimp only at H
  have A4:=aMk A40
  clear A40
  simp only [Option.some.injEq,Prod.mk.injEq] at H
  obtain ⟨rfl,rfl⟩:=H
  go_enter Try.func42,Try.ntmps42
  go_wp2_with (first|((with_reducible refine gate_dst (N:=1) rfl ?_);refine bxE (N:=1) (cs:=#[.string a0_0,.int .i64 a0_1,.int .i64 a0_2,.int .i64 a0_3,.int .i64 a0_4,.int .i64 a0_5,.int .i64 a0_6,.int .i64 a0_7,.string a0_8,.string a0_9,.bool a0_10]) (t:=34) ?_;intro gb625 hg w5 hbox hb;have HI625:=aMk ((show IsS34 w w5 gb625 a0_0 a0_1 a0_2 a0_3 a0_4 a0_5 a0_6 a0_7 a0_8 a0_9 a0_10 from ⟨hbox,(by rw [hg];exact bSz:w.heap.size≤gb625)⟩));replace HB:=aMk (bSt hb);clear hb hbox hg;obtain ⟨HGz6,hgz6⟩:=HI625.out;have Z6_0:=cellS34_0 HGz6;have Z6_1:=cellS34_1 HGz6;have Z6_2:=cellS34_2 HGz6;have Z6_3:=cellS34_3 HGz6;have Z6_4:=cellS34_4 HGz6;have Z6_5:=cellS34_5 HGz6;have Z6_6:=cellS34_6 HGz6;have Z6_7:=cellS34_7 HGz6;have Z6_8:=cellS34_8 HGz6;have Z6_9:=cellS34_9 HGz6;have Z6_10:=cellS34_10 HGz6;have Y6_0:=bFr HGz6 0;have Y6_1:=bFr HGz6 1;have Y6_2:=bFr HGz6 2;have Y6_3:=bFr HGz6 3;have Y6_4:=bFr HGz6 4;have Y6_5:=bFr HGz6 5;have Y6_6:=bFr HGz6 6;have Y6_7:=bFr HGz6 7;have Y6_8:=bFr HGz6 8;have Y6_9:=bFr HGz6 9;have Y6_10:=bFr HGz6 10;clear HGz6 hgz6)|((with_reducible refine gate_callee (f:=25) rfl ?_);refine gLs 5 Try.func25 #[.agg #[.string a0_0,.int .i64 a0_1,.int .i64 a0_2,.int .i64 a0_3,.int .i64 a0_4,.int .i64 a0_5,.int .i64 a0_6,.int .i64 a0_7,.string a0_8,.string a0_9,.bool a0_10]] ?_;(with_reducible refine (impl_ConnOK.calls k a0_0 a0_1 a0_2 a0_3 a0_4 a0_5 a0_6 a0_7 a0_8 a0_9 a0_10 true _ A2.out).mono ?_);rintro e w7 ⟨rfl,hb⟩;refine ⟨_,rfl,?_⟩;replace HI625:=aMk (IsS34.below (iQ34 HI625.out) hb);replace HB:=aMk (below_step bW34 hb))|((with_reducible refine gate_callee (f:=91) rfl ?_);refine gLs 7 Try.func91 #[.pointer (some ⟨gb625,0,none⟩)] ?_;(with_reducible refine (impl_Conn_again.calls k gb625 a0_0 a0_1 a0_2 a0_3 a0_4 a0_5 a0_6 a0_7 a0_8 a0_9 a0_10 t627 w _ ?side1 ?side2 A4.out).mono ?_);(case side1 => exact iQ34 HI625.out);(case side2 => repeat (first|(with_reducible first|exact HB.out|apply bwA|apply bwN|apply bw1|refine below_set ?_ (IsS34.ge HI625.out))|exact HB.out));rintro e w8 ⟨v628,rfl,ho0,hi,hb,hk⟩;refine ⟨_,rfl,?_⟩;have HO629:=aMk (Kd.R_lower ho0 (below_size bW34));replace HB:=aMk (hb);replace HI625:=aMk (hi);(try clear ho0)))
  go_ret2
  exact ⟨_,eRf,kR (HO629.out),bW34⟩
 ·replace c3:=Bool.eq_false_iff.mpr c3
  subst c3
  have H1:=H
  rw [if_neg (show ¬ (false = true) by decide)] at H1
  clear H
  have H:=H1
  clear H1
  simp only [Option.some.injEq,Prod.mk.injEq] at H
  obtain ⟨rfl,rfl⟩:=H
  go_enter Try.func42,Try.ntmps42
  go_wp2_with (first|((with_reducible refine gate_dst (N:=1) rfl ?_);refine bxE (N:=1) (cs:=#[.string a0_0,.int .i64 a0_1,.int .i64 a0_2,.int .i64 a0_3,.int .i64 a0_4,.int .i64 a0_5,.int .i64 a0_6,.int .i64 a0_7,.string a0_8,.string a0_9,.bool a0_10]) (t:=34) ?_;intro gb625 hg w9 hbox hb;have HI625:=aMk ((show IsS34 w w9 gb625 a0_0 a0_1 a0_2 a0_3 a0_4 a0_5 a0_6 a0_7 a0_8 a0_9 a0_10 from ⟨hbox,(by rw [hg];exact bSz:w.heap.size≤gb625)⟩));replace HB:=aMk (bSt hb);clear hb hbox hg;obtain ⟨HGz10,hgz10⟩:=HI625.out;have Z10_0:=cellS34_0 HGz10;have Z10_1:=cellS34_1 HGz10;have Z10_2:=cellS34_2 HGz10;have Z10_3:=cellS34_3 HGz10;have Z10_4:=cellS34_4 HGz10;have Z10_5:=cellS34_5 HGz10;have Z10_6:=cellS34_6 HGz10;have Z10_7:=cellS34_7 HGz10;have Z10_8:=cellS34_8 HGz10;have Z10_9:=cellS34_9 HGz10;have Z10_10:=cellS34_10 HGz10;have Y10_0:=bFr HGz10 0;have Y10_1:=bFr HGz10 1;have Y10_2:=bFr HGz10 2;have Y10_3:=bFr HGz10 3;have Y10_4:=bFr HGz10 4;have Y10_5:=bFr HGz10 5;have Y10_6:=bFr HGz10 6;have Y10_7:=bFr HGz10 7;have Y10_8:=bFr HGz10 8;have Y10_9:=bFr HGz10 9;have Y10_10:=bFr HGz10 10;clear HGz10 hgz10)|((with_reducible refine gate_callee (f:=25) rfl ?_);refine gLs 5 Try.func25 #[.agg #[.string a0_0,.int .i64 a0_1,.int .i64 a0_2,.int .i64 a0_3,.int .i64 a0_4,.int .i64 a0_5,.int .i64 a0_6,.int .i64 a0_7,.string a0_8,.string a0_9,.bool a0_10]] ?_;(with_reducible refine (impl_ConnOK.calls k a0_0 a0_1 a0_2 a0_3 a0_4 a0_5 a0_6 a0_7 a0_8 a0_9 a0_10 false _ A2.out).mono ?_);rintro e w11 ⟨rfl,hb⟩;refine ⟨_,rfl,?_⟩;replace HI625:=aMk (IsS34.below (iQ34 HI625.out) hb);replace HB:=aMk (below_step bW34 hb)))
  go_ret2
  exact ⟨_,eRf,by first|exact Kd.R_nil _ _ _ _ _|exact Kd.N_nil _ _ _ _ _|exact Kd.V_nil _ _ _ _ _|exact Kd.Q_nil _ _ _ _ _|exact Kd.S_nil _ _ _ _ _,bW34⟩
end
section
-- IMPORT Derived.Lib.Strings
theorem toList_nil_iff (s:ByteArray):s.toList = [] ↔ s.size = 0:=by
 rw [Lib.toList_data,Lib.size_eq,List.length_eq_zero_iff]
end
section
-- NEEDS spec.l01In impl.within
theorem l01In_eq (a b c:Int):spec_l01In.f a b c = some (decide (b≤a∧a≤c)):=by unfold spec_l01In.f;grind
theorem within_eq (a b c:Int):impl_within.f a b c = some (decide (b≤a∧a≤c)):=by unfold impl_within.f;grind
end
section
-- NEEDS spec.l01Ip impl.isAddress
theorem l01Ip_eq (a:Int):spec_l01Ip.f a = some (decide (0≤a∧a≤4294967295)):=by simp only [spec_l01Ip.f,l01In_eq,Option.bind_some]
theorem isAddress_eq (a:Int):impl_isAddress.f a = some (decide (0≤a∧a≤4294967295)):=by simp only [impl_isAddress.f,within_eq,Option.bind_some]
end
section
-- NEEDS spec.l02Port impl.isPort
theorem l02Port_eq (a:Int):spec_l02Port.f a = some (decide (0≤a∧a≤65535)):=by simp only [spec_l02Port.f,l01In_eq,Option.bind_some]
theorem isPort_eq (a:Int):impl_isPort.f a = some (decide (0≤a∧a≤65535)):=by simp only [impl_isPort.f,within_eq,Option.bind_some]
end
section
-- NEEDS spec.l10Seq impl.behind
theorem l10Seq_eq (a:Int):spec_l10Seq.f a = some (a % 4294967296):=by simp only [spec_l10Seq.f,and32]
theorem behind_eq (a b:Int) (ha:0≤a∧a≤4294967295) (hb:0≤b∧b≤4294967295):impl_behind.f a b = some ((a - b) % 4294967296):=by
 have e:wrap64 ((wrap64 (a - b)) + 4294967296) = a - b + 4294967296:=by rw [wrap_id (n:=a - b) (by omega) (by omega),wrap_id (by omega) (by omega)]
 simp only [impl_behind.f,e]
 rw [Int.tmod_eq_emod_of_nonneg (by omega)]
 congr 1
 omega
end
section
-- NEEDS impl.ConnOK spec.ConnOK
/-- What stands behind the bounds. -/
def connRest (st una nxt:Int) (inn out:ByteArray) (fin:Bool):Bool :=
 (fin == decide (st = 3)) && ((fin || decide (out.toList = [])) && ((!decide (st = 1) || decide (inn.toList = [])) && decide ((nxt - una) % 4294967296 = (out.size:Int) + (if fin = true then 1 else 0) + (if st = 1 then 1 else 0))))
def connOKb (mac:ByteArray) (ip port dst st una nxt want:Int) (inn out:ByteArray) (fin:Bool):Bool :=
 decide ((mac.size:Int) = 6) && (decide (0≤ip∧ip≤4294967295) && (decide (0≤port∧port≤65535) && (decide (0≤dst∧dst≤4294967295) && (decide (1≤st∧st≤4) && (decide (0≤una∧una≤4294967295) && (decide (0≤nxt∧nxt≤4294967295) && (decide (0≤want∧want≤4294967295) &&
  (decide ((inn.size:Int)≤300) && (decide ((out.size:Int)≤300) && connRest st una nxt inn out fin)))))))))
theorem impl_ConnOK_j2 (k:Nat) (x:Bool) (mac:ByteArray) (ip port dst st una nxt want:Int) (inn out:ByteArray) (fin:Bool) (hu:0≤una∧una≤4294967295) (hn:0≤nxt∧nxt≤4294967295) (ho:(out.size:Int)≤300) :
  impl_ConnOK.j2 (k + 1) x mac ip port dst st una nxt want inn out fin = some (!x && decide ((nxt - una) % 4294967296 = (out.size:Int) + (if fin = true then 1 else 0) + (if st = 1 then 1 else 0))):=by
 simp only [impl_ConnOK.j2,impl_oneIf.f,behind_eq nxt una hn hu,Option.bind_some]
 cases x
 ·rw [if_neg (by decide)]
  cases fin <;> by_cases h1:st = 1 <;> simp only [h1,Bool.false_eq_true,if_true,if_false,Option.bind_some,beq_iff_eq,beq_self_eq_true] <;> rw [wrap_id (n:=wrap64 ((out.size:Int) + _) + _) (by rw [wrap_id (by omega) (by omega)];omega) (by rw [wrap_id (by omega) (by omega)];omega),wrap_id (by omega) (by omega)] <;> rfl
 ·rfl
theorem impl_ConnOK_j1 (k:Nat) (x:Bool) (mac:ByteArray) (ip port dst st una nxt want:Int) (inn out:ByteArray) (fin:Bool) (hu:0≤una∧una≤4294967295) (hn:0≤nxt∧nxt≤4294967295) (ho:(out.size:Int)≤300) :
  impl_ConnOK.j1 (k + 2) x mac ip port dst st una nxt want inn out fin = some (!x && connRest st una nxt inn out fin):=by
 simp only [impl_ConnOK.j1,impl_ConnOK_j2 k _ mac ip port dst st una nxt want inn out fin hu hn ho,connRest]
 cases x
 ·cases fin <;> by_cases h1:st = 1 <;> by_cases h3:st = 3 <;> by_cases ho:out.toList = [] <;> by_cases hi:inn.toList = [] <;> simp [h1,h3,ho,hi]
  all_goals omega
 ·rfl
theorem gt_le_b (n m:Int):decide (n > m) = !decide (n≤m):=by by_cases h:n≤m <;> simp [h];omega
theorem impl_ConnOK_j0 (k:Nat) (x:Bool) (mac:ByteArray) (ip port dst st una nxt want:Int) (inn out:ByteArray) (fin:Bool) :
  impl_ConnOK.j0 (k + 3) x mac ip port dst st una nxt want inn out fin = some (!x && (decide (0≤una∧una≤4294967295) && (decide (0≤nxt∧nxt≤4294967295) && (decide (0≤want∧want≤4294967295) && (decide ((inn.size:Int)≤300) && (decide ((out.size:Int)≤300) && connRest st una nxt inn out fin)))))):=by
 have hj:=fun y => impl_ConnOK_j1 k y mac ip port dst st una nxt want inn out fin
 have ht:impl_ConnOK.j1 (k + 2) true mac ip port dst st una nxt want inn out fin = some false:=by simp [impl_ConnOK.j1]
 simp only [impl_ConnOK.j0,isAddress_eq,Option.bind_some,gt_le_b]
 by_cases hi:(inn.size:Int)≤300
 ·rw [if_neg (show ¬ (inn.size:Int) > 300 by omega),decide_eq_true hi]
  by_cases ho:(out.size:Int)≤300
  ·rw [decide_eq_true ho]
   by_cases hu:0≤una∧una≤4294967295
   ·by_cases hn:0≤nxt∧nxt≤4294967295
    ·rw [decide_eq_true hu,decide_eq_true hn,ht,hj _ hu hn ho]
     generalize decide (0≤want∧want≤4294967295) = q
     cases x <;> cases q <;> simp
    ·rw [decide_eq_true hu,decide_eq_false hn,ht]
     cases x <;> simp
   ·rw [decide_eq_false hu,ht]
    cases x <;> simp
  ·rw [decide_eq_false ho,Bool.not_false,ht]
   generalize decide (0≤want∧want≤4294967295) = q
   generalize decide (0≤una∧una≤4294967295) = q1
   generalize decide (0≤nxt∧nxt≤4294967295) = q2
   cases x <;> cases q <;> cases q1 <;> cases q2 <;> simp
 ·rw [if_pos (show (inn.size:Int) > 300 by omega),decide_eq_false hi,ht]
  generalize decide (0≤want∧want≤4294967295) = q
  generalize decide (0≤una∧una≤4294967295) = q1
  generalize decide (0≤nxt∧nxt≤4294967295) = q2
  cases x <;> cases q <;> cases q1 <;> cases q2 <;> simp
theorem impl_ConnOK_eq (k:Nat) (mac:ByteArray) (ip port dst st una nxt want:Int) (inn out:ByteArray) (fin:Bool) :
  impl_ConnOK.f (k + 3) mac ip port dst st una nxt want inn out fin = some (connOKb mac ip port dst st una nxt want inn out fin):=by
 have e:((mac.size:Int) == 6) = decide ((mac.size:Int) = 6):=rfl
 simp only [impl_ConnOK.f,impl_ConnOK_j0,impl_macOK.f,isAddress_eq,isPort_eq,within_eq,Option.bind_some,connOKb,e]
 generalize decide ((mac.size:Int) = 6) = p1
 generalize decide (0≤ip∧ip≤4294967295) = p2
 generalize decide (0≤port∧port≤65535) = p3
 generalize decide (0≤dst∧dst≤4294967295) = p4
 cases p1 <;> cases p2 <;> cases p3 <;> cases p4 <;> simp
theorem spec_ConnOK_j1 (k:Nat) (x:Bool) (mac:ByteArray) (ip port dst st una nxt want:Int) (inn out:ByteArray) (fin:Bool) (hu:0≤una∧una≤4294967295) (hn:0≤nxt∧nxt≤4294967295) (ho:(out.size:Int)≤300) :
  spec_ConnOK.j1 (k + 1) x mac ip port dst st una nxt want inn out fin = some (!x && decide ((nxt - una) % 4294967296 = (out.size:Int) + (if fin = true then 1 else 0) + (if st = 1 then 1 else 0))):=by
 simp only [spec_ConnOK.j1,spec_l10Sent.f,spec_l01Bit.f,l10Seq_eq,Option.bind_some]
 rw [wrap_id (n:=nxt - una) (by omega) (by omega)]
 cases x
 ·rw [if_neg (by decide)]
  cases fin <;> by_cases h1:st = 1 <;> simp only [h1,Bool.false_eq_true,if_true,if_false,Option.bind_some,beq_iff_eq,beq_self_eq_true] <;> rw [wrap_id (n:=wrap64 ((out.size:Int) + _) + _) (by rw [wrap_id (by omega) (by omega)];omega) (by rw [wrap_id (by omega) (by omega)];omega),wrap_id (by omega) (by omega)] <;> rfl
 ·rfl
theorem spec_ConnOK_j0 (k:Nat) (x:Bool) (mac:ByteArray) (ip port dst st una nxt want:Int) (inn out:ByteArray) (fin:Bool) (hu:0≤una∧una≤4294967295) (hn:0≤nxt∧nxt≤4294967295) (ho:(out.size:Int)≤300) :
  spec_ConnOK.j0 (k + 2) x mac ip port dst st una nxt want inn out fin = some (!x && connRest st una nxt inn out fin):=by
 simp only [spec_ConnOK.j0,spec_ConnOK_j1 k _ mac ip port dst st una nxt want inn out fin hu hn ho,connRest]
 cases x
 ·cases fin <;> by_cases h1:st = 1 <;> by_cases h3:st = 3 <;> by_cases ho:out.toList = [] <;> by_cases hi:inn.toList = [] <;> simp [h1,h3,ho,hi]
  all_goals omega
 ·rfl
theorem spec_ConnOK_eq (k:Nat) (mac:ByteArray) (ip port dst st una nxt want:Int) (inn out:ByteArray) (fin:Bool) :
  spec_ConnOK.f (k + 2) mac ip port dst st una nxt want inn out fin = some (connOKb mac ip port dst st una nxt want inn out fin):=by
 have e:((mac.size:Int) == 6) = decide ((mac.size:Int) = 6):=rfl
 have hj:=fun y => spec_ConnOK_j0 k y mac ip port dst st una nxt want inn out fin
 have ht:spec_ConnOK.j0 (k + 2) true mac ip port dst st una nxt want inn out fin = some false:=by simp [spec_ConnOK.j0]
 simp only [spec_ConnOK.f,spec_l01Mac.f,spec_l07Ask.f,l01Ip_eq,l02Port_eq,l01In_eq,Option.bind_some,connOKb,e,ht,gt_le_b]
 generalize decide ((mac.size:Int) = 6) = p1
 generalize decide (0≤ip∧ip≤4294967295) = p2
 generalize decide (0≤port∧port≤65535) = p3
 generalize decide (0≤dst∧dst≤4294967295) = p4
 generalize decide (1≤st∧st≤4) = p5
 generalize decide (0≤want∧want≤4294967295) = p6
 by_cases hi:(inn.size:Int)≤300
 ·rw [if_neg (show ¬ (inn.size:Int) > 300 by omega),decide_eq_true hi]
  by_cases hu:0≤una∧una≤4294967295
  ·by_cases hn:0≤nxt∧nxt≤4294967295
   ·by_cases ho:(out.size:Int)≤300
    ·rw [decide_eq_true hu,decide_eq_true hn,decide_eq_true ho,hj _ hu hn ho]
     cases p1 <;> cases p2 <;> cases p3 <;> cases p4 <;> cases p5 <;> cases p6 <;> simp
    ·rw [decide_eq_true hu,decide_eq_true hn,decide_eq_false ho,Bool.not_false,ht]
     cases p1 <;> cases p2 <;> cases p3 <;> cases p4 <;> cases p5 <;> cases p6 <;> simp
   ·rw [decide_eq_true hu,decide_eq_false hn]
    cases p1 <;> cases p2 <;> cases p3 <;> cases p4 <;> cases p5 <;> simp
  ·rw [decide_eq_false hu]
   cases p1 <;> cases p2 <;> cases p3 <;> cases p4 <;> cases p5 <;> simp
 ·rw [if_pos (show (inn.size:Int) > 300 by omega),decide_eq_false hi]
  generalize decide (0≤una∧una≤4294967295) = p7
  generalize decide (0≤nxt∧nxt≤4294967295) = p8
  cases p1 <;> cases p2 <;> cases p3 <;> cases p4 <;> cases p5 <;> cases p6 <;> cases p7 <;> cases p8 <;> simp
end
section
-- NEEDS impl.onward
theorem onward_eq (a n:Int) (ha:0≤a∧a≤4294967295) (hn:0≤n∧n≤4294967295):impl_onward.f a n = some ((a + n) % 4294967296):=by
 simp only [impl_onward.f]
 rw [wrap_id (by omega) (by omega),Int.tmod_eq_emod_of_nonneg (by omega)]
end
section
-- NEEDS impl.ConnSay spec.ConnSay spec.l10Pieces
end
section
-- NEEDS impl.ConnAgain spec.ConnAgain impl.ConnSay
theorem connOKb_facts {m:ByteArray} {ip port dst st una nxt want:Int} {inn out:ByteArray} {fin:Bool} (h:connOKb m ip port dst st una nxt want inn out fin = true) :
  (1≤st∧st≤4)∧(0≤una∧una≤4294967295)∧(0≤nxt∧nxt≤4294967295)∧(0≤want∧want≤4294967295)∧(inn.size:Int)≤300∧(out.size:Int)≤300∧(fin = true ↔ st = 3)∧(fin = false→out.size = 0)∧(st = 1→inn.size = 0) ∧
  (nxt - una) % 4294967296 = (out.size:Int) + (if fin = true then 1 else 0) + (if st = 1 then 1 else 0):=by
 simp only [connOKb,connRest,Bool.and_eq_true,decide_eq_true_eq,beq_iff_eq,Bool.or_eq_true,Bool.not_eq_true',decide_eq_false_iff_not,toList_nil_iff] at h
 obtain ⟨_,_,_,_,h5,h6,h7,h8,h9,h10,h11,h12,h13,h14⟩:=h
 refine ⟨h5,h6,h7,h8,h9,h10,?_,?_,?_,h14⟩
 ·rw [h11,decide_eq_true_eq]
 ·intro hf
  rcases h12 with h12 | h12
  ·rw [h12] at hf;cases hf
  ·exact h12
 ·intro hs
  rcases h13 with h13 | h13
  ·exact absurd hs h13
  ·exact h13
end
section
-- NEEDS impl.segmentOK spec.l02Segment
theorem ite_tf' (p b:Bool):(if p = true then some b else some false) = some (p && b):=by cases p <;> rfl
def segOKb (a b c d e f:Int) (t:ByteArray):Bool:=decide (0≤a∧a≤65535) && (decide (0≤b∧b≤65535) && (decide (0≤c∧c≤4294967295) && (decide (0≤d∧d≤4294967295) && (decide (0≤e∧e≤31) && (decide (0≤f∧f≤65535) && decide ((t.size:Int)≤360))))))
theorem impl_segmentOK_eq (a b c d e f:Int) (t:ByteArray):impl_segmentOK.f a b c d e f t = some (segOKb a b c d e f t):=by
 simp only [impl_segmentOK.f,isPort_eq,isAddress_eq,within_eq,Option.bind_some,ite_tf',segOKb]
theorem spec_l02Segment_eq (a b c d e f:Int) (t:ByteArray):spec_l02Segment.f a b c d e f t = some (segOKb a b c d e f t):=by
 simp only [spec_l02Segment.f,l02Port_eq,l01Ip_eq,l01In_eq,Option.bind_some,ite_tf',segOKb]
theorem segOKb_seq {a b c d e f:Int} {t:ByteArray} (h:segOKb a b c d e f t = true):(0≤a∧a≤65535)∧(0≤c∧c≤4294967295)∧(0≤d∧d≤4294967295)∧(0≤e∧e≤31)∧(t.size:Int)≤360:=by
 simp only [segOKb,Bool.and_eq_true,decide_eq_true_eq] at h
 omega
end
section
-- NEEDS impl.ConnTake spec.ConnTake impl.ConnAgain
theorem room_le {x y:ByteArray} (h:(x.size:Int)≤300) (h2:(y.size:Int)≤360):x.size + y.size≤9223372036854775807:=by omega
theorem acked_same {m:ByteArray} {ip port dst st una nxt want:Int} {inn out:ByteArray} {fin:Bool} (hok:connOKb m ip port dst st una nxt want inn out fin = true) (ack:Int) (ha:0≤ack∧ack≤4294967295) :
  ∃ (st' una':Int) (out':ByteArray) (fin':Bool),impl_Conn_acknowledge.f m ip port dst st una nxt want inn out fin ack = some (m,ip,port,dst,st',una',nxt,want,inn,out',fin')∧∀ k,spec_l10Acked.f (k + 1) m ip port dst st una nxt want inn out fin ack = some (m,ip,port,dst,st',una',nxt,want,inn,out',fin'):=by
 obtain ⟨h5,h6,h7,h8,h9,h10,hf,ho,hin,hlast⟩:=connOKb_facts hok
 have hw:wrap64 (ack - una) = ack - una:=wrap_id (by omega) (by omega)
 have hsent:spec_l10Sent.f m ip port dst st una nxt want inn out fin = some ((out.size:Int) + (if fin = true then 1 else 0) + (if st = 1 then 1 else 0)):=by
  simp only [spec_l10Sent.f,spec_l01Bit.f]
  cases fin
  ·by_cases h1:st = 1
   ·subst h1
    simp
    rw [wrap_id (n:=(out.size:Int)) (by omega) (by omega),wrap_id (by omega) (by omega)]
   ·rw [beq_eq_false_iff_ne.2 h1]
    simp [h1]
    rw [wrap_id (n:=(out.size:Int)) (by omega) (by omega),wrap_id (by omega) (by omega)]
  ·have h3:=hf.1 rfl
   subst h3
   simp
   rw [wrap_id (n:=(out.size:Int) + 1) (by omega) (by omega),wrap_id (by omega) (by omega)]
 simp only [impl_Conn_acknowledge.f,spec_l10Acked.f,behind_eq ack una ha h6,behind_eq nxt una h7 h6,within_eq,l10Seq_eq,hw,hsent,Option.bind_some,spec_l10Acked.j0]
 rw [hlast]
 have hd0:0≤(ack - una) % 4294967296:=Int.emod_nonneg _ (by decide)
 generalize (ack - una) % 4294967296 = d at hd0
 have hn0:0≤(if fin = true then (1:Int) else 0)∧(if fin = true then (1:Int) else 0)≤1:=by split <;> omega
 have hn1:0≤(if st = 1 then (1:Int) else 0)∧(if st = 1 then (1:Int) else 0)≤1:=by split <;> omega
 have hx:(st ≠ 1∧d > (out.size:Int)∧d≤(out.size:Int) + (if fin = true then 1 else 0) + (if st = 1 then 1 else 0))→st = 3:=by
  rintro ⟨h1,h2,h3⟩
  rw [if_neg h1] at h3
  by_cases hfin:fin = true
  ·exact hf.1 hfin
  ·rw [if_neg hfin] at h3
   omega
 generalize (if fin = true then (1:Int) else 0) = n0 at hn0 hx hsent ⊢
 generalize (if st = 1 then (1:Int) else 0) = n1 at hn1 hx hsent ⊢
 clear hlast hsent hw
 by_cases hd:1≤d∧d≤(out.size:Int) + n0 + n1
 ·rw [if_pos (decide_eq_true hd)]
  have e0:¬ d = 0:=by omega
  have e1:decide (d > (out.size:Int) + n0 + n1) = false:=decide_eq_false (by omega)
  simp only [if_neg e0,e1,Bool.false_eq_true,if_false]
  by_cases h1:st = 1
  ·rw [if_pos h1]
   exact ⟨_,_,_,_,rfl,fun k => by rw [if_pos h1]⟩
  ·rw [if_neg h1]
   by_cases h2:d > (out.size:Int)
   ·rw [if_pos h2]
    exact ⟨_,_,_,_,rfl,fun k => by rw [if_neg h1,if_pos h2,if_pos (hx ⟨h1,h2,hd.2⟩)]⟩
   ·rw [if_neg h2,if_pos hd0,if_pos (by omega)]
    exact ⟨_,_,_,_,rfl,fun k => by rw [if_neg h1,if_neg h2]⟩
 ·rw [if_neg (by simpa using hd)]
  refine ⟨_,_,_,_,rfl,fun k => ?_⟩
  by_cases e0:d = 0
  ·rw [if_pos e0]
   rfl
  ·have e1:decide (d > (out.size:Int) + n0 + n1) = true:=decide_eq_true (by omega)
   rw [if_neg e0,e1]
   rfl
theorem take_same {m:ByteArray} {ip port dst st una nxt want:Int} {inn out:ByteArray} {fin:Bool} (hok:connOKb m ip port dst st una nxt want inn out fin = true) (g0 g1 g2 g3 g4 g5:Int) (g6:ByteArray) (hg:segOKb g0 g1 g2 g3 g4 g5 g6 = true) :
  ∃ (c0:ByteArray) (c1 c2 c3 c4 c5 c6 c7:Int) (c8 c9:ByteArray) (c10:Bool) (l:List S53),l.length≤1∧(∀ k,impl_Conn_take.f (k + 4) m ip port dst st una nxt want inn out fin g0 g1 g2 g3 g4 g5 g6 = some (l,c0,c1,c2,c3,c4,c5,c6,c7,c8,c9,c10))∧∀ k,spec_l10Take.f (k + 4) m ip port dst st una nxt want inn out fin g0 g1 g2 g3 g4 g5 g6 = some (c0,c1,c2,c3,c4,c5,c6,c7,c8,c9,c10,l):=by
 obtain ⟨h5,h6,h7,h8,h9,h10,hf,ho,hin,hlast⟩:=connOKb_facts hok
 obtain ⟨s0,s2,s3,s4,s6⟩:=segOKb_seq hg
 unfold impl_Conn_take.f spec_l10Take.f
 simp only [Option.bind_some]
 by_cases b0:st = 4
 ·simp only [if_pos b0]
  exact ⟨_,_,_,_,_,_,_,_,_,_,_,_,by simp,fun _ => rfl,fun _ => rfl⟩
 by_cases b1:Go.bits .and .i64 g4 4 = 0
 rotate_left
 ·by_cases b2:g2 = want
  ·simp only [if_neg b0,if_neg b1,if_pos b2]
   exact ⟨_,_,_,_,_,_,_,_,_,_,_,_,by simp,fun _ => rfl,fun _ => rfl⟩
  ·simp only [if_neg b0,if_neg b1,if_neg b2]
   exact ⟨_,_,_,_,_,_,_,_,_,_,_,_,by simp,fun _ => rfl,fun _ => rfl⟩
 by_cases b2:Go.bits .and .i64 g4 2 = 0
 rotate_left
 ·by_cases b3:st = 1
  ·have e1:wrap64 (g2 + 1) = g2 + 1:=wrap_id (by omega) (by omega)
   have e2:((g2 + 1) % 4294967296 == want) = (want == (g2 + 1) % 4294967296):=by rw [Bool.beq_comm]
   simp only [if_neg b0,if_pos b1,if_neg b2,if_pos b3,onward_eq g2 1 s2 (by omega),l10Seq_eq,e1,e2,Option.bind_some,impl_Conn_take.j0,spec_l10Take.j0,impl_Conn_opened.f,impl_Conn_tell.f,spec_l10Reply.f]
   cases (want == (g2 + 1) % 4294967296)
   ·exact ⟨_,_,_,_,_,_,_,_,_,_,_,_,by simp,fun _ => rfl,fun _ => rfl⟩
   ·exact ⟨_,_,_,_,_,_,_,_,_,_,_,_,by simp,fun _ => rfl,fun _ => rfl⟩
  ·simp only [if_neg b0,if_pos b1,if_neg b2,if_neg b3,Option.bind_some,impl_Conn_take.j0,spec_l10Take.j0,impl_Conn_opened.f,impl_Conn_tell.f,spec_l10Reply.f]
   exact ⟨_,_,_,_,_,_,_,_,_,_,_,_,by simp,fun _ => rfl,fun _ => rfl⟩
 by_cases b3:Go.bits .and .i64 g4 16 = 0
 ·simp only [if_neg b0,if_pos b1,if_pos b2,if_pos b3]
  exact ⟨_,_,_,_,_,_,_,_,_,_,_,_,by simp,fun _ => rfl,fun _ => rfl⟩
 obtain ⟨st',una',out',fin',a1,a2⟩:=acked_same hok g3 s3
 simp only [if_neg b0,if_pos b1,if_pos b2,if_neg b3,a1,a2,Option.bind_some]
 clear a1 a2 hok hg hlast hin ho hf b0 b1 b2 b3
 by_cases d0:st' = 1
 ·have hoi:∃ t,impl_oneIf.f (Go.bits .and .i64 g4 1 != 0) = some t:=by unfold impl_oneIf.f;split <;> exact ⟨_,rfl⟩
  obtain ⟨t,ht⟩:=hoi
  simp only [if_pos d0,ht,Option.bind_some,impl_Conn_take.j1,spec_l10Take.j1,if_true]
  exact ⟨_,_,_,_,_,_,_,_,_,_,_,_,by simp,fun _ => rfl,fun _ => rfl⟩
 by_cases d1:st' = 4
 ·have hoi:∃ t,impl_oneIf.f (Go.bits .and .i64 g4 1 != 0) = some t:=by unfold impl_oneIf.f;split <;> exact ⟨_,rfl⟩
  obtain ⟨t,ht⟩:=hoi
  simp only [if_neg d0,if_pos d1,ht,Option.bind_some,beq_iff_eq,impl_Conn_take.j1,spec_l10Take.j1,if_true]
  exact ⟨_,_,_,_,_,_,_,_,_,_,_,_,by simp,fun _ => rfl,fun _ => rfl⟩
 have f1:(st' == 4) = false:=beq_eq_false_iff_ne.2 d1
 have hw1:wrap64 (want + (g6.size:Int)) = want + (g6.size:Int):=wrap_id (by omega) (by omega)
 have hw2:wrap64 ((inn.size:Int) + (g6.size:Int)) = (inn.size:Int) + (g6.size:Int):=wrap_id (by omega) (by omega)
 have hroom:inn.size + g6.size≤9223372036854775807:=room_le h9 s6
 -- the end's bit
 obtain ⟨t,ht,ht0,ht1,htb,hnx⟩:∃ t:Int,impl_oneIf.f (Go.bits .and .i64 g4 1 != 0) = some t∧0≤t∧t≤1∧(t == 0) = (Go.bits .and .i64 g4 1 == 0)∧(t = 0 ↔ Go.bits .and .i64 g4 1 = 0):=by
  by_cases hb:Go.bits .and .i64 g4 1 = 0
  ·exact ⟨0,by rw [hb];rfl,by omega,by omega,by rw [hb],by simp [hb]⟩
  ·refine ⟨1,by rw [impl_oneIf.f,if_pos (bne_iff_ne.2 hb)],by omega,by omega,?_,by simp [hb]⟩
   rw [beq_eq_false_iff_ne.2 hb]
   rfl
 have hw3:wrap64 ((g6.size:Int) + t) = (g6.size:Int) + t:=wrap_id (by omega) (by omega)
 have hw4:wrap64 ((want + (g6.size:Int)) % 4294967296 + 1) = (want + (g6.size:Int)) % 4294967296 + 1:=wrap_id (by omega) (by omega)
 have rest:∀ k,impl_Conn_take.j1 (k + 3) t false m ip port dst st' una' nxt want inn out' fin' g0 g1 g2 g3 g4 g5 g6 = (if g2 = want∧(inn.size:Int) + (g6.size:Int)≤300 then
    some ([⟨80,port,nxt,(want + ((g6.size:Int) + t)) % 4294967296,16,1000,⟨#[]⟩⟩],m,ip,port,dst,st',una',nxt,(want + ((g6.size:Int) + t)) % 4294967296,inn ++ g6,out',fin')
   else some ([⟨80,port,nxt,want,16,1000,⟨#[]⟩⟩],m,ip,port,dst,st',una',nxt,want,inn,out',fin')):=by
  intro k
  simp only [impl_Conn_take.j1,impl_Conn_take.j2,Bool.false_eq_true,if_false,hw2,hw3,onward_eq want ((g6.size:Int) + t) h8 (by omega),impl_Conn_tell.f,Option.bind_some]
  by_cases e1:g2 = want
  ·by_cases e2:(inn.size:Int) + (g6.size:Int)≤300
   ·simp only [if_pos e1,decide_eq_true e2,if_true,if_pos hroom,if_pos (show g2 = want∧(inn.size:Int) + (g6.size:Int)≤300 from ⟨e1,e2⟩)]
   ·simp only [if_pos e1,decide_eq_false e2,Bool.false_eq_true,if_false,if_neg (show ¬ (g2 = want∧(inn.size:Int) + (g6.size:Int)≤300) from fun h => e2 h.2)]
  ·simp only [if_neg e1,Bool.false_eq_true,if_false,if_neg (show ¬ (g2 = want∧(inn.size:Int) + (g6.size:Int)≤300) from fun h => e1 h.1)]
 have rest2:∀ k y,spec_l10Take.j2 (k + 2) y false m ip port dst st' una' nxt want inn out' fin' g0 g1 g2 g3 g4 g5 g6 = (if g2 = want∧(inn.size:Int) + (g6.size:Int)≤300 then
    some (m,ip,port,dst,st',una',nxt,(want + ((g6.size:Int) + t)) % 4294967296,inn ++ g6,out',fin',[⟨80,port,nxt,(want + ((g6.size:Int) + t)) % 4294967296,16,1000,⟨#[]⟩⟩])
   else some (m,ip,port,dst,st',una',nxt,want,inn,out',fin',[⟨80,port,nxt,want,16,1000,⟨#[]⟩⟩])):=by
  intro k y
  simp only [spec_l10Take.j2,spec_l10Take.j3,Bool.false_eq_true,if_false,hw1,hw2,hw4,l10Seq_eq,spec_l10Reply.f,Option.bind_some]
  by_cases e1:g2 = want
  ·by_cases e2:(inn.size:Int) + (g6.size:Int)≤300
   ·simp only [if_pos e1,decide_eq_true e2,if_true,if_pos hroom,if_pos (show g2 = want∧(inn.size:Int) + (g6.size:Int)≤300 from ⟨e1,e2⟩)]
    by_cases hb:Go.bits .and .i64 g4 1 = 0
    ·have t0:=hnx.2 hb
     rw [if_pos hb,t0,Int.add_zero]
    ·have t1:t = 1:=by have:=fun h => hb (hnx.1 h);omega
     have e3:((want + (g6.size:Int)) % 4294967296 + 1) % 4294967296 = (want + ((g6.size:Int) + 1)) % 4294967296:=by omega
     rw [if_neg hb,t1,e3]
   ·simp only [if_pos e1,decide_eq_false e2,Bool.false_eq_true,if_false,if_neg (show ¬ (g2 = want∧(inn.size:Int) + (g6.size:Int)≤300) from fun h => e2 h.2)]
  ·simp only [if_neg e1,Bool.false_eq_true,if_false,if_neg (show ¬ (g2 = want∧(inn.size:Int) + (g6.size:Int)≤300) from fun h => e1 h.1)]
 simp only [if_neg d0,if_neg d1,f1,ht,Option.bind_some]
 by_cases hd:g6.toList = []
 ·simp only [if_pos hd,htb]
  by_cases hb:Go.bits .and .i64 g4 1 = 0
  ·have hbb:(Go.bits .and .i64 g4 1 == 0) = true:=beq_iff_eq.2 hb
   refine ⟨m,ip,port,dst,st',una',nxt,want,inn,out',fin',[],by simp,fun k => ?_,fun k => ?_⟩
   ·rw [hbb,impl_Conn_take.j1,if_pos rfl]
   ·rw [spec_l10Take.j1,if_neg (by decide),if_pos hd,hbb,spec_l10Take.j2,if_pos rfl]
  ·have hbb:(Go.bits .and .i64 g4 1 == 0) = false:=beq_eq_false_iff_ne.2 hb
   have r1:=fun k => (rest (k + 1))
   have r2:=fun k => (rest2 (k + 1) [])
   by_cases hc:g2 = want∧(inn.size:Int) + (g6.size:Int)≤300
   ·simp only [if_pos hc] at r1 r2
    refine ⟨_,_,_,_,_,_,_,_,_,_,_,_,?_,fun k => by rw [hbb];exact r1 k,fun k => by rw [spec_l10Take.j1,if_neg (by decide),if_pos hd,hbb];exact r2 k⟩
    simp
   ·simp only [if_neg hc] at r1 r2
    refine ⟨_,_,_,_,_,_,_,_,_,_,_,_,?_,fun k => by rw [hbb];exact r1 k,fun k => by rw [spec_l10Take.j1,if_neg (by decide),if_pos hd,hbb];exact r2 k⟩
    simp
 ·simp only [if_neg hd]
  have r1:=fun k => (rest (k + 1))
  have r2:=fun k => (rest2 (k + 1) [])
  by_cases hc:g2 = want∧(inn.size:Int) + (g6.size:Int)≤300
  ·simp only [if_pos hc] at r1 r2
   refine ⟨_,_,_,_,_,_,_,_,_,_,_,_,?_,fun k => r1 k,fun k => by rw [spec_l10Take.j1,if_neg (by decide),if_neg hd];exact r2 k⟩
   simp
  ·simp only [if_neg hc] at r1 r2
   refine ⟨_,_,_,_,_,_,_,_,_,_,_,_,?_,fun k => r1 k,fun k => by rw [spec_l10Take.j1,if_neg (by decide),if_neg hd];exact r2 k⟩
   simp
theorem ConnTake_same (m:ByteArray) (ip port dst st una nxt want:Int) (inn out:ByteArray) (fin:Bool) (g0 g1 g2 g3 g4 g5:Int) (g6:ByteArray) :
  ∃ (c0:ByteArray) (c1 c2 c3 c4 c5 c6 c7:Int) (c8 c9:ByteArray) (c10:Bool) (l:List S53) (code:Int),l.length≤1∧Ev (fun k => impl_ConnTake.f k m ip port dst st una nxt want inn out fin g0 g1 g2 g3 g4 g5 g6) (c0,c1,c2,c3,c4,c5,c6,c7,c8,c9,c10,l,code)∧Ev (fun k => spec_ConnTake.f k m ip port dst st una nxt want inn out fin g0 g1 g2 g3 g4 g5 g6) (c0,c1,c2,c3,c4,c5,c6,c7,c8,c9,c10,l,code):=by
 cases hok:connOKb m ip port dst st una nxt want inn out fin
 ·refine ⟨⟨#[]⟩,0,0,0,0,0,0,0,⟨#[]⟩,⟨#[]⟩,false,[],1,by simp,⟨3,fun k hk => ?_⟩,⟨2,fun k hk => ?_⟩⟩
  ·obtain ⟨k,rfl⟩:∃ q,k = q + 3:=⟨k - 3,by omega⟩
   simp only [impl_ConnTake.f,impl_ConnOK_eq,hok,Option.bind_some,Bool.false_eq_true,if_false]
  ·obtain ⟨k,rfl⟩:∃ q,k = q + 2:=⟨k - 2,by omega⟩
   simp only [spec_ConnTake.f,spec_ConnOK_eq,hok,Option.bind_some,Bool.false_eq_true,if_false]
 cases hg:segOKb g0 g1 g2 g3 g4 g5 g6
 ·refine ⟨⟨#[]⟩,0,0,0,0,0,0,0,⟨#[]⟩,⟨#[]⟩,false,[],1,by simp,⟨3,fun k hk => ?_⟩,⟨2,fun k hk => ?_⟩⟩
  ·obtain ⟨k,rfl⟩:∃ q,k = q + 3:=⟨k - 3,by omega⟩
   simp only [impl_ConnTake.f,impl_ConnOK_eq,hok,impl_segmentOK_eq,hg,Option.bind_some,if_true,Bool.false_eq_true,if_false]
  ·obtain ⟨k,rfl⟩:∃ q,k = q + 2:=⟨k - 2,by omega⟩
   simp only [spec_ConnTake.f,spec_ConnOK_eq,hok,spec_l02Segment_eq,hg,Option.bind_some,if_true,Bool.false_eq_true,if_false]
 obtain ⟨c0,c1,c2,c3,c4,c5,c6,c7,c8,c9,c10,l,hl,e1,e2⟩:=take_same hok g0 g1 g2 g3 g4 g5 g6 hg
 refine ⟨c0,c1,c2,c3,c4,c5,c6,c7,c8,c9,c10,l,0,hl,⟨4,fun k hk => ?_⟩,⟨4,fun k hk => ?_⟩⟩
 ·obtain ⟨k,rfl⟩:∃ q,k = q + 4:=⟨k - 4,by omega⟩
  have h1:=impl_ConnOK_eq (k + 1) m ip port dst st una nxt want inn out fin
  rw [hok] at h1
  simp only [impl_ConnTake.f,h1,impl_segmentOK_eq,hg,Option.bind_some,if_true,e1]
 ·obtain ⟨k,rfl⟩:∃ q,k = q + 4:=⟨k - 4,by omega⟩
  have h1:=spec_ConnOK_eq (k + 2) m ip port dst st una nxt want inn out fin
  rw [hok] at h1
  simp only [spec_ConnTake.f,h1,spec_l02Segment_eq,hg,Option.bind_some,if_true,e2]
end
section
-- NEEDS laws.eqConn
theorem eqConn_refl (a:ByteArray) (b c d e f g h:Int) (i j:ByteArray) (l:Bool):laws_eqConn.f a b c d e f g h i j l a b c d e f g h i j l = some true:=by
 unfold laws_eqConn.f
 repeat' (first|rw [if_pos rfl] | rfl | rw [if_neg (by simp)])
end
section
theorem eq_T53_refl (x:S53):laws_eqSegment.f (x.f0) (x.f1) (x.f2) (x.f3) (x.f4) (x.f5) (x.f6) (x.f0) (x.f1) (x.f2) (x.f3) (x.f4) (x.f5) (x.f6) = some true:=by
 unfold laws_eqSegment.f
 repeat' (first|rw [if_pos rfl] | rfl | rw [if_neg (by simp)])
 all_goals simp
theorem eqS_T53_l0 (xs:List S53):∀ (d:Nat) (i:Int),0≤i→(xs.length:Int) - i = d→(xs.length:Int)≤1152921504606846976→Ev (fun k => laws_eqSegmentS.l0 k xs xs i) true:=by
 intro d
 induction d with
 | zero =>
  intro i h0 hd hx
  refine ⟨1,fun k hk => ?_⟩
  obtain ⟨k,rfl⟩:∃ q,k = q + 1:=⟨k - 1,by omega⟩
  simp only [laws_eqSegmentS.l0]
  rw [if_neg (by omega)]
 | succ d ih =>
  intro i h0 hd hx
  have hlt:i < (xs.length:Int):=by omega
  have ei:wrap64 (i + 1) = i + 1:=wrap_id (by omega) (by omega)
  refine Ev.step (f:=fun k => laws_eqSegmentS.l0 k xs xs (i + 1)) (fun k => ?_) (ih (i + 1) (by omega) (by omega) hx)
  simp only [laws_eqSegmentS.l0,ei]
  rw [if_pos hlt,if_pos h0,if_pos hlt]
  simp only [eq_T53_refl,Option.bind_some,if_true]
theorem eqS_T53_ev (xs:List S53) (hx:(xs.length:Int)≤1152921504606846976):Ev (fun k => laws_eqSegmentS.f k xs xs) true:=by
 refine Ev.congr (f:=fun k => laws_eqSegmentS.l0 k xs xs 0) (fun k => ?_) (eqS_T53_l0 xs xs.length 0 (by omega) (by omega) hx)
 simp only [laws_eqSegmentS.f,if_true]
end
section
theorem markText_l0:∀ (d:Nat) (n:Int) (s:ByteArray),0≤n→n.toNat≤d→s.size + n.toNat≤4611686018427387904→∃ t,laws_markText.l0 (d + 1) n s = some t:=by
 intro d
 induction d with
 | zero =>
  intro n s h0 hd hs
  have e:n = 0:=by omega
  subst e
  simp only [laws_markText.l0]
  rw [if_neg (by omega),if_pos (by omega)]
  exact ⟨_,rfl⟩
 | succ d ih =>
  intro n s h0 hd hs
  by_cases hn:n > 0
  ·unfold laws_markText.l0
   rw [if_pos hn]
   simp only [Option.bind_some]
   have hz:(strOfNums [wrap64 (48 + Int.tmod n 10) % 256]).size = 1:=rfl
   rw [if_pos (by rw [hz];omega)]
   have hq:wrap64 (Int.tdiv n 10) = n / 10:=by
    rw [Int.tdiv_eq_ediv_of_nonneg h0]
    exact wrap_id (by omega) (by omega)
   rw [hq]
   refine ih (n / 10) _ (by omega) (by omega) ?_
   rw [ByteArray.size_append,hz]
   omega
  ·unfold laws_markText.l0
   rw [if_neg hn,if_pos (by omega)]
   exact ⟨_,rfl⟩
theorem markText_ev (n:Int) (h:n≤2305843009213693952):∃ t,Ev (fun k => laws_markText.f k n) t:=by
 by_cases h0:n≤0
 ·exact ⟨_,0,fun k _ => by simp only [laws_markText.f];rw [if_pos h0]⟩
 ·obtain ⟨t,ht⟩:=markText_l0 n.toNat n ⟨#[]⟩ (by omega) (Nat.le_refl _) (by show 0 + _≤_;omega)
  refine ⟨t,Ev.of (laws_markText.mono n) (k:=n.toNat + 1) ?_⟩
  simp only [laws_markText.f]
  rw [if_neg h0]
  exact ht
/-- The text that marks a number. -/
noncomputable def mtx (n:Int):ByteArray:=@Classical.epsilon ByteArray ⟨⟨#[]⟩⟩ (fun t => Ev (fun k => laws_markText.f k n) t)
theorem mtx_ev (n:Int) (h:n≤2305843009213693952):Ev (fun k => laws_markText.f k n) (mtx n):=Classical.epsilon_spec (p:=fun t => Ev (fun k => laws_markText.f k n) t) (markText_ev n h)
end
section
theorem rdset_T53 {xs:List S53} {i:Int} (h:i.toNat < xs.length) (v:S53):rd_T53 (xs.set i.toNat v) i = v:=by
 unfold rd_T53
 rw [List.getD_eq_getElem?_getD,List.getElem?_set_self h]
 rfl
theorem rdset_ne_T53 {xs:List S53} {i j:Int} (h0:0≤i) (h1:0≤j) (h:i ≠ j) (v:S53):rd_T53 (xs.set i.toNat v) j = rd_T53 xs j:=by
 unfold rd_T53
 rw [List.getD_eq_getElem?_getD,List.getElem?_set_ne (by omega),← List.getD_eq_getElem?_getD]
end
section
noncomputable def mk_T53 (n:Int):S53:=(⟨n,n + 1,n + 1 + 1,n + 1 + 1 + 1,n + 1 + 1 + 1 + 1,n + 1 + 1 + 1 + 1 + 1,mtx (n + 1 + 1 + 1 + 1 + 1 + 1)⟩:S53)
set_option maxHeartbeats 2000000 in
theorem mark_T53_l0:∀ (d:Nat) (xs:List S53) (m i:Int),0≤i→(xs.length:Int) - i = d→0≤m→m + 7 * d≤1152921504606846976→(xs.length:Int)≤1152921504606846976 →
  ∃ ys:List S53,Ev (fun k => laws_markSegmentS.l0 k xs m i) (m + 7 * d,ys)∧ys.length = xs.length∧(∀ j:Int,0≤j→j < i→rd_T53 ys j = rd_T53 xs j)∧(∀ j:Int,i≤j→j < xs.length→rd_T53 ys j = mk_T53 (m + 7 * (j - i))):=by
 intro d
 induction d with
 | zero =>
  intro xs m i h0 hd hm hb hx
  refine ⟨xs,⟨1,fun k hk => ?_⟩,rfl,fun _ _ _ => rfl,fun j h1 h2 => by omega⟩
  obtain ⟨k,rfl⟩:∃ q,k = q + 1:=⟨k - 1,by omega⟩
  simp only [laws_markSegmentS.l0]
  rw [if_neg (by omega)]
  simp
 | succ d ih =>
  intro xs m i h0 hd hm hb hx
  have hlt:i < (xs.length:Int):=by omega
  have hn:i.toNat < xs.length:=by omega
  have e0:wrap64 (m + 1) = m + 1:=wrap_id (by omega) (by omega)
  have e1:wrap64 (m + 1 + 1) = m + 1 + 1:=wrap_id (by omega) (by omega)
  have e2:wrap64 (m + 1 + 1 + 1) = m + 1 + 1 + 1:=wrap_id (by omega) (by omega)
  have e3:wrap64 (m + 1 + 1 + 1 + 1) = m + 1 + 1 + 1 + 1:=wrap_id (by omega) (by omega)
  have e4:wrap64 (m + 1 + 1 + 1 + 1 + 1) = m + 1 + 1 + 1 + 1 + 1:=wrap_id (by omega) (by omega)
  have e5:wrap64 (m + 1 + 1 + 1 + 1 + 1 + 1) = m + 1 + 1 + 1 + 1 + 1 + 1:=wrap_id (by omega) (by omega)
  have e6:wrap64 (m + 1 + 1 + 1 + 1 + 1 + 1 + 1) = m + 1 + 1 + 1 + 1 + 1 + 1 + 1:=wrap_id (by omega) (by omega)
  have ei:wrap64 (i + 1) = i + 1:=wrap_id (by omega) (by omega)
  have hl:(xs.set i.toNat (mk_T53 m)).length = xs.length:=List.length_set
  obtain ⟨ys,hev,hlen,hold,hnew⟩:=ih (xs.set i.toNat (mk_T53 m)) (m + 1 + 1 + 1 + 1 + 1 + 1 + 1) (i + 1) (by omega) (by rw [hl];omega) (by omega) (by omega) (by rw [hl];omega)
  rw [hl] at hlen hnew
  refine ⟨ys,?_,hlen,fun j h1 h2 => ?_,fun j h1 h2 => ?_⟩
  ·have hr:m + 7 * ((d + 1:Nat):Int) = m + 1 + 1 + 1 + 1 + 1 + 1 + 1 + 7 * (d:Int):=by omega
   rw [hr]
   refine Ev.step (f:=fun k => (laws_markText.f k (m + 1 + 1 + 1 + 1 + 1 + 1)).bind fun t6 => laws_markSegmentS.l0 k (xs.set i.toNat (⟨m,m + 1,m + 1 + 1,m + 1 + 1 + 1,m + 1 + 1 + 1 + 1,m + 1 + 1 + 1 + 1 + 1,t6⟩:S53)) (m + 1 + 1 + 1 + 1 + 1 + 1 + 1) (i + 1)) (fun k => ?_) ?_
   ·simp only [laws_markSegmentS.l0]
    rw [if_pos hlt]
    simp only [if_pos h0,Option.bind_some,List.set_set,rdset_T53 hn,e0,e1,e2,e3,e4,e5,e6,ei]
   ·exact Ev.bind (mtx_ev (m + 1 + 1 + 1 + 1 + 1 + 1) (by omega)) (hev)
  ·rw [hold j h1 (by omega),rdset_ne_T53 h0 h1 (by omega)]
  ·by_cases hji:j = i
   ·subst hji
    rw [hold j h0 (by omega),rdset_T53 hn]
    congr 1
    omega
   ·rw [hnew j (by omega) h2]
    congr 1
    omega
theorem mark_T53_ev (xs:List S53) (m:Int) (hm:0≤m) (hb:m + 7 * xs.length≤1152921504606846976) :
  ∃ ys:List S53,Ev (fun k => laws_markSegmentS.f k xs m) (m + 7 * xs.length,ys)∧ys.length = xs.length∧∀ j:Int,0≤j→j < xs.length→rd_T53 ys j = mk_T53 (m + 7 * j):=by
 obtain ⟨ys,hev,hlen,_,hnew⟩:=mark_T53_l0 xs.length xs m 0 (by omega) (by omega) hm hb (by omega)
 exact ⟨ys,hev,hlen,fun j h1 h2 => by have:=hnew j h1 h2;rw [Int.sub_zero] at this;exact this⟩
set_option maxHeartbeats 2000000 in
theorem held_T53_l0:∀ (d:Nat) (ys:List S53) (m i:Int),0≤i→(ys.length:Int) - i = d→0≤m→m + 7 * d≤1152921504606846976→(ys.length:Int)≤1152921504606846976 →
  (∀ j:Int,i≤j→j < ys.length→rd_T53 ys j = mk_T53 (m + 7 * (j - i)))→Ev (fun k => laws_heldSegmentS.l0 k ys m i) (m + 7 * d):=by
 intro d
 induction d with
 | zero =>
  intro ys m i h0 hd hm hb hx _
  refine ⟨1,fun k hk => ?_⟩
  obtain ⟨k,rfl⟩:∃ q,k = q + 1:=⟨k - 1,by omega⟩
  simp only [laws_heldSegmentS.l0]
  rw [if_neg (by omega)]
  simp
 | succ d ih =>
  intro ys m i h0 hd hm hb hx hy
  have hlt:i < (ys.length:Int):=by omega
  have e0:wrap64 (m + 1) = m + 1:=wrap_id (by omega) (by omega)
  have e1:wrap64 (m + 1 + 1) = m + 1 + 1:=wrap_id (by omega) (by omega)
  have e2:wrap64 (m + 1 + 1 + 1) = m + 1 + 1 + 1:=wrap_id (by omega) (by omega)
  have e3:wrap64 (m + 1 + 1 + 1 + 1) = m + 1 + 1 + 1 + 1:=wrap_id (by omega) (by omega)
  have e4:wrap64 (m + 1 + 1 + 1 + 1 + 1) = m + 1 + 1 + 1 + 1 + 1:=wrap_id (by omega) (by omega)
  have e5:wrap64 (m + 1 + 1 + 1 + 1 + 1 + 1) = m + 1 + 1 + 1 + 1 + 1 + 1:=wrap_id (by omega) (by omega)
  have e6:wrap64 (m + 1 + 1 + 1 + 1 + 1 + 1 + 1) = m + 1 + 1 + 1 + 1 + 1 + 1 + 1:=wrap_id (by omega) (by omega)
  have ei:wrap64 (i + 1) = i + 1:=wrap_id (by omega) (by omega)
  have hev:=ih ys (m + 1 + 1 + 1 + 1 + 1 + 1 + 1) (i + 1) (by omega) (by omega) (by omega) (by omega) hx (fun j h1 h2 => by rw [hy j (by omega) h2];congr 1;omega)
  have hri:rd_T53 ys i = mk_T53 m:=by rw [hy i (by omega) hlt];congr 1;omega
  have hr:m + 7 * ((d + 1:Nat):Int) = m + 1 + 1 + 1 + 1 + 1 + 1 + 1 + 7 * (d:Int):=by omega
  rw [hr]
  refine Ev.step (f:=fun k => (laws_markText.f k (m + 1 + 1 + 1 + 1 + 1 + 1)).bind fun t6 => if (mtx (m + 1 + 1 + 1 + 1 + 1 + 1)).toList = t6.toList then laws_heldSegmentS.l0 k ys (m + 1 + 1 + 1 + 1 + 1 + 1 + 1) (i + 1) else some (-1)) (fun k => ?_) ?_
  ·simp only [laws_heldSegmentS.l0]
   rw [if_pos hlt,if_pos h0]
   simp only [hri,mk_T53,e0,e1,e2,e3,e4,e5,e6,ei,if_true,bne_self_eq_false,Bool.false_eq_true,if_false]
  ·exact Ev.bind (mtx_ev (m + 1 + 1 + 1 + 1 + 1 + 1) (by omega)) (Ev.congr (fun k => if_pos rfl) (hev))
theorem held_T53_ev (ys:List S53) (m:Int) (hm:0≤m) (hb:m + 7 * ys.length≤1152921504606846976) (hy:∀ j:Int,0≤j→j < ys.length→rd_T53 ys j = mk_T53 (m + 7 * j)) :
  Ev (fun k => laws_heldSegmentS.f k ys m) (m + 7 * ys.length) :=
 held_T53_l0 ys.length ys m 0 (by omega) (by omega) hm hb (by omega) (fun j h1 h2 => by rw [Int.sub_zero];exact hy j h1 h2)
end
section
/-! ### laws_FnExactConnAgain: function 10 -/
mutual
def laws_FnExactConnAgain.j0:Nat→List (S53)→Int→List (S53)→Bool→ByteArray→Int→Int→Int→Int→Int→Int→Int→ByteArray→ByteArray→Bool→Option (Bool)
 | 0,_,_,_,_,_,_,_,_,_,_,_,_,_,_,_ => none
 | k + 1,x4,x5,x6,x37,x631000,x631001,x631002,x631003,x631004,x631005,x631006,x631007,x631008,x631009,x631010 => if x37 = true then (some false) else ((laws_markSegmentS.f k x6 1).bind fun bt663 => ((laws_heldSegmentS.f k bt663.2 1).bind fun t665 => (if t665 < 0 then (some false) else (if t665 = bt663.1 then ((laws_toConn.f x631000 x631001 x631002 x631003 x631004 x631005 x631006 x631007 x631008 x631009 x631010).bind fun bt666 => ((impl_ConnAgain.f k bt666.1 bt666.2.1 bt666.2.2.1 bt666.2.2.2.1 bt666.2.2.2.2.1 bt666.2.2.2.2.2.1 bt666.2.2.2.2.2.2.1 bt666.2.2.2.2.2.2.2.1 bt666.2.2.2.2.2.2.2.2.1 bt666.2.2.2.2.2.2.2.2.2.1 bt666.2.2.2.2.2.2.2.2.2.2).bind fun bt677 => ((laws_eqSegmentS.f k bt677.1 x4).bind fun t681 => (if t681 = true then (laws_FnExactConnAgain.j1 k bt663.2 bt663.1 (bt677.2 != x5)) else (laws_FnExactConnAgain.j1 k bt663.2 bt663.1 true))))) else (some false)))))
def laws_FnExactConnAgain.j1:Nat→List (S53)→Int→Bool→Option (Bool)
 | 0,_,_,_ => none
 | k + 1,x6,x8,x63 => if x63 = true then (some false) else ((laws_heldSegmentS.f k x6 1).bind fun t682 => (if t682 < 0 then (some false) else (if t682 = x8 then (some true) else (some false))))
end
def laws_FnExactConnAgain.f (k:Nat) (a0_0:ByteArray) (a0_1 a0_2:Int) (a0_3 a0_4:Int) (a0_5 a0_6 a0_7:Int) (a0_8 a0_9:ByteArray) (a0_10:Bool):Option (Bool):=(laws_szConn.f a0_0 a0_1 a0_2 a0_3 a0_4 a0_5 a0_6 a0_7 a0_8 a0_9 a0_10 1048576).bind fun t631 => (if t631 < 0 then (some true) else ((laws_toConn.f a0_0 a0_1 a0_2 a0_3 a0_4 a0_5 a0_6 a0_7 a0_8 a0_9 a0_10).bind fun bt632 => ((spec_ConnAgain.f k bt632.1 bt632.2.1 bt632.2.2.1 bt632.2.2.2.1 bt632.2.2.2.2.1 bt632.2.2.2.2.2.1 bt632.2.2.2.2.2.2.1 bt632.2.2.2.2.2.2.2.1 bt632.2.2.2.2.2.2.2.2.1 bt632.2.2.2.2.2.2.2.2.2.1 bt632.2.2.2.2.2.2.2.2.2.2).bind fun bt643 => ((laws_toConn.f a0_0 a0_1 a0_2 a0_3 a0_4 a0_5 a0_6 a0_7 a0_8 a0_9 a0_10).bind fun bt647 => ((impl_ConnAgain.f k bt647.1 bt647.2.1 bt647.2.2.1 bt647.2.2.2.1 bt647.2.2.2.2.1 bt647.2.2.2.2.2.1 bt647.2.2.2.2.2.2.1 bt647.2.2.2.2.2.2.2.1 bt647.2.2.2.2.2.2.2.2.1 bt647.2.2.2.2.2.2.2.2.2.1 bt647.2.2.2.2.2.2.2.2.2.2).bind fun bt658 => ((laws_eqSegmentS.f k bt658.1 bt643.1).bind fun t662 => (if t662 = true then (laws_FnExactConnAgain.j0 k bt643.1 bt643.2 bt658.1 (bt658.2 != bt643.2) a0_0 a0_1 a0_2 a0_3 a0_4 a0_5 a0_6 a0_7 a0_8 a0_9 a0_10) else (laws_FnExactConnAgain.j0 k bt643.1 bt643.2 bt658.1 true a0_0 a0_1 a0_2 a0_3 a0_4 a0_5 a0_6 a0_7 a0_8 a0_9 a0_10))))))))
theorem laws_FnExactConnAgain.mono_l:∀ k,(∀ y0 y1 y2 y3 y4 y5 y6 y7 y8 y9 y10 y11 y12 y13 y14,LeO (laws_FnExactConnAgain.j0 k y0 y1 y2 y3 y4 y5 y6 y7 y8 y9 y10 y11 y12 y13 y14) (laws_FnExactConnAgain.j0 (k + 1) y0 y1 y2 y3 y4 y5 y6 y7 y8 y9 y10 y11 y12 y13 y14))∧(∀ y0 y1 y2,LeO (laws_FnExactConnAgain.j1 k y0 y1 y2) (laws_FnExactConnAgain.j1 (k + 1) y0 y1 y2))
 | 0 => ⟨fun _ _ _ _ _ _ _ _ _ _ _ _ _ _ _ r h => by simp [laws_FnExactConnAgain.j0] at h,fun _ _ _ r h => by simp [laws_FnExactConnAgain.j1] at h⟩
 | k + 1 => by
  obtain ⟨ih0,ih1⟩:=laws_FnExactConnAgain.mono_l k
  refine ⟨?_,?_⟩
  ·intro y0 y1 y2 y3 y4 y5 y6 y7 y8 y9 y10 y11 y12 y13 y14
   unfold laws_FnExactConnAgain.j0
   repeat' first
   | (with_reducible exact ih0 _ _ _ _ _ _ _ _ _ _ _ _ _ _ _)
   | (with_reducible exact ih1 _ _ _)
   | (with_reducible exact impl_ConnAgain.mono ..)
   | (with_reducible exact laws_eqSegmentS.mono ..)
   | (with_reducible exact laws_heldSegmentS.mono ..)
   | (with_reducible exact laws_markSegmentS.mono ..)
   | (with_reducible exact spec_ConnAgain.mono ..)
   | (with_reducible exact LeO.refl _)
   | (with_reducible exact LeO.none _)
   | (with_reducible refine LeO.ite ?_ ?_)
   | (with_reducible refine LeO.bind ?_ (fun _ => ?_))
   | exact ih0 _ _ _ _ _ _ _ _ _ _ _ _ _ _ _
   | exact ih1 _ _ _
   | exact impl_ConnAgain.mono ..
   | exact laws_eqSegmentS.mono ..
   | exact laws_heldSegmentS.mono ..
   | exact laws_markSegmentS.mono ..
   | exact spec_ConnAgain.mono ..
   | exact LeO.none _
   | refine LeO.ite ?_ ?_
   | refine LeO.bind ?_ (fun _ => ?_)
  ·intro y0 y1 y2
   unfold laws_FnExactConnAgain.j1
   repeat' first
   | (with_reducible exact ih0 _ _ _ _ _ _ _ _ _ _ _ _ _ _ _)
   | (with_reducible exact ih1 _ _ _)
   | (with_reducible exact impl_ConnAgain.mono ..)
   | (with_reducible exact laws_eqSegmentS.mono ..)
   | (with_reducible exact laws_heldSegmentS.mono ..)
   | (with_reducible exact laws_markSegmentS.mono ..)
   | (with_reducible exact spec_ConnAgain.mono ..)
   | (with_reducible exact LeO.refl _)
   | (with_reducible exact LeO.none _)
   | (with_reducible refine LeO.ite ?_ ?_)
   | (with_reducible refine LeO.bind ?_ (fun _ => ?_))
   | exact ih0 _ _ _ _ _ _ _ _ _ _ _ _ _ _ _
   | exact ih1 _ _ _
   | exact impl_ConnAgain.mono ..
   | exact laws_eqSegmentS.mono ..
   | exact laws_heldSegmentS.mono ..
   | exact laws_markSegmentS.mono ..
   | exact spec_ConnAgain.mono ..
   | exact LeO.none _
   | refine LeO.ite ?_ ?_
   | refine LeO.bind ?_ (fun _ => ?_)
theorem laws_FnExactConnAgain.mono:∀ a0 a1 a2 a3 a4 a5 a6 a7 a8 a9 a10 k,LeO (laws_FnExactConnAgain.f k a0 a1 a2 a3 a4 a5 a6 a7 a8 a9 a10) (laws_FnExactConnAgain.f (k + 1) a0 a1 a2 a3 a4 a5 a6 a7 a8 a9 a10):=by
 intro a0 a1 a2 a3 a4 a5 a6 a7 a8 a9 a10 k
 obtain ⟨ih0,ih1⟩:=laws_FnExactConnAgain.mono_l k
 unfold laws_FnExactConnAgain.f
 repeat' first
   | (with_reducible exact ih0 _ _ _ _ _ _ _ _ _ _ _ _ _ _ _)
   | (with_reducible exact ih1 _ _ _)
   | (with_reducible exact impl_ConnAgain.mono ..)
   | (with_reducible exact laws_eqSegmentS.mono ..)
   | (with_reducible exact laws_heldSegmentS.mono ..)
   | (with_reducible exact laws_markSegmentS.mono ..)
   | (with_reducible exact spec_ConnAgain.mono ..)
   | (with_reducible exact LeO.refl _)
   | (with_reducible exact LeO.none _)
   | (with_reducible refine LeO.ite ?_ ?_)
   | (with_reducible refine LeO.bind ?_ (fun _ => ?_))
   | exact ih0 _ _ _ _ _ _ _ _ _ _ _ _ _ _ _
   | exact ih1 _ _ _
   | exact impl_ConnAgain.mono ..
   | exact laws_eqSegmentS.mono ..
   | exact laws_heldSegmentS.mono ..
   | exact laws_markSegmentS.mono ..
   | exact spec_ConnAgain.mono ..
   | exact LeO.none _
   | refine LeO.ite ?_ ?_
   | refine LeO.bind ?_ (fun _ => ?_)
set_option maxHeartbeats 8000000 in
set_option maxRecDepth 100000 in
theorem laws_FnExactConnAgain.calls (k:Nat) (a0_0:ByteArray) (a0_1 a0_2:Int) (a0_3 a0_4:Int) (a0_5 a0_6 a0_7:Int) (a0_8 a0_9:ByteArray) (a0_10 r:Bool) (w:World) (h:laws_FnExactConnAgain.f k a0_0 a0_1 a0_2 a0_3 a0_4 a0_5 a0_6 a0_7 a0_8 a0_9 a0_10 = some r) :
  Calls Try.prog 10 #[.agg #[.string a0_0,.int .i64 a0_1,.int .i64 a0_2,.int .i64 a0_3,.int .i64 a0_4,.int .i64 a0_5,.int .i64 a0_6,.int .i64 a0_7,.string a0_8,.string a0_9,.bool a0_10]] w fun e w' => e = .returned (.bool r)∧Below w.heap.size w w':=by
 have hu31:=Try.underlying31
 have HB:=aMk (Below.refl w.heap.size w)
 have H:=h
 unfold laws_FnExactConnAgain.f at H
 clear h
 replace H:=Option.bind_eq_some_iff.mp H
 obtain ⟨t631,A20,H⟩:=H
 try dsimp only at H
 have A2:=aMk A20
 clear A20
 by_cases c3:t631 < 0
 ·rw [if_pos c3] at H
  have c3b0:decide (t631 < 0) = true:=decide_eq_true c3
  clear c3
  obtain rfl:=Option.some.inj H
  go_enter Try.func10,Try.ntmps10
  go_wp2_with (first|((with_reducible refine gate_dst (N:=1) rfl ?_);refine bxE (N:=1) (cs:=#[.string a0_0,.int .i64 a0_1,.int .i64 a0_2,.int .i64 a0_3,.int .i64 a0_4,.int .i64 a0_5,.int .i64 a0_6,.int .i64 a0_7,.string a0_8,.string a0_9,.bool a0_10]) (t:=31) ?_;intro gb630 hg w4 hbox hb;have BK630:=aMk (hbox);have GW630:=aMk (bZ hg);have GE630:=aMk (bZ hg);replace HB:=aMk (bSt hb);clear hb hbox hg;obtain ⟨Z5_0,Z5_1,Z5_2,Z5_3,Z5_4,Z5_5,Z5_6,Z5_7,Z5_8,Z5_9,Z5_10,Y5_0,Y5_1,Y5_2,Y5_3,Y5_4,Y5_5,Y5_6,Y5_7,Y5_8,Y5_9,Y5_10⟩:=bC11 BK630.out)|((with_reducible refine gate_callee (f:=22) rfl ?_);refine gLs 14 Try.func22 #[.agg #[.string a0_0,.int .i64 a0_1,.int .i64 a0_2,.int .i64 a0_3,.int .i64 a0_4,.int .i64 a0_5,.int .i64 a0_6,.int .i64 a0_7,.string a0_8,.string a0_9,.bool a0_10],.int .i64 1048576] ?_;(with_reducible refine (laws_szConn.calls a0_0 a0_1 a0_2 a0_3 a0_4 a0_5 a0_6 a0_7 a0_8 a0_9 a0_10 1048576 t631 _ A2.out).mono ?_);rintro e w6 ⟨rfl,hb⟩;refine ⟨_,rfl,?_⟩;replace BK630:=aMk (bkB BK630.out hb);replace HB:=aMk (bU hb)))
  go_ret
  exact ⟨eRf,bW⟩
 ·rw [if_neg c3] at H
  have c3b0:decide (t631 < 0) = false:=decide_eq_false c3
  clear c3
  replace H:=Option.bind_eq_some_iff.mp H
  obtain ⟨⟨t632,t633,t634,t635,t636,t637,t638,t639,t640,t641,t642⟩,A70,H⟩:=H
  try dsimp only at H
  have A7:=aMk A70
  clear A70
  replace H:=Option.bind_eq_some_iff.mp H
  obtain ⟨⟨t643,t646⟩,A80,H⟩:=H
  try dsimp only at H
  have A8:=aMk A80
  clear A80
  replace H:=Option.bind_eq_some_iff.mp H
  obtain ⟨⟨t647,t648,t649,t650,t651,t652,t653,t654,t655,t656,t657⟩,A90,H⟩:=H
  try dsimp only at H
  have A9:=aMk A90
  clear A90
  replace H:=Option.bind_eq_some_iff.mp H
  obtain ⟨⟨t658,t661⟩,A100,H⟩:=H
  try dsimp only at H
  have A10:=aMk A100
  clear A100
  have HC11:=aMk H
  clear H
  go_enter Try.func10,Try.ntmps10
  go_upto_region 7 with (first|((with_reducible refine gate_dst (N:=1) rfl ?_);refine bxE (N:=1) (cs:=#[.string a0_0,.int .i64 a0_1,.int .i64 a0_2,.int .i64 a0_3,.int .i64 a0_4,.int .i64 a0_5,.int .i64 a0_6,.int .i64 a0_7,.string a0_8,.string a0_9,.bool a0_10]) (t:=31) ?_;intro gb630 hg w12 hbox hb;have BK630:=aMk (hbox);have GW630:=aMk (bZ hg);have GE630:=aMk (bZ hg);replace HB:=aMk (bSt hb);clear hb hbox hg;obtain ⟨Z13_0,Z13_1,Z13_2,Z13_3,Z13_4,Z13_5,Z13_6,Z13_7,Z13_8,Z13_9,Z13_10,Y13_0,Y13_1,Y13_2,Y13_3,Y13_4,Y13_5,Y13_6,Y13_7,Y13_8,Y13_9,Y13_10⟩:=bC11 BK630.out)|((with_reducible refine gate_callee (f:=22) rfl ?_);refine gLs 14 Try.func22 #[.agg #[.string a0_0,.int .i64 a0_1,.int .i64 a0_2,.int .i64 a0_3,.int .i64 a0_4,.int .i64 a0_5,.int .i64 a0_6,.int .i64 a0_7,.string a0_8,.string a0_9,.bool a0_10],.int .i64 1048576] ?_;(with_reducible refine (laws_szConn.calls a0_0 a0_1 a0_2 a0_3 a0_4 a0_5 a0_6 a0_7 a0_8 a0_9 a0_10 1048576 t631 _ A2.out).mono ?_);rintro e w14 ⟨rfl,hb⟩;refine ⟨_,rfl,?_⟩;replace BK630:=aMk (bkB BK630.out hb);replace HB:=aMk (bU hb);obtain ⟨Z15_0,Z15_1,Z15_2,Z15_3,Z15_4,Z15_5,Z15_6,Z15_7,Z15_8,Z15_9,Z15_10,Y15_0,Y15_1,Y15_2,Y15_3,Y15_4,Y15_5,Y15_6,Y15_7,Y15_8,Y15_9,Y15_10⟩:=bC11 BK630.out)|((with_reducible refine gate_callee (f:=24) rfl ?_);refine gLs 19 Try.func24 #[.agg #[.string a0_0,.int .i64 a0_1,.int .i64 a0_2,.int .i64 a0_3,.int .i64 a0_4,.int .i64 a0_5,.int .i64 a0_6,.int .i64 a0_7,.string a0_8,.string a0_9,.bool a0_10]] ?_;(with_reducible refine (laws_toConn.calls a0_0 a0_1 a0_2 a0_3 a0_4 a0_5 a0_6 a0_7 a0_8 a0_9 a0_10 t632 t633 t634 t635 t636 t637 t638 t639 t640 t641 t642 _ A7.out).mono ?_);rintro e w16 ⟨rfl,hb⟩;refine ⟨_,rfl,?_⟩;replace BK630:=aMk (bkB BK630.out hb);replace HB:=aMk (bU hb))|((with_reducible refine gate_callee (f:=41) rfl ?_);refine gLs 20 Try.func41 #[.agg #[.string t632,.int .i64 t633,.int .i64 t634,.int .i64 t635,.int .i64 t636,.int .i64 t637,.int .i64 t638,.int .i64 t639,.string t640,.string t641,.bool t642]] ?_;(with_reducible refine (spec_ConnAgain.calls k t632 t633 t634 t635 t636 t637 t638 t639 t640 t641 t642 t643 t646 _ A8.out).mono ?_);rintro e w17 ⟨v644,rfl,ho0,hb⟩;refine ⟨_,rfl,?_⟩;have HO645:=aMk (Kd.R_lower ho0 (below_size bW));replace BK630:=aMk (bkB BK630.out hb);replace HB:=aMk (bU hb);(try clear ho0);obtain ⟨Z18_0,Z18_1,Z18_2,Z18_3,Z18_4,Z18_5,Z18_6,Z18_7,Z18_8,Z18_9,Z18_10,Y18_0,Y18_1,Y18_2,Y18_3,Y18_4,Y18_5,Y18_6,Y18_7,Y18_8,Y18_9,Y18_10⟩:=bC11 BK630.out)|((with_reducible refine gate_callee (f:=24) rfl ?_);refine gLs 25 Try.func24 #[.agg #[.string a0_0,.int .i64 a0_1,.int .i64 a0_2,.int .i64 a0_3,.int .i64 a0_4,.int .i64 a0_5,.int .i64 a0_6,.int .i64 a0_7,.string a0_8,.string a0_9,.bool a0_10]] ?_;(with_reducible refine (laws_toConn.calls a0_0 a0_1 a0_2 a0_3 a0_4 a0_5 a0_6 a0_7 a0_8 a0_9 a0_10 t647 t648 t649 t650 t651 t652 t653 t654 t655 t656 t657 _ A9.out).mono ?_);rintro e w19 ⟨rfl,hb⟩;refine ⟨_,rfl,?_⟩;replace HO645:=aMk (Kd.R_below (kR (HO645.out)) hb);replace BK630:=aMk (bkB BK630.out hb);replace HB:=aMk (bU hb))|((with_reducible refine gate_callee (f:=42) rfl ?_);refine gLs 26 Try.func42 #[.agg #[.string t647,.int .i64 t648,.int .i64 t649,.int .i64 t650,.int .i64 t651,.int .i64 t652,.int .i64 t653,.int .i64 t654,.string t655,.string t656,.bool t657]] ?_;(with_reducible refine (impl_ConnAgain.calls k t647 t648 t649 t650 t651 t652 t653 t654 t655 t656 t657 t658 t661 _ A10.out).mono ?_);rintro e w20 ⟨v659,rfl,ho0,hb⟩;refine ⟨_,rfl,?_⟩;have HO660:=aMk (Kd.R_lower (Kd.R_new' ho0 (Kd.R_lt (kR (HO645.out)))) (below_size bW));replace HO645:=aMk (Kd.R_elder' (kR (HO645.out)) (Kd.R_base ho0) hb);replace BK630:=aMk (bkB BK630.out hb);replace HB:=aMk (bU hb);(try clear ho0)))
  (try simp only [Act.put,List.setIfInBounds_toArray,List.set_cons_zero,List.set_cons_succ])
  go_cut [37] (fun v37 wc => ∃ (kq:Nat) (x37_10:Bool),v37 = .bool x37_10∧Aside0 (laws_FnExactConnAgain.j0 kq t643 t646 t658 x37_10 a0_0 a0_1 a0_2 a0_3 a0_4 a0_5 a0_6 a0_7 a0_8 a0_9 a0_10 = some r)∧Aside0 (kq≤k)∧Aside0 (Kd.R k53 53 wc w.heap.size (fun k_ => some k_ ≠ (v659:Value).ownBlock) v644 t643)∧Aside0 (Kd.R k53 53 wc w.heap.size (fun k_ => some k_ ≠ (v644:Value).ownBlock) v659 t658)∧Aside0 (wc.heap[gb630]? = some (.cells #[.string a0_0,.int .i64 a0_1,.int .i64 a0_2,.int .i64 a0_3,.int .i64 a0_4,.int .i64 a0_5,.int .i64 a0_6,.int .i64 a0_7,.string a0_8,.string a0_9,.bool a0_10] 31 (0,0)))∧Aside0 (Below w.heap.size w wc))
  case first =>
   have H:=HC11.out
   clear HC11
   replace H:=Option.bind_eq_some_iff.mp H
   obtain ⟨t662,A210,H⟩:=H
   try dsimp only at H
   have A21:=aMk A210
   clear A210
   by_cases c22:t662 = true
   ·subst c22
    have H1:=H
    rw [if_pos rfl] at H1
    clear H
    have H:=H1
    clear H1
    have H':=aMk H
    clear H
    obtain ⟨Ao23,co23,eo23⟩:=Kd.R_slice HO660.out
    subst eo23
    obtain ⟨Ao24,co24,eo24⟩:=Kd.R_slice HO645.out
    subst eo24
    go_wp2_with (first|((with_reducible refine gate_callee (f:=38) rfl ?_);refine gLs 31 Try.func38 #[.slice Ao23 t658.length co23,.slice Ao24 t643.length co24] ?_;(with_reducible refine (laws_eqSegmentS.calls k _ _ t658 _ _ t643 true _ ?side1 ?side2 ?side3 ?side4 A21.out).mono ?_);(case side1 => repeat (first|exact (Kd.R_reads' HO660.out).2.2|(with_reducible refine Kd.C_alloc ?_ _)|(with_reducible refine Kd.C_drewN ?_ _)|(with_reducible refine Kd.C_drew ?_)));(case side2 => exact (Kd.R_reads' HO660.out).2.1);(case side3 => repeat (first|exact (Kd.R_reads' HO645.out).2.2|(with_reducible refine Kd.C_alloc ?_ _)|(with_reducible refine Kd.C_drewN ?_ _)|(with_reducible refine Kd.C_drew ?_)));(case side4 => exact (Kd.R_reads' HO645.out).2.1);rintro e w25 ⟨rfl,hb⟩;refine ⟨_,rfl,?_⟩;replace HO645:=aMk (Kd.R_below (kR (HO645.out)) hb);replace HO660:=aMk (Kd.R_below (kR (HO660.out)) hb);replace BK630:=aMk (bkB BK630.out hb);replace HB:=aMk (bU hb)))
    go_meet
    case rel => exact ⟨_,((t661 != t646)),rfS,H',⟨by first | omega|exact Nat.le_refl _⟩,⟨kR (Kd.R_mono HO645.out (fun _ hk => hk.2))⟩,⟨kR (Kd.R_mono HO660.out (fun _ hk => hk.2))⟩,⟨by refine pB ?_;exact BK630.out⟩,⟨bW⟩⟩
   ·replace c22:=Bool.eq_false_iff.mpr c22
    subst c22
    have H1:=H
    rw [if_neg (show ¬ (false = true) by decide)] at H1
    clear H
    have H:=H1
    clear H1
    have H':=aMk H
    clear H
    obtain ⟨Ao26,co26,eo26⟩:=Kd.R_slice HO660.out
    subst eo26
    obtain ⟨Ao27,co27,eo27⟩:=Kd.R_slice HO645.out
    subst eo27
    go_wp2_with (first|((with_reducible refine gate_callee (f:=38) rfl ?_);refine gLs 31 Try.func38 #[.slice Ao26 t658.length co26,.slice Ao27 t643.length co27] ?_;(with_reducible refine (laws_eqSegmentS.calls k _ _ t658 _ _ t643 false _ ?side1 ?side2 ?side3 ?side4 A21.out).mono ?_);(case side1 => repeat (first|exact (Kd.R_reads' HO660.out).2.2|(with_reducible refine Kd.C_alloc ?_ _)|(with_reducible refine Kd.C_drewN ?_ _)|(with_reducible refine Kd.C_drew ?_)));(case side2 => exact (Kd.R_reads' HO660.out).2.1);(case side3 => repeat (first|exact (Kd.R_reads' HO645.out).2.2|(with_reducible refine Kd.C_alloc ?_ _)|(with_reducible refine Kd.C_drewN ?_ _)|(with_reducible refine Kd.C_drew ?_)));(case side4 => exact (Kd.R_reads' HO645.out).2.1);rintro e w28 ⟨rfl,hb⟩;refine ⟨_,rfl,?_⟩;replace HO645:=aMk (Kd.R_below (kR (HO645.out)) hb);replace HO660:=aMk (Kd.R_below (kR (HO660.out)) hb);replace BK630:=aMk (bkB BK630.out hb);replace HB:=aMk (bU hb)))
    go_meet
    case rel => exact ⟨_,(true),rfS,H',⟨by first | omega|exact Nat.le_refl _⟩,⟨kR (Kd.R_mono HO645.out (fun _ hk => hk.2))⟩,⟨kR (Kd.R_mono HO660.out (fun _ hk => hk.2))⟩,⟨by refine pB ?_;exact BK630.out⟩,⟨bW⟩⟩
  case rest =>
   clear HC11
   try clear Z13_0 Z13_1 Z13_10 Z13_2 Z13_3 Z13_4 Z13_5 Z13_6 Z13_7 Z13_8 Z13_9
   try clear Z15_0 Z15_1 Z15_10 Z15_2 Z15_3 Z15_4 Z15_5 Z15_6 Z15_7 Z15_8 Z15_9
   try clear Z18_0 Z18_1 Z18_10 Z18_2 Z18_3 Z18_4 Z18_5 Z18_6 Z18_7 Z18_8 Z18_9
   try clear Z5_0 Z5_1 Z5_10 Z5_2 Z5_3 Z5_4 Z5_5 Z5_6 Z5_7 Z5_8 Z5_9
   try clear Y13_0 Y13_1 Y13_10 Y13_2 Y13_3 Y13_4 Y13_5 Y13_6 Y13_7 Y13_8 Y13_9
   try clear Y15_0 Y15_1 Y15_10 Y15_2 Y15_3 Y15_4 Y15_5 Y15_6 Y15_7 Y15_8 Y15_9
   try clear Y18_0 Y18_1 Y18_10 Y18_2 Y18_3 Y18_4 Y18_5 Y18_6 Y18_7 Y18_8 Y18_9
   try clear Y5_0 Y5_1 Y5_10 Y5_2 Y5_3 Y5_4 Y5_5 Y5_6 Y5_7 Y5_8 Y5_9
   obtain ⟨kq,x37_10,rfl,HA,HJ10,HO_4,HO_6,BK630,HB⟩:=hcut
   cases kq with
   | zero => exact absurd HA.out (by simp [laws_FnExactConnAgain.j0])
   | succ kj10 =>
    have H:=HA.out
    clear HA
    simp only [laws_FnExactConnAgain.j0] at H
    by_cases c29:x37_10 = true
    ·subst c29
     have H1:=H
     rw [if_pos rfl] at H1
     clear H
     have H:=H1
     clear H1
     obtain rfl:=Option.some.inj H
     go_wp2
     go_ret
     exact ⟨eRf,bW⟩
    ·replace c29:=Bool.eq_false_iff.mpr c29
     subst c29
     have H1:=H
     rw [if_neg (show ¬ (false = true) by decide)] at H1
     clear H
     have H:=H1
     clear H1
     replace H:=Option.bind_eq_some_iff.mp H
     obtain ⟨⟨t663,t664⟩,A300,H⟩:=H
     try dsimp only at H
     have A30:=aMk A300
     clear A300
     replace H:=Option.bind_eq_some_iff.mp H
     obtain ⟨t665,A310,H⟩:=H
     try dsimp only at H
     have A31:=aMk A310
     clear A310
     by_cases c32:t665 < 0
     ·rw [if_pos c32] at H
      have c32b0:decide (t665 < 0) = true:=decide_eq_true c32
      clear c32
      obtain rfl:=Option.some.inj H
      obtain ⟨Ao33,co33,eo33⟩:=Kd.R_slice HO_6.out
      subst eo33
      go_wp2_with (first|((with_reducible refine gate_callee (f:=39) rfl ?_);refine gLs 40 Try.func39 #[.slice Ao33 t658.length co33,.int .i64 1] ?_;(with_reducible refine (laws_markSegmentS.calls kj10 (fun k_ => some k_ = (.slice Ao33 t658.length co33:Value).ownBlock) (.slice Ao33 t658.length co33) t658 1 t663 t664 w _ ?side1 ?side2 A30.out).mono ?_);(case side1 => repeat (first|(with_reducible first|exact HB.out|apply bwA|apply bwN|apply bw1|refine below_set ?_ GE630.out)|exact HB.out));(case side2 => exact Kd.R_tight rfl HO_6.out);rintro e w34 ⟨rfl,hy0,hb,hkp⟩;refine ⟨_,rfl,?_⟩;replace HO_4:=aMk (Kd.R_mono (ok':=fun k_ => some k_ ≠ (.slice Ao33 t658.length co33:Value).ownBlock) (Kd.R_keptB (HO_4.out) hkp (fun k_ hk_ hs_ => (hk_) hs_)) (fun k_ hk_ => hk_.1));replace BK630:=aMk (blk_kept (pB BK630.out) hkp (fun hs_ => (fun e_ => (Kd.R_ne HO_6.out BK630.out (by decide)) e_) hs_));replace HO_6:=aMk (Kd.R_reok rfl hy0 (fun k_ e_ => HO_6.out.1 k_ e_));replace HB:=aMk (hb);(try clear hkp);(try clear hy0))|((with_reducible refine gate_callee (f:=40) rfl ?_);refine goesL_ (some 43) rfl rfl Try.func40 (by kernel_rfl) rfl #[.slice Ao33 t664.length co33,.int .i64 1] rfl (by (try simp only [List.map_toArray,List.map_cons,List.map_nil]);first | done|(rw [show t664.length = t658.length from (Kd.R_reads' HO_6.out).1.symm] <;> rfl) | rfl|(simp only [List.length_drop,List.length_take];rfl)) ?_;(with_reducible refine (laws_heldSegmentS.calls kj10 _ _ t664 1 t665 _ ?side1 ?side2 A31.out).mono ?_);(case side1 => repeat (first|exact (Kd.R_reads' HO_6.out).2.2|(with_reducible refine Kd.C_alloc ?_ _)|(with_reducible refine Kd.C_drewN ?_ _)|(with_reducible refine Kd.C_drew ?_)));(case side2 => rw [show t664.length = t658.length from (Kd.R_reads' HO_6.out).1.symm];exact (Kd.R_reads' HO_6.out).2.1);rintro e w35 ⟨rfl,hb⟩;refine ⟨_,rfl,?_⟩;replace HO_4:=aMk (Kd.R_below (kR (HO_4.out)) hb);replace HO_6:=aMk (Kd.R_below (kR (HO_6.out)) hb);replace BK630:=aMk (bkB BK630.out hb);replace HB:=aMk (bU hb)))
      go_ret
      exact ⟨eRf,bW⟩
     ·rw [if_neg c32] at H
      have c32b0:decide (t665 < 0) = false:=decide_eq_false c32
      clear c32
      by_cases c36:t665 = t663
      ·rw [if_pos c36] at H
       have c36b0:(t665 == t663) = true:=beq_iff_eq.mpr c36
       have c36b1:(t665 != t663) = false:=bne_eq_false_iff_eq.mpr c36
       clear c36
       replace H:=Option.bind_eq_some_iff.mp H
       obtain ⟨⟨t666,t667,t668,t669,t670,t671,t672,t673,t674,t675,t676⟩,A370,H⟩:=H
       try dsimp only at H
       have A37:=aMk A370
       clear A370
       replace H:=Option.bind_eq_some_iff.mp H
       obtain ⟨⟨t677,t680⟩,A380,H⟩:=H
       try dsimp only at H
       have A38:=aMk A380
       clear A380
       have HC39:=aMk H
       clear H
       obtain ⟨Ao40,co40,eo40⟩:=Kd.R_slice HO_6.out
       subst eo40
       go_upto_region 18 with (first|((with_reducible refine gate_callee (f:=39) rfl ?_);refine gLs 40 Try.func39 #[.slice Ao40 t658.length co40,.int .i64 1] ?_;(with_reducible refine (laws_markSegmentS.calls kj10 (fun k_ => some k_ = (.slice Ao40 t658.length co40:Value).ownBlock) (.slice Ao40 t658.length co40) t658 1 t663 t664 w _ ?side1 ?side2 A30.out).mono ?_);(case side1 => repeat (first|(with_reducible first|exact HB.out|apply bwA|apply bwN|apply bw1|refine below_set ?_ GE630.out)|exact HB.out));(case side2 => exact Kd.R_tight rfl HO_6.out);rintro e w41 ⟨rfl,hy0,hb,hkp⟩;refine ⟨_,rfl,?_⟩;replace HO_4:=aMk (Kd.R_mono (ok':=fun k_ => some k_ ≠ (.slice Ao40 t658.length co40:Value).ownBlock) (Kd.R_keptB (HO_4.out) hkp (fun k_ hk_ hs_ => (hk_) hs_)) (fun k_ hk_ => hk_.1));replace BK630:=aMk (blk_kept (pB BK630.out) hkp (fun hs_ => (fun e_ => (Kd.R_ne HO_6.out BK630.out (by decide)) e_) hs_));replace HO_6:=aMk (Kd.R_reok rfl hy0 (fun k_ e_ => HO_6.out.1 k_ e_));replace HB:=aMk (hb);(try clear hkp);(try clear hy0))|((with_reducible refine gate_callee (f:=40) rfl ?_);refine goesL_ (some 43) rfl rfl Try.func40 (by kernel_rfl) rfl #[.slice Ao40 t664.length co40,.int .i64 1] rfl (by (try simp only [List.map_toArray,List.map_cons,List.map_nil]);first | done|(rw [show t664.length = t658.length from (Kd.R_reads' HO_6.out).1.symm] <;> rfl) | rfl|(simp only [List.length_drop,List.length_take];rfl)) ?_;(with_reducible refine (laws_heldSegmentS.calls kj10 _ _ t664 1 t665 _ ?side1 ?side2 A31.out).mono ?_);(case side1 => repeat (first|exact (Kd.R_reads' HO_6.out).2.2|(with_reducible refine Kd.C_alloc ?_ _)|(with_reducible refine Kd.C_drewN ?_ _)|(with_reducible refine Kd.C_drew ?_)));(case side2 => rw [show t664.length = t658.length from (Kd.R_reads' HO_6.out).1.symm];exact (Kd.R_reads' HO_6.out).2.1);rintro e w42 ⟨rfl,hb⟩;refine ⟨_,rfl,?_⟩;replace HO_4:=aMk (Kd.R_below (kR (HO_4.out)) hb);replace HO_6:=aMk (Kd.R_below (kR (HO_6.out)) hb);replace BK630:=aMk (bkB BK630.out hb);replace HB:=aMk (bU hb);obtain ⟨Z43_0,Z43_1,Z43_2,Z43_3,Z43_4,Z43_5,Z43_6,Z43_7,Z43_8,Z43_9,Z43_10,Y43_0,Y43_1,Y43_2,Y43_3,Y43_4,Y43_5,Y43_6,Y43_7,Y43_8,Y43_9,Y43_10⟩:=bC11 BK630.out)|((with_reducible refine gate_callee (f:=24) rfl ?_);refine gLs 51 Try.func24 #[.agg #[.string a0_0,.int .i64 a0_1,.int .i64 a0_2,.int .i64 a0_3,.int .i64 a0_4,.int .i64 a0_5,.int .i64 a0_6,.int .i64 a0_7,.string a0_8,.string a0_9,.bool a0_10]] ?_;(with_reducible refine (laws_toConn.calls a0_0 a0_1 a0_2 a0_3 a0_4 a0_5 a0_6 a0_7 a0_8 a0_9 a0_10 t666 t667 t668 t669 t670 t671 t672 t673 t674 t675 t676 _ A37.out).mono ?_);rintro e w44 ⟨rfl,hb⟩;refine ⟨_,rfl,?_⟩;replace HO_4:=aMk (Kd.R_below (kR (HO_4.out)) hb);replace HO_6:=aMk (Kd.R_below (kR (HO_6.out)) hb);replace BK630:=aMk (bkB BK630.out hb);replace HB:=aMk (bU hb))|((with_reducible refine gate_callee (f:=42) rfl ?_);refine gLs 52 Try.func42 #[.agg #[.string t666,.int .i64 t667,.int .i64 t668,.int .i64 t669,.int .i64 t670,.int .i64 t671,.int .i64 t672,.int .i64 t673,.string t674,.string t675,.bool t676]] ?_;(with_reducible refine (impl_ConnAgain.calls kj10 t666 t667 t668 t669 t670 t671 t672 t673 t674 t675 t676 t677 t680 _ A38.out).mono ?_);rintro e w45 ⟨v678,rfl,ho0,hb⟩;refine ⟨_,rfl,?_⟩;have HO679:=aMk (Kd.R_lower (Kd.R_new' (Kd.R_new' ho0 (Kd.R_lt (kR (HO_4.out)))) (Kd.R_lt (kR (HO_6.out)))) (below_size bW));replace HO_4:=aMk (Kd.R_elder' (kR (HO_4.out)) (Kd.R_base ho0) hb);replace HO_6:=aMk (Kd.R_elder' (kR (HO_6.out)) (Kd.R_base ho0) hb);replace BK630:=aMk (bkB BK630.out hb);replace HB:=aMk (bU hb);(try clear ho0)))
       (try simp only [Act.put,List.setIfInBounds_toArray,List.set_cons_zero,List.set_cons_succ])
       go_cut [63] (fun v63 wc => ∃ (kq:Nat) (x63_38:Bool),v63 = .bool x63_38∧Aside0 (laws_FnExactConnAgain.j1 kq t664 t663 x63_38 = some r)∧Aside0 (kq≤kj10)∧Aside0 (Kd.R k53 53 wc w.heap.size (fun _ => True) (.slice Ao40 t658.length co40) t664)∧Aside0 (wc.heap[gb630]? = some (.cells #[.string a0_0,.int .i64 a0_1,.int .i64 a0_2,.int .i64 a0_3,.int .i64 a0_4,.int .i64 a0_5,.int .i64 a0_6,.int .i64 a0_7,.string a0_8,.string a0_9,.bool a0_10] 31 (0,0)))∧Aside0 (Below w.heap.size w wc))
       case first =>
        have H:=HC39.out
        clear HC39
        replace H:=Option.bind_eq_some_iff.mp H
        obtain ⟨t681,A460,H⟩:=H
        try dsimp only at H
        have A46:=aMk A460
        clear A460
        by_cases c47:t681 = true
        ·subst c47
         have H1:=H
         rw [if_pos rfl] at H1
         clear H
         have H:=H1
         clear H1
         have H':=aMk H
         clear H
         obtain ⟨Ao48,co48,eo48⟩:=Kd.R_slice HO679.out
         subst eo48
         obtain ⟨Ao49,co49,eo49⟩:=Kd.R_slice HO_4.out
         subst eo49
         go_wp2_with (first|((with_reducible refine gate_callee (f:=38) rfl ?_);refine gLs 57 Try.func38 #[.slice Ao48 t677.length co48,.slice Ao49 t643.length co49] ?_;(with_reducible refine (laws_eqSegmentS.calls kj10 _ _ t677 _ _ t643 true _ ?side1 ?side2 ?side3 ?side4 A46.out).mono ?_);(case side1 => repeat (first|exact (Kd.R_reads' HO679.out).2.2|(with_reducible refine Kd.C_alloc ?_ _)|(with_reducible refine Kd.C_drewN ?_ _)|(with_reducible refine Kd.C_drew ?_)));(case side2 => exact (Kd.R_reads' HO679.out).2.1);(case side3 => repeat (first|exact (Kd.R_reads' HO_4.out).2.2|(with_reducible refine Kd.C_alloc ?_ _)|(with_reducible refine Kd.C_drewN ?_ _)|(with_reducible refine Kd.C_drew ?_)));(case side4 => exact (Kd.R_reads' HO_4.out).2.1);rintro e w50 ⟨rfl,hb⟩;refine ⟨_,rfl,?_⟩;replace HO_4:=aMk (Kd.R_below (kR (HO_4.out)) hb);replace HO_6:=aMk (Kd.R_below (kR (HO_6.out)) hb);replace HO679:=aMk (Kd.R_below (kR (HO679.out)) hb);replace BK630:=aMk (bkB BK630.out hb);replace HB:=aMk (bU hb)))
         go_meet
         case rel => exact ⟨_,((t680 != t646)),rfS,H',⟨by have:=HJ10.out;first | omega|exact Nat.le_refl _⟩,⟨kR (Kd.R_mono HO_6.out (fun _ hk => trivial))⟩,⟨by refine pB ?_;exact BK630.out⟩,⟨bW⟩⟩
        ·replace c47:=Bool.eq_false_iff.mpr c47
         subst c47
         have H1:=H
         rw [if_neg (show ¬ (false = true) by decide)] at H1
         clear H
         have H:=H1
         clear H1
         have H':=aMk H
         clear H
         obtain ⟨Ao51,co51,eo51⟩:=Kd.R_slice HO679.out
         subst eo51
         obtain ⟨Ao52,co52,eo52⟩:=Kd.R_slice HO_4.out
         subst eo52
         go_wp2_with (first|((with_reducible refine gate_callee (f:=38) rfl ?_);refine gLs 57 Try.func38 #[.slice Ao51 t677.length co51,.slice Ao52 t643.length co52] ?_;(with_reducible refine (laws_eqSegmentS.calls kj10 _ _ t677 _ _ t643 false _ ?side1 ?side2 ?side3 ?side4 A46.out).mono ?_);(case side1 => repeat (first|exact (Kd.R_reads' HO679.out).2.2|(with_reducible refine Kd.C_alloc ?_ _)|(with_reducible refine Kd.C_drewN ?_ _)|(with_reducible refine Kd.C_drew ?_)));(case side2 => exact (Kd.R_reads' HO679.out).2.1);(case side3 => repeat (first|exact (Kd.R_reads' HO_4.out).2.2|(with_reducible refine Kd.C_alloc ?_ _)|(with_reducible refine Kd.C_drewN ?_ _)|(with_reducible refine Kd.C_drew ?_)));(case side4 => exact (Kd.R_reads' HO_4.out).2.1);rintro e w53 ⟨rfl,hb⟩;refine ⟨_,rfl,?_⟩;replace HO_4:=aMk (Kd.R_below (kR (HO_4.out)) hb);replace HO_6:=aMk (Kd.R_below (kR (HO_6.out)) hb);replace HO679:=aMk (Kd.R_below (kR (HO679.out)) hb);replace BK630:=aMk (bkB BK630.out hb);replace HB:=aMk (bU hb)))
         go_meet
         case rel => exact ⟨_,(true),rfS,H',⟨by have:=HJ10.out;first | omega|exact Nat.le_refl _⟩,⟨kR (Kd.R_mono HO_6.out (fun _ hk => trivial))⟩,⟨by refine pB ?_;exact BK630.out⟩,⟨bW⟩⟩
       case rest =>
        clear HC39
        try clear Z13_0 Z13_1 Z13_10 Z13_2 Z13_3 Z13_4 Z13_5 Z13_6 Z13_7 Z13_8 Z13_9
        try clear Z15_0 Z15_1 Z15_10 Z15_2 Z15_3 Z15_4 Z15_5 Z15_6 Z15_7 Z15_8 Z15_9
        try clear Z18_0 Z18_1 Z18_10 Z18_2 Z18_3 Z18_4 Z18_5 Z18_6 Z18_7 Z18_8 Z18_9
        try clear Z43_0 Z43_1 Z43_10 Z43_2 Z43_3 Z43_4 Z43_5 Z43_6 Z43_7 Z43_8 Z43_9
        try clear Z5_0 Z5_1 Z5_10 Z5_2 Z5_3 Z5_4 Z5_5 Z5_6 Z5_7 Z5_8 Z5_9
        try clear Y13_0 Y13_1 Y13_10 Y13_2 Y13_3 Y13_4 Y13_5 Y13_6 Y13_7 Y13_8 Y13_9
        try clear Y15_0 Y15_1 Y15_10 Y15_2 Y15_3 Y15_4 Y15_5 Y15_6 Y15_7 Y15_8 Y15_9
        try clear Y18_0 Y18_1 Y18_10 Y18_2 Y18_3 Y18_4 Y18_5 Y18_6 Y18_7 Y18_8 Y18_9
        try clear Y43_0 Y43_1 Y43_10 Y43_2 Y43_3 Y43_4 Y43_5 Y43_6 Y43_7 Y43_8 Y43_9
        try clear Y5_0 Y5_1 Y5_10 Y5_2 Y5_3 Y5_4 Y5_5 Y5_6 Y5_7 Y5_8 Y5_9
        obtain ⟨kq,x63_38,rfl,HA,HJ38,HO_6,BK630,HB⟩:=hcut
        have hl6_38:=(Kd.R_reads' HO_6.out).1
        rw [hl6_38] at HO_6
        (try simp only [hl6_38])
        (try simp only [hl6_38] at BK630)
        cases kq with
        | zero => exact absurd HA.out (by simp [laws_FnExactConnAgain.j1])
        | succ kj38 =>
         have H:=HA.out
         clear HA
         simp only [laws_FnExactConnAgain.j1] at H
         by_cases c54:x63_38 = true
         ·subst c54
          have H1:=H
          rw [if_pos rfl] at H1
          clear H
          have H:=H1
          clear H1
          obtain rfl:=Option.some.inj H
          go_wp2
          go_ret
          exact ⟨eRf,bW⟩
         ·replace c54:=Bool.eq_false_iff.mpr c54
          subst c54
          have H1:=H
          rw [if_neg (show ¬ (false = true) by decide)] at H1
          clear H
          have H:=H1
          clear H1
          replace H:=Option.bind_eq_some_iff.mp H
          obtain ⟨t682,A550,H⟩:=H
          try dsimp only at H
          have A55:=aMk A550
          clear A550
          by_cases c56:t682 < 0
          ·rw [if_pos c56] at H
           have c56b0:decide (t682 < 0) = true:=decide_eq_true c56
           clear c56
           obtain rfl:=Option.some.inj H
           go_wp2_with (first|((with_reducible refine gate_callee (f:=40) rfl ?_);refine gLs 66 Try.func40 #[.slice Ao40 t664.length co40,.int .i64 1] ?_;(with_reducible refine (laws_heldSegmentS.calls kj38 _ _ t664 1 t682 _ ?side1 ?side2 A55.out).mono ?_);(case side1 => repeat (first|exact (Kd.R_reads' HO_6.out).2.2|(with_reducible refine Kd.C_alloc ?_ _)|(with_reducible refine Kd.C_drewN ?_ _)|(with_reducible refine Kd.C_drew ?_)));(case side2 => exact (Kd.R_reads' HO_6.out).2.1);rintro e w57 ⟨rfl,hb⟩;refine ⟨_,rfl,?_⟩;replace HO_6:=aMk (Kd.R_below (kR (HO_6.out)) hb);replace BK630:=aMk (bkB BK630.out hb);replace HB:=aMk (bU hb)))
           go_ret
           exact ⟨eRf,bW⟩
          ·rw [if_neg c56] at H
           have c56b0:decide (t682 < 0) = false:=decide_eq_false c56
           clear c56
           by_cases c58:t682 = t663
           ·rw [if_pos c58] at H
            have c58b0:(t682 == t663) = true:=beq_iff_eq.mpr c58
            have c58b1:(t682 != t663) = false:=bne_eq_false_iff_eq.mpr c58
            clear c58
            obtain rfl:=Option.some.inj H
            go_wp2_with (first|((with_reducible refine gate_callee (f:=40) rfl ?_);refine gLs 66 Try.func40 #[.slice Ao40 t664.length co40,.int .i64 1] ?_;(with_reducible refine (laws_heldSegmentS.calls kj38 _ _ t664 1 t682 _ ?side1 ?side2 A55.out).mono ?_);(case side1 => repeat (first|exact (Kd.R_reads' HO_6.out).2.2|(with_reducible refine Kd.C_alloc ?_ _)|(with_reducible refine Kd.C_drewN ?_ _)|(with_reducible refine Kd.C_drew ?_)));(case side2 => exact (Kd.R_reads' HO_6.out).2.1);rintro e w59 ⟨rfl,hb⟩;refine ⟨_,rfl,?_⟩;replace HO_6:=aMk (Kd.R_below (kR (HO_6.out)) hb);replace BK630:=aMk (bkB BK630.out hb);replace HB:=aMk (bU hb)))
            go_ret
            exact ⟨eRf,bW⟩
           ·rw [if_neg c58] at H
            have c58b0:(t682 == t663) = false:=beq_eq_false_iff_ne.mpr c58
            have c58b1:(t682 != t663) = true:=bne_iff_ne.mpr c58
            obtain rfl:=Option.some.inj H
            go_wp2_with (first|((with_reducible refine gate_callee (f:=40) rfl ?_);refine gLs 66 Try.func40 #[.slice Ao40 t664.length co40,.int .i64 1] ?_;(with_reducible refine (laws_heldSegmentS.calls kj38 _ _ t664 1 t682 _ ?side1 ?side2 A55.out).mono ?_);(case side1 => repeat (first|exact (Kd.R_reads' HO_6.out).2.2|(with_reducible refine Kd.C_alloc ?_ _)|(with_reducible refine Kd.C_drewN ?_ _)|(with_reducible refine Kd.C_drew ?_)));(case side2 => exact (Kd.R_reads' HO_6.out).2.1);rintro e w60 ⟨rfl,hb⟩;refine ⟨_,rfl,?_⟩;replace HO_6:=aMk (Kd.R_below (kR (HO_6.out)) hb);replace BK630:=aMk (bkB BK630.out hb);replace HB:=aMk (bU hb)))
            go_ret
            exact ⟨eRf,bW⟩
      ·rw [if_neg c36] at H
       have c36b0:(t665 == t663) = false:=beq_eq_false_iff_ne.mpr c36
       have c36b1:(t665 != t663) = true:=bne_iff_ne.mpr c36
       obtain rfl:=Option.some.inj H
       obtain ⟨Ao61,co61,eo61⟩:=Kd.R_slice HO_6.out
       subst eo61
       go_wp2_with (first|((with_reducible refine gate_callee (f:=39) rfl ?_);refine gLs 40 Try.func39 #[.slice Ao61 t658.length co61,.int .i64 1] ?_;(with_reducible refine (laws_markSegmentS.calls kj10 (fun k_ => some k_ = (.slice Ao61 t658.length co61:Value).ownBlock) (.slice Ao61 t658.length co61) t658 1 t663 t664 w _ ?side1 ?side2 A30.out).mono ?_);(case side1 => repeat (first|(with_reducible first|exact HB.out|apply bwA|apply bwN|apply bw1|refine below_set ?_ GE630.out)|exact HB.out));(case side2 => exact Kd.R_tight rfl HO_6.out);rintro e w62 ⟨rfl,hy0,hb,hkp⟩;refine ⟨_,rfl,?_⟩;replace HO_4:=aMk (Kd.R_mono (ok':=fun k_ => some k_ ≠ (.slice Ao61 t658.length co61:Value).ownBlock) (Kd.R_keptB (HO_4.out) hkp (fun k_ hk_ hs_ => (hk_) hs_)) (fun k_ hk_ => hk_.1));replace BK630:=aMk (blk_kept (pB BK630.out) hkp (fun hs_ => (fun e_ => (Kd.R_ne HO_6.out BK630.out (by decide)) e_) hs_));replace HO_6:=aMk (Kd.R_reok rfl hy0 (fun k_ e_ => HO_6.out.1 k_ e_));replace HB:=aMk (hb);(try clear hkp);(try clear hy0))|((with_reducible refine gate_callee (f:=40) rfl ?_);refine goesL_ (some 43) rfl rfl Try.func40 (by kernel_rfl) rfl #[.slice Ao61 t664.length co61,.int .i64 1] rfl (by (try simp only [List.map_toArray,List.map_cons,List.map_nil]);first | done|(rw [show t664.length = t658.length from (Kd.R_reads' HO_6.out).1.symm] <;> rfl) | rfl|(simp only [List.length_drop,List.length_take];rfl)) ?_;(with_reducible refine (laws_heldSegmentS.calls kj10 _ _ t664 1 t665 _ ?side1 ?side2 A31.out).mono ?_);(case side1 => repeat (first|exact (Kd.R_reads' HO_6.out).2.2|(with_reducible refine Kd.C_alloc ?_ _)|(with_reducible refine Kd.C_drewN ?_ _)|(with_reducible refine Kd.C_drew ?_)));(case side2 => rw [show t664.length = t658.length from (Kd.R_reads' HO_6.out).1.symm];exact (Kd.R_reads' HO_6.out).2.1);rintro e w63 ⟨rfl,hb⟩;refine ⟨_,rfl,?_⟩;replace HO_4:=aMk (Kd.R_below (kR (HO_4.out)) hb);replace HO_6:=aMk (Kd.R_below (kR (HO_6.out)) hb);replace BK630:=aMk (bkB BK630.out hb);replace HB:=aMk (bU hb)))
       go_ret
       exact ⟨eRf,bW⟩
end
section
-- IMPORT Derived.SizedLaws
-- IMPORT Derived.ProofKit
-- IMPORT Derived.WalkKit
-- IMPORT Derived.OpenShut
-- IMPORT Derived.ShutString
-- IMPORT Derived.ChangeOld
-- IMPORT Derived.Below
-- IMPORT Derived.Deep.Slices
open Go.ChangeShapes Go.WideShapes Go.ChangeAt Go.Deep
/-- What reads as data of type t is a value of the kind d,and meets wf. -/
structure Opens (P:Program) (t:TypeId) {α:Type} (d:Kd α) (wf:α→Prop):Prop where
 sz:P.cellsOf t = d.sz
 op:∀ {H:Type} {enc:TypeId × Value→H} {w:World} {fuel:Nat} {cs:List Value} {y:DataW H × List MemPlace},DataW.trod enc P w 0 (fun _ => true) true fuel t cs = some y→(∀ n ∈ y.1.weights P t,n≤reachBytes)→∃ x,d.K w x cs∧wf x
theorem Opens.int {P:Program} {t:TypeId} {k:IntKind} (hu:P.underlying t = some (.int k)) (hc:P.cellsOf t = 1):Opens P t (Kd.int k) (fun n => (Lit.int k n).wf = true) :=
 ⟨hc,fun h _ => by obtain ⟨n,rfl,rfl,wf⟩:=DataW.trod_int hu h;exact ⟨n,rfl,wf⟩⟩
theorem Opens.bool {P:Program} {t:TypeId} (hu:P.underlying t = some .bool) (hc:P.cellsOf t = 1):Opens P t Kd.bool (fun _ => True) :=
 ⟨hc,fun h _ => by obtain ⟨n,rfl,rfl⟩:=DataW.trod_bool hu h;exact ⟨n,rfl,trivial⟩⟩
theorem Opens.string {P:Program} {t:TypeId} (hu:P.underlying t = some .string) (hc:P.cellsOf t = 1):Opens P t Kd.string (fun s => s.size≤140737488351232) :=
 ⟨hc,fun h hw => by
  obtain ⟨s,rfl,rfl,_⟩:=DataW.trod_string hu h
  refine ⟨s,rfl,?_⟩
  have:=hw s.data.toList.length (by simp [DataW.weights])
  simpa [reachBytes] using this⟩
theorem weights_mem_all {H:Type} {P:Program} {e:TypeId} {n:Nat}:∀ {l:List (DataW H)} {d:DataW H},d ∈ l→n ∈ d.weights P e→n ∈ DataW.weightsAll P e l
 | d0 :: l,d,hd,hn => by
  simp only [DataW.weightsAll,List.mem_append]
  rcases List.mem_cons.1 hd with rfl | hd
  ·exact .inl hn
  ·exact .inr (weights_mem_all hd hn)
 | [],_,hd,_ => by cases hd
theorem list_of_all {α:Type} {Q:Nat→α→Prop} (n:Nat) (h:∀ i,i < n→∃ x,Q i x):∃ xs:List α,xs.length = n∧∀ j x,xs[j]? = some x→Q j x:=by
 induction n with
 | zero => exact ⟨[],rfl,fun j x h => by simp at h⟩
 | succ n ih =>
  obtain ⟨xs,hl,hx⟩:=ih (fun i hi => h i (by omega))
  obtain ⟨x,hq⟩:=h n (by omega)
  refine ⟨xs ++ [x],by simp [hl],fun j y hj => ?_⟩
  rcases Nat.lt_or_ge j xs.length with hlt | hge
  ·rw [List.getElem?_append_left hlt] at hj
   exact hx j y hj
  ·rw [List.getElem?_append_right hge] at hj
   have:j - xs.length = 0:=by
    rcases Nat.lt_or_ge (j - xs.length) 1 with h1 | h1
    ·omega
    ·rw [List.getElem?_eq_none (by simpa using h1)] at hj;cases hj
   rw [this] at hj
   simp at hj
   subst hj
   have:j = n:=by omega
   subst this
   exact hq
theorem Opens.slice {α:Type} {P:Program} {t e:TypeId} {d:Kd α} {wf:α→Prop} (hu:P.underlying t = some (.slice e)) (hc:P.cellsOf t = 1) (B:Nat) (hB:P.bytesOf e = B) (he:Opens P e d wf) :
  Opens P t (Kd.slice e d) (fun xs => xs.length * B≤140737488351232∧xs.length≤maxLen∧∀ x ∈ xs,wf x) :=
 ⟨hc,fun {H enc w fuel cs y} h hw => by
  rcases open_slice hu h with ⟨rfl,rfl⟩ | ⟨a,len,cap,m,n,D,Pl,rfl,_,hl,hm,hmm,rfl,hel⟩
  ·exact ⟨[],⟨none,0,rfl,Nat.le_refl _,Kd.C_nil d w⟩,by simp,by simp,fun x hx => by cases hx⟩
  have hmc:m = cap:=by rw [hmm];rfl
  subst hmc
  have hwt:∀ i,i < len→∀ z ∈ (D i).weights P e,z≤reachBytes:=fun i hi z hz => hw z (by
   simp only [DataW.weights,hu]
   exact List.mem_cons_of_mem _ (List.mem_append_left _ (weights_mem_all (List.mem_map.2 ⟨i,List.mem_range.2 hi,rfl⟩) hz)))
  have hall:∀ i,i < len→∃ x:α,(∃ c,c.length = d.sz∧d.K w x c∧∀ j u,c[j]? = some u→w.cell? (a.add (i * d.sz + j)) = some u)∧wf x:=by
   intro i hi
   obtain ⟨cs',hcs,htr⟩:=hel i (by omega)
   obtain ⟨x,hk,hx⟩:=he.op htr (hwt i hi)
   obtain ⟨_,hlen,hcell⟩:=World.cells?_some hcs
   refine ⟨x,⟨cs',by rw [hlen,he.sz],hk,fun j u hu' => ?_⟩,hx⟩
   have hj:j < cs'.length:=by
    rcases Nat.lt_or_ge j cs'.length with h1 | h1
    ·exact h1
    ·rw [List.getElem?_eq_none h1] at hu';cases hu'
   rw [hlen] at hj
   have hcj:=hcell j hj
   rw [hu',he.sz,Addr.add_add] at hcj
   exact hcj
  obtain ⟨xs,hxl,hxs⟩:=list_of_all (Q:=fun i x => (∃ c,c.length = d.sz∧d.K w x c∧∀ j u,c[j]? = some u→w.cell? (a.add (i * d.sz + j)) = some u)∧wf x) len hall
  subst hxl
  refine ⟨xs,⟨some a,m,rfl,hl,rfl,?_,fun _ => ⟨a,rfl,fun j p hp => (hxs j p hp).1⟩⟩,?_,?_,?_⟩
  ·unfold maxLen at hm;omega
  ·have:=hw ((List.map D (List.range xs.length)).length + (List.map (fun j => D (xs.length + j)) (List.range (m - xs.length))).length) |> fun h => h
   have h1:=hw (((List.map D (List.range xs.length)).length + (List.map (fun j => D (xs.length + j)) (List.range (m - xs.length))).length) * P.bytesOf e) (by simp only [DataW.weights,hu];exact List.mem_cons_self)
   rw [hB] at h1
   simp only [List.length_map,List.length_range] at h1
   have h2:xs.length * B≤(xs.length + (m - xs.length)) * B:=Nat.mul_le_mul_right _ (by omega)
   exact Nat.le_trans h2 h1
  ·omega
  ·intro x hx
   obtain ⟨j,hj,rfl⟩:=List.getElem_of_mem hx
   exact (hxs j _ (List.getElem?_eq_getElem hj)).2⟩
/-- Fields in line from cell o on. -/
structure OpensF (P:Program) (fs:List Field) (o:Nat) {α:Type} (d:Kd α) (wf:α→Prop):Prop where
 op:∀ {H:Type} {enc:TypeId × Value→H} {w:World} {n:Nat} {cs:List Value} {xs:List (DataW H × List MemPlace)},o + d.sz≤cs.length→xs.length = fs.length →
  (∀ (i:Nat) (f:Field),fs[i]? = some f→DataW.trod enc P w 0 (fun _ => true) true n f.type ((cs.drop f.offset).take (P.cellsOf f.type)) = xs[i]?) →
  (∀ z ∈ DataW.weightsEach P (fs.map (·.type)) (xs.map (·.1)),z≤reachBytes)→∃ x,d.K w x ((cs.drop o).take d.sz)∧wf x
theorem OpensF.one {α:Type} {P:Program} {f:Field} {o:Nat} {d:Kd α} {wf:α→Prop} (ho:f.offset = o) (h:Opens P f.type d wf):OpensF P [f] o d wf:=by
 refine ⟨fun {H enc w n cs xs} hlen hxl htr hw => ?_⟩
 match xs,hxl with
 | [y],_ =>
  have h1:=htr 0 f rfl
  rw [ho,h.sz] at h1
  exact h.op (y:=y) h1 (fun z hz => hw z (by simpa [DataW.weightsEach] using hz))
theorem OpensF.cons {α β:Type} {P:Program} {f:Field} {fs:List Field} {o:Nat} {a:Kd α} {b:Kd β} {wa:α→Prop} {wb:β→Prop} (ho:f.offset = o) (h:Opens P f.type a wa) (o':Nat) (ho':o + a.sz = o') (hr:OpensF P fs o' b wb) :
  OpensF P (f :: fs) o (Kd.pair a b) (fun x => wa x.1∧wb x.2):=by
 refine ⟨fun {H enc w n cs xs} hlen hxl htr hw => ?_⟩
 match xs,hxl with
 | y :: ys,hxl =>
  have h1:=htr 0 f rfl
  rw [ho,h.sz] at h1
  have hsz:(Kd.pair a b).sz = a.sz + b.sz:=rfl
  rw [hsz] at hlen
  obtain ⟨x0,k0,w0⟩:=h.op (y:=y) h1 (fun z hz => hw z (by simp only [List.map_cons,DataW.weightsEach,List.mem_append];exact .inl hz))
  obtain ⟨x1,k1,w1⟩:=hr.op (n:=n) (cs:=cs) (xs:=ys) (enc:=enc) (w:=w) (by omega) (by simpa using hxl) (fun i g hg => by have:=htr (i + 1) g (by simpa using hg);simpa using this) (fun z hz => hw z (by simp only [List.map_cons,DataW.weightsEach,List.mem_append];exact .inr hz))
  refine ⟨(x0,x1),⟨(cs.drop o).take a.sz,(cs.drop o').take b.sz,?_,k0,k1⟩,w0,w1⟩
  rw [hsz,← ho',List.take_add,List.drop_drop]
theorem Opens.struct {α:Type} {P:Program} {t:TypeId} {fs:Array Field} {d:Kd α} {wf:α→Prop} (hu:P.underlying t = some (.struct fs)) (hc:P.cellsOf t = d.sz) (h:OpensF P fs.toList 0 d wf):Opens P t d wf :=
 ⟨hc,fun {H enc w fuel cs y} ht hw => by
  obtain ⟨xs,n,rfl,rfl,hlen,hxl,htr⟩:=DataW.trod_struct hu ht
  obtain ⟨x,hk,hx⟩:=h.op (enc:=enc) (w:=w) (n:=n) (cs:=cs) (xs:=xs) (by omega) (by simpa using hxl) (fun i f hf => htr i f (by simpa using hf)) (fun z hz => hw z (by simp only [DataW.weights,hu];exact hz))
  refine ⟨x,?_,hx⟩
  rw [List.drop_zero,List.take_of_length_le (by omega)] at hk
  exact hk⟩
theorem Opens.iso {α β:Type} {P:Program} {t:TypeId} {d:Kd α} {wf:α→Prop} (f:β→α) (g:α→β) (hfg:∀ x,f (g x) = x) (h:Opens P t d wf):Opens P t (Kd.iso d f) (fun x => wf (f x)) :=
 ⟨h.sz,fun ht hw => by
  obtain ⟨x,hk,hx⟩:=h.op ht hw
  exact ⟨g x,by show d.K _ (f (g x)) _;rw [hfg];exact hk,by rw [hfg];exact hx⟩⟩
end
section
def wf31 (x:S31):Prop:=x.f0.size≤140737488351232∧((Lit.int .i64 x.f1).wf = true∧((Lit.int .i64 x.f2).wf = true∧((Lit.int .i64 x.f3).wf = true∧((Lit.int .i64 x.f4).wf = true∧((Lit.int .i64 x.f5).wf = true∧((Lit.int .i64 x.f6).wf = true∧((Lit.int .i64 x.f7).wf = true∧(x.f8.size≤140737488351232∧(x.f9.size≤140737488351232∧(True))))))))))
set_option maxRecDepth 100000 in
theorem opens31:Opens Try.prog 31 k31 wf31 :=
 Opens.iso (fun x:S31 => (x.f0,x.f1,x.f2,x.f3,x.f4,x.f5,x.f6,x.f7,x.f8,x.f9,x.f10)) (fun y => ⟨y.1,y.2.1,y.2.2.1,y.2.2.2.1,y.2.2.2.2.1,y.2.2.2.2.2.1,y.2.2.2.2.2.2.1,y.2.2.2.2.2.2.2.1,y.2.2.2.2.2.2.2.2.1,y.2.2.2.2.2.2.2.2.2.1,y.2.2.2.2.2.2.2.2.2.2⟩) (fun _ => rfl) (Opens.struct Try.underlying31 (by kernel_rfl) (OpensF.cons rfl (Opens.string Try.underlying9 (by kernel_rfl)) 1 rfl (OpensF.cons rfl (Opens.int Try.underlying3 (by kernel_rfl)) 2 rfl (OpensF.cons rfl (Opens.int Try.underlying3 (by kernel_rfl)) 3 rfl (OpensF.cons rfl (Opens.int Try.underlying3 (by kernel_rfl)) 4 rfl (OpensF.cons rfl (Opens.int Try.underlying3 (by kernel_rfl)) 5 rfl (OpensF.cons rfl (Opens.int Try.underlying3 (by kernel_rfl)) 6 rfl (OpensF.cons rfl (Opens.int Try.underlying3 (by kernel_rfl)) 7 rfl (OpensF.cons rfl (Opens.int Try.underlying3 (by kernel_rfl)) 8 rfl (OpensF.cons rfl (Opens.string Try.underlying9 (by kernel_rfl)) 9 rfl (OpensF.cons rfl (Opens.string Try.underlying9 (by kernel_rfl)) 10 rfl (OpensF.one rfl (Opens.bool Try.underlying4 (by kernel_rfl))))))))))))))
end
section
def P_FnExactConnAgain:Prop:=∀ (a0:S31),wf31 a0→∃ k,laws_FnExactConnAgain.f k a0.f0 a0.f1 a0.f2 a0.f3 a0.f4 a0.f5 a0.f6 a0.f7 a0.f8 a0.f9 a0.f10 = some true
end
section
-- NEEDS laws.FnExactConnAgain
theorem szConn_some (a:ByteArray) (b c d e f g h:Int) (i j:ByteArray) (l:Bool) (n:Int):∃ z,laws_szConn.f a b c d e f g h i j l n = some z:=by
 unfold laws_szConn.f
 repeat' split
 all_goals exact ⟨_,rfl⟩
end
section
def wf48 (x:S48):Prop:=(Lit.int .i64 x.f0).wf = true∧((Lit.int .i64 x.f1).wf = true∧((Lit.int .i64 x.f2).wf = true∧((Lit.int .i64 x.f3).wf = true∧((Lit.int .i64 x.f4).wf = true∧((Lit.int .i64 x.f5).wf = true∧(x.f6.size≤140737488351232))))))
set_option maxRecDepth 100000 in
theorem opens48:Opens Try.prog 48 k48 wf48 :=
 Opens.iso (fun x:S48 => (x.f0,x.f1,x.f2,x.f3,x.f4,x.f5,x.f6)) (fun y => ⟨y.1,y.2.1,y.2.2.1,y.2.2.2.1,y.2.2.2.2.1,y.2.2.2.2.2.1,y.2.2.2.2.2.2⟩) (fun _ => rfl) (Opens.struct Try.underlying48 (by kernel_rfl) (OpensF.cons rfl (Opens.int Try.underlying3 (by kernel_rfl)) 1 rfl (OpensF.cons rfl (Opens.int Try.underlying3 (by kernel_rfl)) 2 rfl (OpensF.cons rfl (Opens.int Try.underlying3 (by kernel_rfl)) 3 rfl (OpensF.cons rfl (Opens.int Try.underlying3 (by kernel_rfl)) 4 rfl (OpensF.cons rfl (Opens.int Try.underlying3 (by kernel_rfl)) 5 rfl (OpensF.cons rfl (Opens.int Try.underlying3 (by kernel_rfl)) 6 rfl (OpensF.one rfl (Opens.string Try.underlying9 (by kernel_rfl))))))))))
end
section
def P_FnExactConnTake:Prop:=∀ (a0:S31) (a1:S48),wf31 a0→wf48 a1→∃ k,laws_FnExactConnTake.f k a0.f0 a0.f1 a0.f2 a0.f3 a0.f4 a0.f5 a0.f6 a0.f7 a0.f8 a0.f9 a0.f10 a1.f0 a1.f1 a1.f2 a1.f3 a1.f4 a1.f5 a1.f6 = some true
end
section
-- NEEDS laws.FnExactConnTake laws.FnExactConnAgain
theorem pure_FnExactConnTake:P_FnExactConnTake:=by
 intro c g _ _
 obtain ⟨c0,c1,c2,c3,c4,c5,c6,c7,c8,c9,c10,l,code,hlen,⟨K4,hi⟩,⟨K5,hs⟩⟩:=ConnTake_same c.f0 c.f1 c.f2 c.f3 c.f4 c.f5 c.f6 c.f7 c.f8 c.f9 c.f10 g.f0 g.f1 g.f2 g.f3 g.f4 g.f5 g.f6
 obtain ⟨K1,h1⟩:=eqS_T53_ev l (by omega)
 obtain ⟨ys,⟨K2,h2⟩,hy,hz⟩:=mark_T53_ev l 1 (by omega) (by omega)
 obtain ⟨K3,h3⟩:=held_T53_ev ys 1 (by omega) (by omega) (fun j a b => hz j a (by omega))
 obtain ⟨z,hzz⟩:=szConn_some c.f0 c.f1 c.f2 c.f3 c.f4 c.f5 c.f6 c.f7 c.f8 c.f9 c.f10 1048576
 obtain ⟨z2,hz2⟩:∃ z2,laws_szSegment.f g.f0 g.f1 g.f2 g.f3 g.f4 g.f5 g.f6 z = some z2:=by
  unfold laws_szSegment.f
  repeat' split
  all_goals exact ⟨_,rfl⟩
 rw [hy] at h3
 have b0:=hs (K1 + K2 + K3 + K4 + K5 + 3) (by omega)
 have b1:=hi (K1 + K2 + K3 + K4 + K5 + 3) (by omega)
 have b2:=h1 (K1 + K2 + K3 + K4 + K5 + 3) (by omega)
 have b3:=hi (K1 + K2 + K3 + K4 + K5 + 2) (by omega)
 have b4:=h1 (K1 + K2 + K3 + K4 + K5 + 2) (by omega)
 have b5:=h2 (K1 + K2 + K3 + K4 + K5 + 2) (by omega)
 have b6:=h3 (K1 + K2 + K3 + K4 + K5 + 2) (by omega)
 have b7:=h3 (K1 + K2 + K3 + K4 + K5 + 1) (by omega)
 refine ⟨K1 + K2 + K3 + K4 + K5 + 3,?_⟩
 simp only [laws_FnExactConnTake.f,hzz,hz2,Option.bind_some,laws_toConn.f,laws_toSegment.f,b0,b1,b2,eqConn_refl,if_true,bne_self_eq_false,laws_FnExactConnTake.j0,Bool.false_eq_true,if_false,b3,b4,b5,b6,laws_FnExactConnTake.j1,b7]
 rw [if_neg (show ¬ (1 + 7 * (l.length:Int)) < 0 by omega)]
 simp
 omega
end
section
-- IMPORT Derived.Test.YtlpkldomoniegaaRows
-- IMPORT Derived.WalkKit
-- IMPORT Derived.ProofKit
-- IMPORT Derived.OpenShut
-- IMPORT Derived.ShutString
-- IMPORT Derived.ChangeOld
-- IMPORT Derived.Below
-- IMPORT Derived.SizedLaws
open Go.ChangeShapes Go.WideShapes Go.ChangeAt
open Go.ChangeMaps (open_string shut_string)
theorem own_FnExactConnTake:ownKnob Try.prog.godebug = none:=by kernel_rfl
theorem laidOut_FnExactConnTake:laidOutB Try.prog = true:=by kernel_rfl
set_option maxHeartbeats 4000000 in
set_option maxRecDepth 100000 in
theorem lifted_FnExactConnTake (os:Os) (started:os.Started) (H:Type) (enc:TypeId × Value→H) :
  ReturnsInHanded {} Try.checked os 16 .any (Rows.fnExactConnTakeSpec.pre6 enc Try.prog Try.f16 Rows.fnExactConnTakeRow.domain false) (Rows.fnExactConnTakeSpec.post enc Try.prog Try.f16 false true false false):=by
 refine returnsInHanded_of_change_sized (C:=Try.checked) own_FnExactConnTake started (by kernel_rfl) Try.func16
  (ChangeSpec.witness6 (enc:=enc) (C:=Try.checked) false ⟨#[],#[.agg #[.string ByteArray.empty,.int .i64 0,.int .i64 0,.int .i64 0,.int .i64 0,.int .i64 0,.int .i64 0,.int .i64 0,.string ByteArray.empty,.string ByteArray.empty,.bool false],.agg #[.int .i64 0,.int .i64 0,.int .i64 0,.int .i64 0,.int .i64 0,.int .i64 0,.string ByteArray.empty]],[]⟩ 8 (by kernel_rfl) (by kernel_rfl) (by kernel_rfl) (by kernel_rfl)) ?_
 intro W base args ds gs before hval0 hW hcnd hsz0 _
 have hsz:(DataW.weightsEach Try.prog (Try.f16.params.toList ++ Rows.fnExactConnTakeSpec.plain.varTypes Try.prog) (ds ++ gs)).all (·≤reachBytes) = true:=hsz0
 have hval:∀ (j:Nat) t v,Try.f16.params[j]? = some t→args[j]? = some v→Value.okWide Try.prog W .any base t v:=hval0
 have hW':=hW
 obtain ⟨p,q,hA0,hV,rfl,hfz,hnd⟩:=hW
 have hA:DataW.TrodAll enc Try.prog W 0 (fun _ => true) true Try.f16.params.toList args.toList ds p:=hA0
 rw [Try.params16] at hA hval hsz
 obtain ⟨v0,vs0,d0,ds0,p0,q0,hargs,rfl,rfl,h0,r0⟩:=trodAll_cons hA
 obtain ⟨v1,vs1,d1,ds1,p1,q1,rfl,rfl,rfl,h1,r1⟩:=trodAll_cons r0
 obtain ⟨rfl,rfl,rfl⟩:=trodAll_nil r1
 obtain rfl:args = #[v0,v1]:=by cases args;simp_all
 obtain ⟨rfl,rfl⟩:=trodVars_none hV
 have k0:=h0
 have lt0:∀ x ∈ p0,x.block < W.heap.size:=by obtain ⟨m,hm⟩:=k0;exact DataW.trod_lt m _ _ _ hm
 obtain ⟨cs0,rfl,_⟩:=okWide_struct Try.underlying31 (hval 0 31 v0 rfl rfl)
 obtain ⟨fuel0,hf0⟩:=h0
 obtain ⟨a0,kx0,w0⟩:=opens31.op hf0 (fun n hn => by have z:=List.all_eq_true.1 hsz _ (DataW.weights_mem_each (j:=0) (t:=31) rfl rfl n hn);simpa using z)
 have e0:=k31_open kx0
 obtain rfl:cs0 = #[.string a0.f0,.int .i64 a0.f1,.int .i64 a0.f2,.int .i64 a0.f3,.int .i64 a0.f4,.int .i64 a0.f5,.int .i64 a0.f6,.int .i64 a0.f7,.string a0.f8,.string a0.f9,.bool a0.f10]:=Array.toList_inj.1 e0
 have k1:=h1
 have lt1:∀ x ∈ p1,x.block < W.heap.size:=by obtain ⟨m,hm⟩:=k1;exact DataW.trod_lt m _ _ _ hm
 obtain ⟨cs1,rfl,_⟩:=okWide_struct Try.underlying48 (hval 1 48 v1 rfl rfl)
 obtain ⟨fuel1,hf1⟩:=h1
 obtain ⟨a1,kx1,w1⟩:=opens48.op hf1 (fun n hn => by have z:=List.all_eq_true.1 hsz _ (DataW.weights_mem_each (j:=1) (t:=48) rfl rfl n hn);simpa using z)
 have e1:=k48_open kx1
 obtain rfl:cs1 = #[.int .i64 a1.f0,.int .i64 a1.f1,.int .i64 a1.f2,.int .i64 a1.f3,.int .i64 a1.f4,.int .i64 a1.f5,.string a1.f6]:=Array.toList_inj.1 e1
 clear hA0 hval0 hsz0 hsz
 obtain ⟨k,hk⟩:=pure_FnExactConnTake a0 a1 w0 w1
 refine (laws_FnExactConnTake.calls k a0.f0 a0.f1 a0.f2 a0.f3 a0.f4 a0.f5 a0.f6 a0.f7 a0.f8 a0.f9 a0.f10 a1.f0 a1.f1 a1.f2 a1.f3 a1.f4 a1.f5 a1.f6 true W  hk).mono fun e W' hh => ?_
 obtain ⟨he,bel0⟩:=hh
 have bel:Below W.heap.size W W':=bel0
 subst he
 exact ⟨_,rfl,_,_,_,[],_,[],hW',trodAll_mk1 (shut_bool Try.underlying4 _),(trodAll_cons_mk (Below.trod laidOut_FnExactConnTake (by kernel_rfl) (of_decide_eq_true (by kernel_rfl)) k0 bel lt0) (trodAll_cons_mk (Below.trod laidOut_FnExactConnTake (by kernel_rfl) (of_decide_eq_true (by kernel_rfl)) k1 bel lt1) trodAll_mk0)),rfl,bel.frame _,fun h => by cases h⟩
theorem over_FnExactConnTake:Rows.fnExactConnTakeRow.holds Try.pinned (OpenSpec.ofChange Rows.fnExactConnTakeSpec) :=
 OpenClaim.holds_of_wide 16 Try.f16 rfl rfl rfl rfl rfl rfl rfl ⟨rfl,rfl,rfl,rfl,rfl⟩ rfl rfl rfl rfl rfl (by kernel_rfl) Try.func16 (by kernel_rfl)
  (of_decide_eq_true (by kernel_rfl)) (by unfold Func.isWrapper;first|(rw [if_pos (by decide +kernel)];kernel_rfl)|(rw [if_neg (by decide +kernel)];exact ⟨rfl,rfl⟩))
  (fun os started H enc _ => lifted_FnExactConnTake os started H enc)
theorem proved_FnExactConnTake:Rows.FnExactConnTakeSaid:=over_FnExactConnTake
#print axioms proved_FnExactConnTake
end
end Go.Proofs.Ytlpkldomoniegaa.X
