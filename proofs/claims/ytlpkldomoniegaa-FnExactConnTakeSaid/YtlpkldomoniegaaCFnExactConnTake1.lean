/- Texts that the row of FnExactConnTake stands on: functions of the program and of the reference, each as a Lean function with the same answers, and the plain lemmas. Conditions: none beside those that each theorem names. -/
import Derived.Test.YtlpkldomoniegaaCFnExactConnTake0
namespace Go.Proofs.Ytlpkldomoniegaa.X
open Go.RowKit Go.Proofs.YtlpkldomoniegaaW.PrintWords Go.Proofs.YtlpkldomoniegaaW.PrintLast Go.Proofs.YtlpkldomoniegaaW.PrintMore
attribute [local go_sem] max2_int min2_int max_two min_two max_three min_three max_four min_four   -- for this text's walks alone
set_option linter.unusedVariables false
set_option linter.unusedSimpArgs false
open Go.Proofs.YtlpkldomoniegaaW.PrintWords renaming blk_drewN -> bDn
open Go.Proofs.YtlpkldomoniegaaW.PrintWords renaming blk_drew -> bDr
open Go.Proofs.YtlpkldomoniegaaW.PrintWords renaming blk_alloc -> bAl
open Go.Proofs.YtlpkldomoniegaaW.PrintWords renaming blk_frozen -> bFr
open Go.Proofs.YtlpkldomoniegaaW.PrintWords renaming blk_cell -> bCe
open Go.Proofs.YtlpkldomoniegaaW.PrintWords.Aside0 renaming mk -> aMk
open Go.World renaming block_lt_of_cell? -> wLt
open Go.Proofs.YtlpkldomoniegaaW.PrintWords renaming pw_below_drewN -> bwN
open Go.Proofs.YtlpkldomoniegaaW.PrintWords renaming below_drew1 -> bw1
open Go.Proofs.YtlpkldomoniegaaW.PrintWords renaming below_alloc -> bwA
section
theorem bW {w W : World} (h : Below w.heap.size w W := by repeat (first | (with_reducible first | exact HB.out | apply below_alloc | apply pw_below_drewN | apply below_drew1 | refine below_set ?_ (Aside0.out (by assumption))) | exact HB.out)) : Below w.heap.size w W := h
theorem bU {w W W1 : World} (hb : Below W.heap.size W W1) (h : Below w.heap.size w W := by repeat (first | (with_reducible first | exact HB.out | apply below_alloc | apply pw_below_drewN | apply below_drew1 | refine below_set ?_ (Aside0.out (by assumption))) | exact HB.out)) : Below w.heap.size w W1 := below_step h hb
theorem bZ {w W : World} {g : Nat} (hg : g = W.heap.size) (h : Below w.heap.size w W := by repeat (first | (with_reducible first | exact HB.out | apply below_alloc | apply pw_below_drewN | apply below_drew1 | refine below_set ?_ (Aside0.out (by assumption))) | exact HB.out)) : w.heap.size ≤ g := by rw [hg]; exact below_size h
theorem bG {w W : World} {g : Nat} (h : Below w.heap.size w W) (hg : g = W.heap.size) : w.heap.size ≤ g := by rw [hg]; exact below_size h
theorem fB {w W : World} {g : Nat} {o : Obj} (h : w.heap[g]? = some o) (hX : w.heap[g]? = some o → W.heap[g]? = some o := by intro h; (with_reducible repeat (first | refine blk_far ?_ (Aside0.out (by assumption)) _ | refine blk_drewN ?_ _ | refine blk_drew ?_ | refine blk_alloc ?_ _)); exact h) : W.heap[g]? = some o := hX h
theorem kQ {p q : Prop} (h : p) (hX : p → q := by intro h; repeat (first | (with_reducible first | exact h | apply KeepBut.set_ | apply keep_drewN | apply keep_drew | apply keep_alloc) | exact h)) : q := hX h
theorem kR {p q : Prop} (h : p) (hX : p → q := by intro h; (with_reducible repeat (first | apply Kd.R_alloc | apply Kd.R_drewN | apply Kd.R_drew)); exact h) : q := hX h
theorem ca7 {w : World} {g : Nat} {t : TypeId} {v0 v1 v2 v3 v4 v5 v6 : Value} {q : Prop} (h : w.heap[g]? = some (.cells #[v0, v1, v2, v3, v4, v5, v6] t (0, 0))) (hq : q) : w.cell? ⟨g, 0, none⟩ = some v0 ∧ w.cell? ⟨g, 1, none⟩ = some v1 ∧ w.cell? ⟨g, 2, none⟩ = some v2 ∧ w.cell? ⟨g, 3, none⟩ = some v3 ∧ w.cell? ⟨g, 4, none⟩ = some v4 ∧ w.cell? ⟨g, 5, none⟩ = some v5 ∧ w.cell? ⟨g, 6, none⟩ = some v6 ∧ q := ⟨(blk_cell h 0).trans rfl, (blk_cell h 1).trans rfl, (blk_cell h 2).trans rfl, (blk_cell h 3).trans rfl, (blk_cell h 4).trans rfl, (blk_cell h 5).trans rfl, (blk_cell h 6).trans rfl, hq⟩
theorem ca11 {w : World} {g : Nat} {t : TypeId} {v0 v1 v2 v3 v4 v5 v6 v7 v8 v9 v10 : Value} {q : Prop} (h : w.heap[g]? = some (.cells #[v0, v1, v2, v3, v4, v5, v6, v7, v8, v9, v10] t (0, 0))) (hq : q) : w.cell? ⟨g, 0, none⟩ = some v0 ∧ w.cell? ⟨g, 1, none⟩ = some v1 ∧ w.cell? ⟨g, 2, none⟩ = some v2 ∧ w.cell? ⟨g, 3, none⟩ = some v3 ∧ w.cell? ⟨g, 4, none⟩ = some v4 ∧ w.cell? ⟨g, 5, none⟩ = some v5 ∧ w.cell? ⟨g, 6, none⟩ = some v6 ∧ w.cell? ⟨g, 7, none⟩ = some v7 ∧ w.cell? ⟨g, 8, none⟩ = some v8 ∧ w.cell? ⟨g, 9, none⟩ = some v9 ∧ w.cell? ⟨g, 10, none⟩ = some v10 ∧ q := ⟨(blk_cell h 0).trans rfl, (blk_cell h 1).trans rfl, (blk_cell h 2).trans rfl, (blk_cell h 3).trans rfl, (blk_cell h 4).trans rfl, (blk_cell h 5).trans rfl, (blk_cell h 6).trans rfl, (blk_cell h 7).trans rfl, (blk_cell h 8).trans rfl, (blk_cell h 9).trans rfl, (blk_cell h 10).trans rfl, hq⟩
theorem cz7 {w : World} {g : Nat} {t : TypeId} {v0 v1 v2 v3 v4 v5 v6 : Value} (h : w.heap[g]? = some (.cells #[v0, v1, v2, v3, v4, v5, v6] t (0, 0))) : w.cell? ⟨g, 0, none⟩ = some v0 ∧ w.cell? ⟨g, 1, none⟩ = some v1 ∧ w.cell? ⟨g, 2, none⟩ = some v2 ∧ w.cell? ⟨g, 3, none⟩ = some v3 ∧ w.cell? ⟨g, 4, none⟩ = some v4 ∧ w.cell? ⟨g, 5, none⟩ = some v5 ∧ w.cell? ⟨g, 6, none⟩ = some v6 := ⟨(blk_cell h 0).trans rfl, (blk_cell h 1).trans rfl, (blk_cell h 2).trans rfl, (blk_cell h 3).trans rfl, (blk_cell h 4).trans rfl, (blk_cell h 5).trans rfl, (blk_cell h 6).trans rfl⟩
theorem cz11 {w : World} {g : Nat} {t : TypeId} {v0 v1 v2 v3 v4 v5 v6 v7 v8 v9 v10 : Value} (h : w.heap[g]? = some (.cells #[v0, v1, v2, v3, v4, v5, v6, v7, v8, v9, v10] t (0, 0))) : w.cell? ⟨g, 0, none⟩ = some v0 ∧ w.cell? ⟨g, 1, none⟩ = some v1 ∧ w.cell? ⟨g, 2, none⟩ = some v2 ∧ w.cell? ⟨g, 3, none⟩ = some v3 ∧ w.cell? ⟨g, 4, none⟩ = some v4 ∧ w.cell? ⟨g, 5, none⟩ = some v5 ∧ w.cell? ⟨g, 6, none⟩ = some v6 ∧ w.cell? ⟨g, 7, none⟩ = some v7 ∧ w.cell? ⟨g, 8, none⟩ = some v8 ∧ w.cell? ⟨g, 9, none⟩ = some v9 ∧ w.cell? ⟨g, 10, none⟩ = some v10 := ⟨(blk_cell h 0).trans rfl, (blk_cell h 1).trans rfl, (blk_cell h 2).trans rfl, (blk_cell h 3).trans rfl, (blk_cell h 4).trans rfl, (blk_cell h 5).trans rfl, (blk_cell h 6).trans rfl, (blk_cell h 7).trans rfl, (blk_cell h 8).trans rfl, (blk_cell h 9).trans rfl, (blk_cell h 10).trans rfl⟩
theorem pU {P : Program} {ops : Array Oper} {Q : Exit → Act → World → Prop} {md : Region.Mode} {S : World → Prop} {ds : List Nat} {i : Nat} {N : Option Tmp} {oi : Oper} {v : Value} {fuel : Nat} {l : Array Bool} {a a' : Act} {w : World} (l' : Array Bool) (hc : anyB md ops l l' i = true) (h : wpAnyLast P md ops Q S ds fuel l' a' w) (hi : ops[i]? = some oi:=by rfl) (hN : oi.dst = N:=by rfl) (hQ : ∀ c a w,Q (.panic c) (a.put oi.dst v) w → Q (.panic c) a w:=by exact fun _ _ _ h => h) (hy : Yields P ops oi v a:=by exact Or.inl ⟨by rfl,by intro w';go_simp;with_reducible rfl⟩) (ha : a.put N v = a':=by simp only [Act.put,List.setIfInBounds_toArray,List.set_cons_zero,List.set_cons_succ,i64_w,i32_w];rfl) : wpAnyLast P md ops Q S ds (fuel + 1) l a w:=pure_ l' hi hN hc hQ hy ha h
theorem tU11 {P : Program} {ops : Array Oper} {Q : Exit → Act → World → Prop} {md : Region.Mode} {S : World → Prop} {ds : List Nat} {i : Nat} {N : Option Tmp} {oi : Oper} {v : Value} {fuel : Nat} {l : Array Bool} {a a' : Act} {w : World} (l' : Array Bool) (hc : takeB md ops ds l l' i = true) (hS : S w) (h : wpAnyLast P md ops Q S ds fuel l' a' w) (hi : ops[i]? = some oi:=by rfl) (hN : oi.dst = N:=by rfl) (hQ : ∀ c a w,Q (.panic c) (a.put oi.dst v) w → Q (.panic c) a w:=by exact fun _ _ _ h => h) (hy : YieldsIf P ops S oi v a:=by exact Or.inl ⟨by rfl,by rintro w' ⟨s0,s1,s2,s3,s4,s5,s6,s7,s8,s9,s10⟩;go_simp;with_reducible rfl⟩) (ha : a.put N v = a':=by simp only [Act.put,List.setIfInBounds_toArray,List.set_cons_zero,List.set_cons_succ,i64_w,i32_w];rfl) : wpAnyLast P md ops Q S ds (fuel + 1) l a w:=take_ l' hi hN hc hQ hy hS ha h
theorem tU14 {P : Program} {ops : Array Oper} {Q : Exit → Act → World → Prop} {md : Region.Mode} {S : World → Prop} {ds : List Nat} {i : Nat} {N : Option Tmp} {oi : Oper} {v : Value} {fuel : Nat} {l : Array Bool} {a a' : Act} {w : World} (l' : Array Bool) (hc : takeB md ops ds l l' i = true) (hS : S w) (h : wpAnyLast P md ops Q S ds fuel l' a' w) (hi : ops[i]? = some oi:=by rfl) (hN : oi.dst = N:=by rfl) (hQ : ∀ c a w,Q (.panic c) (a.put oi.dst v) w → Q (.panic c) a w:=by exact fun _ _ _ h => h) (hy : YieldsIf P ops S oi v a:=by exact Or.inl ⟨by rfl,by rintro w' ⟨s0,s1,s2,s3,s4,s5,s6,s7,s8,s9,s10,s11,s12,s13⟩;go_simp;with_reducible rfl⟩) (ha : a.put N v = a':=by simp only [Act.put,List.setIfInBounds_toArray,List.set_cons_zero,List.set_cons_succ,i64_w,i32_w];rfl) : wpAnyLast P md ops Q S ds (fuel + 1) l a w:=take_ l' hi hN hc hQ hy hS ha h
theorem tU18 {P : Program} {ops : Array Oper} {Q : Exit → Act → World → Prop} {md : Region.Mode} {S : World → Prop} {ds : List Nat} {i : Nat} {N : Option Tmp} {oi : Oper} {v : Value} {fuel : Nat} {l : Array Bool} {a a' : Act} {w : World} (l' : Array Bool) (hc : takeB md ops ds l l' i = true) (hS : S w) (h : wpAnyLast P md ops Q S ds fuel l' a' w) (hi : ops[i]? = some oi:=by rfl) (hN : oi.dst = N:=by rfl) (hQ : ∀ c a w,Q (.panic c) (a.put oi.dst v) w → Q (.panic c) a w:=by exact fun _ _ _ h => h) (hy : YieldsIf P ops S oi v a:=by exact Or.inl ⟨by rfl,by rintro w' ⟨s0,s1,s2,s3,s4,s5,s6,s7,s8,s9,s10,s11,s12,s13,s14,s15,s16,s17⟩;go_simp;with_reducible rfl⟩) (ha : a.put N v = a':=by simp only [Act.put,List.setIfInBounds_toArray,List.set_cons_zero,List.set_cons_succ,i64_w,i32_w];rfl) : wpAnyLast P md ops Q S ds (fuel + 1) l a w:=take_ l' hi hN hc hQ hy hS ha h
theorem tU7 {P : Program} {ops : Array Oper} {Q : Exit → Act → World → Prop} {md : Region.Mode} {S : World → Prop} {ds : List Nat} {i : Nat} {N : Option Tmp} {oi : Oper} {v : Value} {fuel : Nat} {l : Array Bool} {a a' : Act} {w : World} (l' : Array Bool) (hc : takeB md ops ds l l' i = true) (hS : S w) (h : wpAnyLast P md ops Q S ds fuel l' a' w) (hi : ops[i]? = some oi:=by rfl) (hN : oi.dst = N:=by rfl) (hQ : ∀ c a w,Q (.panic c) (a.put oi.dst v) w → Q (.panic c) a w:=by exact fun _ _ _ h => h) (hy : YieldsIf P ops S oi v a:=by exact Or.inl ⟨by rfl,by rintro w' ⟨s0,s1,s2,s3,s4,s5,s6⟩;go_simp;with_reducible rfl⟩) (ha : a.put N v = a':=by simp only [Act.put,List.setIfInBounds_toArray,List.set_cons_zero,List.set_cons_succ,i64_w,i32_w];rfl) : wpAnyLast P md ops Q S ds (fuel + 1) l a w:=take_ l' hi hN hc hQ hy hS ha h
theorem cF11 {w : World} {a : Addr} {g : Nat} {v : Option Value} {j0 j1 j2 j3 j4 j5 j6 j7 j8 j9 j10 : Nat} {u0 u1 u2 u3 u4 u5 u6 u7 u8 u9 u10 : Value} (hne : a.block ≠ g) (h : w.cell? a = v) : (((((((((((w.setCell ⟨g,j0,none⟩ u0).setCell ⟨g,j1,none⟩ u1).setCell ⟨g,j2,none⟩ u2).setCell ⟨g,j3,none⟩ u3).setCell ⟨g,j4,none⟩ u4).setCell ⟨g,j5,none⟩ u5).setCell ⟨g,j6,none⟩ u6).setCell ⟨g,j7,none⟩ u7).setCell ⟨g,j8,none⟩ u8).setCell ⟨g,j9,none⟩ u9).setCell ⟨g,j10,none⟩ u10).cell? a = v:=((cell_far (p:=⟨g,_,none⟩) hne _).trans ((cell_far (p:=⟨g,_,none⟩) hne _).trans ((cell_far (p:=⟨g,_,none⟩) hne _).trans ((cell_far (p:=⟨g,_,none⟩) hne _).trans ((cell_far (p:=⟨g,_,none⟩) hne _).trans ((cell_far (p:=⟨g,_,none⟩) hne _).trans ((cell_far (p:=⟨g,_,none⟩) hne _).trans ((cell_far (p:=⟨g,_,none⟩) hne _).trans ((cell_far (p:=⟨g,_,none⟩) hne _).trans ((cell_far (p:=⟨g,_,none⟩) hne _).trans ((cell_far (p:=⟨g,_,none⟩) hne _).trans h)))))))))))
theorem cF7 {w : World} {a : Addr} {g : Nat} {v : Option Value} {j0 j1 j2 j3 j4 j5 j6 : Nat} {u0 u1 u2 u3 u4 u5 u6 : Value} (hne : a.block ≠ g) (h : w.cell? a = v) : (((((((w.setCell ⟨g,j0,none⟩ u0).setCell ⟨g,j1,none⟩ u1).setCell ⟨g,j2,none⟩ u2).setCell ⟨g,j3,none⟩ u3).setCell ⟨g,j4,none⟩ u4).setCell ⟨g,j5,none⟩ u5).setCell ⟨g,j6,none⟩ u6).cell? a = v:=((cell_far (p:=⟨g,_,none⟩) hne _).trans ((cell_far (p:=⟨g,_,none⟩) hne _).trans ((cell_far (p:=⟨g,_,none⟩) hne _).trans ((cell_far (p:=⟨g,_,none⟩) hne _).trans ((cell_far (p:=⟨g,_,none⟩) hne _).trans ((cell_far (p:=⟨g,_,none⟩) hne _).trans ((cell_far (p:=⟨g,_,none⟩) hne _).trans h)))))))
theorem pB {w W : World} {g : Nat} {o : Obj} (h : w.heap[g]? = some o) (hW : w.heap[g]? = some o → W.heap[g]? = some o:=by intro h;(with_reducible repeat (first|refine bDn ?_ _|refine bDr ?_|refine bAl ?_ _));exact h) : W.heap[g]? = some o:=hW h
theorem rfS {α : Sort _} {a b : α} (h : a = b:=by first | rfl|(simp;done)|(simp [*];done)|(simp [ne_nil_b];done)|(simp [ne_nil_b, *];done)) : a = b:=h
theorem bkL {w W : World} {g x : Nat} {o : Obj} (h : w.heap[g]? = some o) (hg : x = W.heap.size) (hW : w.heap[g]? = some o → W.heap[g]? = some o:=by intro h;refine pB ?_;exact h) : g ≠ x:=by rw [hg];exact Nat.ne_of_lt (blk_lt (hW h))
theorem bkG {w W : World} {g x : Nat} {o : Obj} (h : w.heap[g]? = some o) (hg : x = W.heap.size) (hW : w.heap[g]? = some o → W.heap[g]? = some o:=by intro h;refine pB ?_;exact h) : x ≠ g:=by rw [hg];exact Nat.ne_of_gt (blk_lt (hW h))
theorem bkB {w W w1 : World} {g : Nat} {o : Obj} (h : w.heap[g]? = some o) (hb : Below W.heap.size W w1) (hW : w.heap[g]? = some o → W.heap[g]? = some o:=by intro h;refine pB ?_;exact h) : w1.heap[g]? = some o:=blk_below (hW h) hb
theorem bxE {ops : Array Oper} {Q : Exit → Act → World → Prop} {rest : List Oper} {o : Oper} {a : Act} {W : World} {N : Tmp} {cs : Array Value} {t : TypeId} (h : ∀ g,g = W.heap.size → ∀ w1,w1.heap[g]? = some (.cells cs t (0,0)) → Below W.heap.size W w1 → wpList Try.prog ops Q rest (a.put o.dst (.pointer (some ⟨g,0,none⟩))) w1) (hd : o.dst = some N:=by rfl) (hgd : o.guard = none:=by rfl) (hrun : (execOp a.eval o).run Try.prog W = .ok (.value (.pointer (some ⟨W.heap.size,0,none⟩))) (W.alloc (.cells cs t (0,0))):=by first|(go_simp;done)|(go_simp;rfl)) : wpList Try.prog ops Q (o :: rest) a W:=box_event hgd hd hrun h
theorem bXc {w W : World} {a : Addr} {v : Value} (hB : Below w.heap.size w W) (h : w.cell? a = some v) : W.cell? a = some v:=(hB.cell (wLt w _ h)).trans h
theorem eRf {e e' : Ending} (h : e = e':=by first | rfl|(simp [errW_none,errW_some] <;> rfl)|(simp [*,errW_none,errW_some] <;> rfl)) : e = e':=h
theorem gLs {ops : Array Oper} {Q : Exit → Act → World → Prop} {rest : List Oper} {oi : Oper} {a : Act} {w : World} (N : Tmp) {f : FuncId} {fn : Func} {as0 : Array Operand} {ts : Array TypeId} (hf : Try.prog.funcs[f]? = some fn) (args : Array Value) (hC : Calls Try.prog f args w fun e w' => ∃ v,e = Ending.returned v ∧ wpList Try.prog ops Q rest (a.put (some N) v) w') (h5 : oi.op = Op.call { callee:=Callee.value (Operand.func f),args:=as0,argTypes:=ts }:=by rfl) (h1 : oi.dst = some N:=by rfl) (h2 : oi.guard = none:=by rfl) (h3 : (fn.name == "runtime.NumGoroutine") = false:=by kernel_rfl) (h4 : fn.body.isSome = true:=by rfl) (h6 : Array.map a.eval as0 = args:=by (try simp only [List.map_toArray,List.map_cons,List.map_nil]);first | done | rfl|(simp only [List.length_drop,List.length_take];rfl)) : wpList Try.prog ops Q (oi :: rest) a w:=goesL_ (some N) h1 h2 hf h3 h4 args h5 h6 hC
theorem bSt {w W W1 : World} (hb : Below W.heap.size W W1) (h : Below w.heap.size w W:=by repeat (first|(with_reducible first|exact HB.out|apply bwA|apply bwN|apply bw1)|exact HB.out)) : Below w.heap.size w W1:=below_step h hb
theorem bSz {w W : World} (h : Below w.heap.size w W:=by repeat (first|(with_reducible first|exact HB.out|apply bwA|apply bwN|apply bw1)|exact HB.out)) : w.heap.size ≤ W.heap.size:=below_size h
theorem bC7 {w : World} {g : Nat} {t : TypeId} {v0 v1 v2 v3 v4 v5 v6 : Value} (h : w.heap[g]? = some (.cells #[v0,v1,v2,v3,v4,v5,v6] t (0,0))) : w.cell? ⟨g,0,none⟩ = some v0 ∧ w.cell? ⟨g,1,none⟩ = some v1 ∧ w.cell? ⟨g,2,none⟩ = some v2 ∧ w.cell? ⟨g,3,none⟩ = some v3 ∧ w.cell? ⟨g,4,none⟩ = some v4 ∧ w.cell? ⟨g,5,none⟩ = some v5 ∧ w.cell? ⟨g,6,none⟩ = some v6 ∧ w.frozen? ⟨g,0,none⟩ = false ∧ w.frozen? ⟨g,1,none⟩ = false ∧ w.frozen? ⟨g,2,none⟩ = false ∧ w.frozen? ⟨g,3,none⟩ = false ∧ w.frozen? ⟨g,4,none⟩ = false ∧ w.frozen? ⟨g,5,none⟩ = false ∧ w.frozen? ⟨g,6,none⟩ = false:=⟨(bCe h 0).trans rfl,(bCe h 1).trans rfl,(bCe h 2).trans rfl,(bCe h 3).trans rfl,(bCe h 4).trans rfl,(bCe h 5).trans rfl,(bCe h 6).trans rfl,bFr h 0,bFr h 1,bFr h 2,bFr h 3,bFr h 4,bFr h 5,bFr h 6⟩
theorem bC11 {w : World} {g : Nat} {t : TypeId} {v0 v1 v2 v3 v4 v5 v6 v7 v8 v9 v10 : Value} (h : w.heap[g]? = some (.cells #[v0,v1,v2,v3,v4,v5,v6,v7,v8,v9,v10] t (0,0))) : w.cell? ⟨g,0,none⟩ = some v0 ∧ w.cell? ⟨g,1,none⟩ = some v1 ∧ w.cell? ⟨g,2,none⟩ = some v2 ∧ w.cell? ⟨g,3,none⟩ = some v3 ∧ w.cell? ⟨g,4,none⟩ = some v4 ∧ w.cell? ⟨g,5,none⟩ = some v5 ∧ w.cell? ⟨g,6,none⟩ = some v6 ∧ w.cell? ⟨g,7,none⟩ = some v7 ∧ w.cell? ⟨g,8,none⟩ = some v8 ∧ w.cell? ⟨g,9,none⟩ = some v9 ∧ w.cell? ⟨g,10,none⟩ = some v10 ∧ w.frozen? ⟨g,0,none⟩ = false ∧ w.frozen? ⟨g,1,none⟩ = false ∧ w.frozen? ⟨g,2,none⟩ = false ∧ w.frozen? ⟨g,3,none⟩ = false ∧ w.frozen? ⟨g,4,none⟩ = false ∧ w.frozen? ⟨g,5,none⟩ = false ∧ w.frozen? ⟨g,6,none⟩ = false ∧ w.frozen? ⟨g,7,none⟩ = false ∧ w.frozen? ⟨g,8,none⟩ = false ∧ w.frozen? ⟨g,9,none⟩ = false ∧ w.frozen? ⟨g,10,none⟩ = false:=⟨(bCe h 0).trans rfl,(bCe h 1).trans rfl,(bCe h 2).trans rfl,(bCe h 3).trans rfl,(bCe h 4).trans rfl,(bCe h 5).trans rfl,(bCe h 6).trans rfl,(bCe h 7).trans rfl,(bCe h 8).trans rfl,(bCe h 9).trans rfl,(bCe h 10).trans rfl,bFr h 0,bFr h 1,bFr h 2,bFr h 3,bFr h 4,bFr h 5,bFr h 6,bFr h 7,bFr h 8,bFr h 9,bFr h 10⟩
def errW:Option Int→Value
 | none => .nilIface
 | some c => .iface 0 (.int .i64 c)
theorem errW_none:errW none = .nilIface:=rfl
theorem errW_some (c:Int):errW (some c) = .iface 0 (.int .i64 c):=rfl

theorem ne_nil_b (l:List UInt8):(l != []) = !l.isEmpty:=by cases l <;> rfl

theorem info53:(Try.prog.info? 53).map (fun i => (i.zero,i.size,i.bytes)) = some (some (.agg #[(.int .i64 0),(.int .i64 0),(.int .i64 0),(.int .i64 0),(.int .i64 0),(.int .i64 0),(.string ⟨#[]⟩)]),7,64):=by kernel_rfl
/-! #### struct type 68 -/
structure S68 where
 f0:Int
 f1:ByteArray
 f2:Int
 f3:Int
 f4:Int
 f5:Int
 f6:Int
 f7:Int
 f8:Int
def z68:S68:=⟨(0:Int),(⟨#[]⟩:ByteArray),(0:Int),(0:Int),(0:Int),(0:Int),(0:Int),(0:Int),(0:Int)⟩
def k68:Kd S68:=Kd.iso (Kd.pair (Kd.int .i64) (Kd.pair Kd.string (Kd.pair (Kd.int .i64) (Kd.pair (Kd.int .i64) (Kd.pair (Kd.int .i64) (Kd.pair (Kd.int .i64) (Kd.pair (Kd.int .i64) (Kd.pair (Kd.int .i64) (Kd.int .i64))))))))) (fun x:S68 => (x.f0,x.f1,x.f2,x.f3,x.f4,x.f5,x.f6,x.f7,x.f8))
def rd_T68 (xs:List S68) (i:Int):S68:=xs.getD i.toNat z68
/-! #### struct type 71 -/
structure S71 where
 f0:Int
 f1:ByteArray
 f2:Int
 f3:Int
 f4:Int
 f5:Int
 f6:Int
 f7:Int
 f8:Int
def z71:S71:=⟨(0:Int),(⟨#[]⟩:ByteArray),(0:Int),(0:Int),(0:Int),(0:Int),(0:Int),(0:Int),(0:Int)⟩
def k71:Kd S71:=Kd.iso (Kd.pair (Kd.int .i64) (Kd.pair Kd.string (Kd.pair (Kd.int .i64) (Kd.pair (Kd.int .i64) (Kd.pair (Kd.int .i64) (Kd.pair (Kd.int .i64) (Kd.pair (Kd.int .i64) (Kd.pair (Kd.int .i64) (Kd.int .i64))))))))) (fun x:S71 => (x.f0,x.f1,x.f2,x.f3,x.f4,x.f5,x.f6,x.f7,x.f8))
def rd_T71 (xs:List S71) (i:Int):S71:=xs.getD i.toNat z71
def rd_L5 (xs:List (List S71)) (i:Int):(List S71):=xs.getD i.toNat ([]:List S71)
/-! #### struct type 53 -/
structure S53 where
 f0:Int
 f1:Int
 f2:Int
 f3:Int
 f4:Int
 f5:Int
 f6:ByteArray
def z53:S53:=⟨(0:Int),(0:Int),(0:Int),(0:Int),(0:Int),(0:Int),(⟨#[]⟩:ByteArray)⟩
def k53:Kd S53:=Kd.iso (Kd.pair (Kd.int .i64) (Kd.pair (Kd.int .i64) (Kd.pair (Kd.int .i64) (Kd.pair (Kd.int .i64) (Kd.pair (Kd.int .i64) (Kd.pair (Kd.int .i64) Kd.string)))))) (fun x:S53 => (x.f0,x.f1,x.f2,x.f3,x.f4,x.f5,x.f6))
theorem k53_open {w:World} {x:S53} {cs:List Value} (h:k53.K w x cs):cs = [.int .i64 x.f0,.int .i64 x.f1,.int .i64 x.f2,.int .i64 x.f3,.int .i64 x.f4,.int .i64 x.f5,.string x.f6]:=by
 obtain ⟨_,_,rfl,rfl,⟨_,_,rfl,rfl,⟨_,_,rfl,rfl,⟨_,_,rfl,rfl,⟨_,_,rfl,rfl,⟨_,_,rfl,rfl,rfl⟩⟩⟩⟩⟩⟩:=h
 exact rfl
theorem k53_openM {w:World} {base:Nat} {ok:Nat→Prop} {x:S53} {cs:List Value} (h:k53.M w base ok x cs):cs = [.int .i64 x.f0,.int .i64 x.f1,.int .i64 x.f2,.int .i64 x.f3,.int .i64 x.f4,.int .i64 x.f5,.string x.f6]:=by
 obtain ⟨_,_,rfl,rfl,⟨_,_,rfl,rfl,⟨_,_,rfl,rfl,⟨_,_,rfl,rfl,⟨_,_,rfl,rfl,⟨_,_,rfl,rfl,rfl⟩⟩⟩⟩⟩⟩:=h
 exact rfl
theorem k53_mkM (w:World) (base:Nat) (ok:Nat→Prop) (x:S53) :k53.M w base ok x [.int .i64 x.f0,.int .i64 x.f1,.int .i64 x.f2,.int .i64 x.f3,.int .i64 x.f4,.int .i64 x.f5,.string x.f6]:=⟨[.int .i64 x.f0],[.int .i64 x.f1,.int .i64 x.f2,.int .i64 x.f3,.int .i64 x.f4,.int .i64 x.f5,.string x.f6],rfl,rfl,⟨[.int .i64 x.f1],[.int .i64 x.f2,.int .i64 x.f3,.int .i64 x.f4,.int .i64 x.f5,.string x.f6],rfl,rfl,⟨[.int .i64 x.f2],[.int .i64 x.f3,.int .i64 x.f4,.int .i64 x.f5,.string x.f6],rfl,rfl,⟨[.int .i64 x.f3],[.int .i64 x.f4,.int .i64 x.f5,.string x.f6],rfl,rfl,⟨[.int .i64 x.f4],[.int .i64 x.f5,.string x.f6],rfl,rfl,⟨[.int .i64 x.f5],[.string x.f6],rfl,rfl,rfl⟩⟩⟩⟩⟩⟩
def rd_T53 (xs:List S53) (i:Int):S53:=xs.getD i.toNat z53
theorem at_T53 {w:World} {A:Option Addr} {n:Nat} {xs:List S53} (h:Kd.C k53 w A n xs) (i:Int) (h0:0≤i) (h1:i < n):∃ ad ,A = some ad∧w.cell? (ad.add (i.toNat * 7)) = some (.int .i64 (rd_T53 xs i).f0)∧w.cell? ⟨(ad.add (i.toNat * 7)).block,(ad.add (i.toNat * 7)).off + 1,none⟩ = some (.int .i64 (rd_T53 xs i).f1)∧w.cell? ⟨(ad.add (i.toNat * 7)).block,(ad.add (i.toNat * 7)).off + 2,none⟩ = some (.int .i64 (rd_T53 xs i).f2)∧w.cell? ⟨(ad.add (i.toNat * 7)).block,(ad.add (i.toNat * 7)).off + 3,none⟩ = some (.int .i64 (rd_T53 xs i).f3)∧w.cell? ⟨(ad.add (i.toNat * 7)).block,(ad.add (i.toNat * 7)).off + 4,none⟩ = some (.int .i64 (rd_T53 xs i).f4)∧w.cell? ⟨(ad.add (i.toNat * 7)).block,(ad.add (i.toNat * 7)).off + 5,none⟩ = some (.int .i64 (rd_T53 xs i).f5)∧w.cell? ⟨(ad.add (i.toNat * 7)).block,(ad.add (i.toNat * 7)).off + 6,none⟩ = some (.string (rd_T53 xs i).f6):=by
 obtain ⟨ad,c,e,_,hK,hc0⟩:=Kd.C_get h z53 i h0 h1
 have hc:∀ j u,c[j]? = some u→w.cell? (ad.add (i.toNat * 7 + j)) = some u:=hc0
 obtain rfl:=k53_open hK
 exact ⟨ad,e,hc 0 _ rfl,by rw [← add_field _ _ 1 (by omega)];exact hc 1 _ rfl,by rw [← add_field _ _ 2 (by omega)];exact hc 2 _ rfl,by rw [← add_field _ _ 3 (by omega)];exact hc 3 _ rfl,by rw [← add_field _ _ 4 (by omega)];exact hc 4 _ rfl,by rw [← add_field _ _ 5 (by omega)];exact hc 5 _ rfl,by rw [← add_field _ _ 6 (by omega)];exact hc 6 _ rfl⟩

/-! #### struct type 31 -/
structure S31 where
 f0:ByteArray
 f1:Int
 f2:Int
 f3:Int
 f4:Int
 f5:Int
 f6:Int
 f7:Int
 f8:ByteArray
 f9:ByteArray
 f10:Bool
def z31:S31:=⟨(⟨#[]⟩:ByteArray),(0:Int),(0:Int),(0:Int),(0:Int),(0:Int),(0:Int),(0:Int),(⟨#[]⟩:ByteArray),(⟨#[]⟩:ByteArray),false⟩
def k31:Kd S31:=Kd.iso (Kd.pair Kd.string (Kd.pair (Kd.int .i64) (Kd.pair (Kd.int .i64) (Kd.pair (Kd.int .i64) (Kd.pair (Kd.int .i64) (Kd.pair (Kd.int .i64) (Kd.pair (Kd.int .i64) (Kd.pair (Kd.int .i64) (Kd.pair Kd.string (Kd.pair Kd.string Kd.bool)))))))))) (fun x:S31 => (x.f0,x.f1,x.f2,x.f3,x.f4,x.f5,x.f6,x.f7,x.f8,x.f9,x.f10))
theorem k31_open {w:World} {x:S31} {cs:List Value} (h:k31.K w x cs):cs = [.string x.f0,.int .i64 x.f1,.int .i64 x.f2,.int .i64 x.f3,.int .i64 x.f4,.int .i64 x.f5,.int .i64 x.f6,.int .i64 x.f7,.string x.f8,.string x.f9,.bool x.f10]:=by
 obtain ⟨_,_,rfl,rfl,⟨_,_,rfl,rfl,⟨_,_,rfl,rfl,⟨_,_,rfl,rfl,⟨_,_,rfl,rfl,⟨_,_,rfl,rfl,⟨_,_,rfl,rfl,⟨_,_,rfl,rfl,⟨_,_,rfl,rfl,⟨_,_,rfl,rfl,rfl⟩⟩⟩⟩⟩⟩⟩⟩⟩⟩:=h
 exact rfl
def rd_T31 (xs:List S31) (i:Int):S31:=xs.getD i.toNat z31
/-! #### struct type 48 -/
structure S48 where
 f0:Int
 f1:Int
 f2:Int
 f3:Int
 f4:Int
 f5:Int
 f6:ByteArray
def z48:S48:=⟨(0:Int),(0:Int),(0:Int),(0:Int),(0:Int),(0:Int),(⟨#[]⟩:ByteArray)⟩
def k48:Kd S48:=Kd.iso (Kd.pair (Kd.int .i64) (Kd.pair (Kd.int .i64) (Kd.pair (Kd.int .i64) (Kd.pair (Kd.int .i64) (Kd.pair (Kd.int .i64) (Kd.pair (Kd.int .i64) Kd.string)))))) (fun x:S48 => (x.f0,x.f1,x.f2,x.f3,x.f4,x.f5,x.f6))
theorem k48_open {w:World} {x:S48} {cs:List Value} (h:k48.K w x cs):cs = [.int .i64 x.f0,.int .i64 x.f1,.int .i64 x.f2,.int .i64 x.f3,.int .i64 x.f4,.int .i64 x.f5,.string x.f6]:=by
 obtain ⟨_,_,rfl,rfl,⟨_,_,rfl,rfl,⟨_,_,rfl,rfl,⟨_,_,rfl,rfl,⟨_,_,rfl,rfl,⟨_,_,rfl,rfl,rfl⟩⟩⟩⟩⟩⟩:=h
 exact rfl
def rd_T48 (xs:List S48) (i:Int):S48:=xs.getD i.toNat z48
end
section
/-! ### laws_szConn: function 22 -/
def laws_szConn.f (a0_0:ByteArray) (a0_1 a0_2:Int) (a0_3 a0_4:Int) (a0_5 a0_6 a0_7:Int) (a0_8 a0_9:ByteArray) (a0_10:Bool) (a1:Int):Option (Int):=if (wrap64 (a1 - (a0_0.size:Int))) < 0 then (some (-1)) else (if (wrap64 ((wrap64 (a1 - (a0_0.size:Int))) - (a0_8.size:Int))) < 0 then (some (-1)) else (if (wrap64 ((wrap64 ((wrap64 (a1 - (a0_0.size:Int))) - (a0_8.size:Int))) - (a0_9.size:Int))) < 0 then (some (-1)) else (some (wrap64 ((wrap64 ((wrap64 (a1 - (a0_0.size:Int))) - (a0_8.size:Int))) - (a0_9.size:Int))))))
set_option maxHeartbeats 8000000 in
set_option maxRecDepth 100000 in
theorem laws_szConn.calls (a0_0:ByteArray) (a0_1 a0_2:Int) (a0_3 a0_4:Int) (a0_5 a0_6 a0_7:Int) (a0_8 a0_9:ByteArray) (a0_10:Bool) (a1 r:Int) (w:World) (h:laws_szConn.f a0_0 a0_1 a0_2 a0_3 a0_4 a0_5 a0_6 a0_7 a0_8 a0_9 a0_10 a1 = some r) :
  Calls Try.prog 22 #[.agg #[.string a0_0,.int .i64 a0_1,.int .i64 a0_2,.int .i64 a0_3,.int .i64 a0_4,.int .i64 a0_5,.int .i64 a0_6,.int .i64 a0_7,.string a0_8,.string a0_9,.bool a0_10],.int .i64 a1] w fun e w' => e = .returned (.int .i64 r)∧Below w.heap.size w w':=by
 have hu31:=Try.underlying31
 have HB:=aMk (Below.refl w.heap.size w)
 have H:=h
 unfold laws_szConn.f at H
 clear h
 by_cases c3:(wrap64 (a1 - (a0_0.size:Int))) < 0
 ·rw [if_pos c3] at H
  have c3b0:decide ((wrap64 (a1 - (a0_0.size:Int))) < 0) = true:=decide_eq_true c3
  clear c3
  obtain rfl:=Option.some.inj H
  go_enter Try.func22,Try.ntmps22
  go_wp2_with (first|((with_reducible refine gate_dst (N:=2) rfl ?_);refine bxE (N:=2) (cs:=#[.string a0_0,.int .i64 a0_1,.int .i64 a0_2,.int .i64 a0_3,.int .i64 a0_4,.int .i64 a0_5,.int .i64 a0_6,.int .i64 a0_7,.string a0_8,.string a0_9,.bool a0_10]) (t:=31) ?_;intro gb145 hg w4 hbox hb;have BK145:=aMk (hbox);have GW145:=aMk (bZ hg);have GE145:=aMk (bZ hg);replace HB:=aMk (bSt hb);clear hb hbox hg;obtain ⟨Z5_0,Z5_1,Z5_2,Z5_3,Z5_4,Z5_5,Z5_6,Z5_7,Z5_8,Z5_9,Z5_10,Y5_0,Y5_1,Y5_2,Y5_3,Y5_4,Y5_5,Y5_6,Y5_7,Y5_8,Y5_9,Y5_10⟩:=bC11 BK145.out))
  go_ret
  exact ⟨eRf,bW⟩
 ·rw [if_neg c3] at H
  have c3b0:decide ((wrap64 (a1 - (a0_0.size:Int))) < 0) = false:=decide_eq_false c3
  clear c3
  by_cases c6:(wrap64 ((wrap64 (a1 - (a0_0.size:Int))) - (a0_8.size:Int))) < 0
  ·rw [if_pos c6] at H
   have c6b0:decide ((wrap64 ((wrap64 (a1 - (a0_0.size:Int))) - (a0_8.size:Int))) < 0) = true:=decide_eq_true c6
   clear c6
   obtain rfl:=Option.some.inj H
   go_enter Try.func22,Try.ntmps22
   go_wp2_with (first|((with_reducible refine gate_dst (N:=2) rfl ?_);refine bxE (N:=2) (cs:=#[.string a0_0,.int .i64 a0_1,.int .i64 a0_2,.int .i64 a0_3,.int .i64 a0_4,.int .i64 a0_5,.int .i64 a0_6,.int .i64 a0_7,.string a0_8,.string a0_9,.bool a0_10]) (t:=31) ?_;intro gb145 hg w7 hbox hb;have BK145:=aMk (hbox);have GW145:=aMk (bZ hg);have GE145:=aMk (bZ hg);replace HB:=aMk (bSt hb);clear hb hbox hg;obtain ⟨Z8_0,Z8_1,Z8_2,Z8_3,Z8_4,Z8_5,Z8_6,Z8_7,Z8_8,Z8_9,Z8_10,Y8_0,Y8_1,Y8_2,Y8_3,Y8_4,Y8_5,Y8_6,Y8_7,Y8_8,Y8_9,Y8_10⟩:=bC11 BK145.out))
   go_ret
   exact ⟨eRf,bW⟩
  ·rw [if_neg c6] at H
   have c6b0:decide ((wrap64 ((wrap64 (a1 - (a0_0.size:Int))) - (a0_8.size:Int))) < 0) = false:=decide_eq_false c6
   clear c6
   by_cases c9:(wrap64 ((wrap64 ((wrap64 (a1 - (a0_0.size:Int))) - (a0_8.size:Int))) - (a0_9.size:Int))) < 0
   ·rw [if_pos c9] at H
    have c9b0:decide ((wrap64 ((wrap64 ((wrap64 (a1 - (a0_0.size:Int))) - (a0_8.size:Int))) - (a0_9.size:Int))) < 0) = true:=decide_eq_true c9
    clear c9
    obtain rfl:=Option.some.inj H
    go_enter Try.func22,Try.ntmps22
    go_wp2_with (first|((with_reducible refine gate_dst (N:=2) rfl ?_);refine bxE (N:=2) (cs:=#[.string a0_0,.int .i64 a0_1,.int .i64 a0_2,.int .i64 a0_3,.int .i64 a0_4,.int .i64 a0_5,.int .i64 a0_6,.int .i64 a0_7,.string a0_8,.string a0_9,.bool a0_10]) (t:=31) ?_;intro gb145 hg w10 hbox hb;have BK145:=aMk (hbox);have GW145:=aMk (bZ hg);have GE145:=aMk (bZ hg);replace HB:=aMk (bSt hb);clear hb hbox hg;obtain ⟨Z11_0,Z11_1,Z11_2,Z11_3,Z11_4,Z11_5,Z11_6,Z11_7,Z11_8,Z11_9,Z11_10,Y11_0,Y11_1,Y11_2,Y11_3,Y11_4,Y11_5,Y11_6,Y11_7,Y11_8,Y11_9,Y11_10⟩:=bC11 BK145.out))
    go_ret
    exact ⟨eRf,bW⟩
   ·rw [if_neg c9] at H
    have c9b0:decide ((wrap64 ((wrap64 ((wrap64 (a1 - (a0_0.size:Int))) - (a0_8.size:Int))) - (a0_9.size:Int))) < 0) = false:=decide_eq_false c9
    clear c9
    obtain rfl:=Option.some.inj H
    go_enter Try.func22,Try.ntmps22
    go_wp2_with (first|((with_reducible refine gate_dst (N:=2) rfl ?_);refine bxE (N:=2) (cs:=#[.string a0_0,.int .i64 a0_1,.int .i64 a0_2,.int .i64 a0_3,.int .i64 a0_4,.int .i64 a0_5,.int .i64 a0_6,.int .i64 a0_7,.string a0_8,.string a0_9,.bool a0_10]) (t:=31) ?_;intro gb145 hg w12 hbox hb;have BK145:=aMk (hbox);have GW145:=aMk (bZ hg);have GE145:=aMk (bZ hg);replace HB:=aMk (bSt hb);clear hb hbox hg;obtain ⟨Z13_0,Z13_1,Z13_2,Z13_3,Z13_4,Z13_5,Z13_6,Z13_7,Z13_8,Z13_9,Z13_10,Y13_0,Y13_1,Y13_2,Y13_3,Y13_4,Y13_5,Y13_6,Y13_7,Y13_8,Y13_9,Y13_10⟩:=bC11 BK145.out))
    go_ret
    exact ⟨eRf,bW⟩
end
section
/-! ### laws_toConn: function 24 -/
def laws_toConn.f (a0_0:ByteArray) (a0_1 a0_2:Int) (a0_3 a0_4:Int) (a0_5 a0_6 a0_7:Int) (a0_8 a0_9:ByteArray) (a0_10:Bool):Option (ByteArray × Int × Int × Int × Int × Int × Int × Int × ByteArray × ByteArray × Bool):=some (a0_0,a0_1,a0_2,a0_3,a0_4,a0_5,a0_6,a0_7,a0_8,a0_9,a0_10)
set_option maxHeartbeats 8000000 in
set_option maxRecDepth 100000 in
theorem laws_toConn.calls (a0_0:ByteArray) (a0_1 a0_2:Int) (a0_3 a0_4:Int) (a0_5 a0_6 a0_7:Int) (a0_8 a0_9:ByteArray) (a0_10:Bool) (r1:ByteArray) (r2 r3:Int) (r4 r5:Int) (r6 r7 r8:Int) (r9 r10:ByteArray) (r11:Bool) (w:World) (h:laws_toConn.f a0_0 a0_1 a0_2 a0_3 a0_4 a0_5 a0_6 a0_7 a0_8 a0_9 a0_10 = some (r1,r2,r3,r4,r5,r6,r7,r8,r9,r10,r11)) :
  Calls Try.prog 24 #[.agg #[.string a0_0,.int .i64 a0_1,.int .i64 a0_2,.int .i64 a0_3,.int .i64 a0_4,.int .i64 a0_5,.int .i64 a0_6,.int .i64 a0_7,.string a0_8,.string a0_9,.bool a0_10]] w fun e w' => e = .returned (.agg #[.string r1,.int .i64 r2,.int .i64 r3,.int .i64 r4,.int .i64 r5,.int .i64 r6,.int .i64 r7,.int .i64 r8,.string r9,.string r10,.bool r11])∧Below w.heap.size w w':=by
 have hu31:=Try.underlying31
 have hu34:=Try.underlying34
 have HB:=aMk (Below.refl w.heap.size w)
 have H:=h
 unfold laws_toConn.f at H
 clear h
 simp only [Option.some.injEq,Prod.mk.injEq] at H
 obtain ⟨rfl,rfl,rfl,rfl,rfl,rfl,rfl,rfl,rfl,rfl,rfl⟩:=H
 go_enter Try.func24,Try.ntmps24
 go_wp2_with (first|((with_reducible refine gate_dst (N:=1) rfl ?_);refine bxE (N:=1) (cs:=#[.string a0_0,.int .i64 a0_1,.int .i64 a0_2,.int .i64 a0_3,.int .i64 a0_4,.int .i64 a0_5,.int .i64 a0_6,.int .i64 a0_7,.string a0_8,.string a0_9,.bool a0_10]) (t:=31) ?_;intro gb162 hg w2 hbox hb;have BK162:=aMk (hbox);have GW162:=aMk (bZ hg);have GE162:=aMk (bZ hg);replace HB:=aMk (bSt hb);clear hb hbox hg)|((with_reducible refine gate_dst (N:=2) rfl ?_);refine bxE (N:=2) (cs:=#[.string (⟨#[]⟩:ByteArray),.int .i64 0,.int .i64 0,.int .i64 0,.int .i64 0,.int .i64 0,.int .i64 0,.int .i64 0,.string (⟨#[]⟩:ByteArray),.string (⟨#[]⟩:ByteArray),.bool false]) (t:=34) ?_;intro gb163 hg w3 hbox hb;have BK163:=aMk (hbox);have GW163:=aMk (bG bW hg);have GE163:=aMk (bG bW hg);replace HB:=aMk (bU hb);have NB162_163:=aMk ((bkL BK162.out hg:gb162 ≠ gb163));have NB163_162:=aMk ((bkG BK162.out hg:gb163 ≠ gb162));replace BK162:=aMk (bkB BK162.out hb);clear hb hbox hg)|((with_reducible refine gate_dst (N:=3) rfl ?_);refine bxE (N:=3) (cs:=#[.string (⟨#[]⟩:ByteArray),.int .i64 0,.int .i64 0,.int .i64 0,.int .i64 0,.int .i64 0,.int .i64 0,.int .i64 0,.string (⟨#[]⟩:ByteArray),.string (⟨#[]⟩:ByteArray),.bool false]) (t:=34) ?_;intro gb164 hg w4 hbox hb;have BK164:=aMk (hbox);have GW164:=aMk (bG bW hg);have GE164:=aMk (bG bW hg);replace HB:=aMk (bU hb);have NB162_164:=aMk ((bkL BK162.out hg:gb162 ≠ gb164));have NB164_162:=aMk ((bkG BK162.out hg:gb164 ≠ gb162));replace BK162:=aMk (bkB BK162.out hb);have NB163_164:=aMk ((bkL BK163.out hg:gb163 ≠ gb164));have NB164_163:=aMk ((bkG BK163.out hg:gb164 ≠ gb163));replace BK163:=aMk (bkB BK163.out hb);clear hb hbox hg;have hnb5:=NB162_163.out;have hnc5:=NB163_162.out;have hnb6:=NB162_164.out;have hnc6:=NB164_162.out;obtain ⟨Z7_0,Z7_1,Z7_2,Z7_3,Z7_4,Z7_5,Z7_6,Z7_7,Z7_8,Z7_9,Z7_10,Y7_0,Y7_1,Y7_2,Y7_3,Y7_4,Y7_5,Y7_6,Y7_7,Y7_8,Y7_9,Y7_10⟩:=bC11 BK162.out;have hnb8:=NB164_163.out;have hnc8:=NB163_164.out;obtain ⟨Z9_0,Z9_1,Z9_2,Z9_3,Z9_4,Z9_5,Z9_6,Z9_7,Z9_8,Z9_9,Z9_10,Y9_0,Y9_1,Y9_2,Y9_3,Y9_4,Y9_5,Y9_6,Y9_7,Y9_8,Y9_9,Y9_10⟩:=bC11 BK164.out;obtain ⟨Z10_0,Z10_1,Z10_2,Z10_3,Z10_4,Z10_5,Z10_6,Z10_7,Z10_8,Z10_9,Z10_10,Y10_0,Y10_1,Y10_2,Y10_3,Y10_4,Y10_5,Y10_6,Y10_7,Y10_8,Y10_9,Y10_10⟩:=bC11 BK163.out))
 refine bodyPost_ret (results_cell_row rfl _ _ gb163 34 #[.string a0_0,.int .i64 a0_1,.int .i64 a0_2,.int .i64 a0_3,.int .i64 a0_4,.int .i64 a0_5,.int .i64 a0_6,.int .i64 a0_7,.string a0_8,.string a0_9,.bool a0_10] (0,0) _ rfl (by refine pB ?_;refine blk_put (cs:=#[.string a0_0,.int .i64 a0_1,.int .i64 a0_2,.int .i64 a0_3,.int .i64 a0_4,.int .i64 a0_5,.int .i64 a0_6,.int .i64 a0_7,.string a0_8,.string a0_9,.bool false]) ?_ 10 _ rfl;refine pB ?_;refine blk_put (cs:=#[.string a0_0,.int .i64 a0_1,.int .i64 a0_2,.int .i64 a0_3,.int .i64 a0_4,.int .i64 a0_5,.int .i64 a0_6,.int .i64 a0_7,.string a0_8,.string (⟨#[]⟩:ByteArray),.bool false]) ?_ 9 _ rfl;refine pB ?_;refine blk_put (cs:=#[.string a0_0,.int .i64 a0_1,.int .i64 a0_2,.int .i64 a0_3,.int .i64 a0_4,.int .i64 a0_5,.int .i64 a0_6,.int .i64 a0_7,.string (⟨#[]⟩:ByteArray),.string (⟨#[]⟩:ByteArray),.bool false]) ?_ 8 _ rfl;refine pB ?_;refine blk_put (cs:=#[.string a0_0,.int .i64 a0_1,.int .i64 a0_2,.int .i64 a0_3,.int .i64 a0_4,.int .i64 a0_5,.int .i64 a0_6,.int .i64 0,.string (⟨#[]⟩:ByteArray),.string (⟨#[]⟩:ByteArray),.bool false]) ?_ 7 _ rfl;refine pB ?_;refine blk_put (cs:=#[.string a0_0,.int .i64 a0_1,.int .i64 a0_2,.int .i64 a0_3,.int .i64 a0_4,.int .i64 a0_5,.int .i64 0,.int .i64 0,.string (⟨#[]⟩:ByteArray),.string (⟨#[]⟩:ByteArray),.bool false]) ?_ 6 _ rfl;refine pB ?_;refine blk_put (cs:=#[.string a0_0,.int .i64 a0_1,.int .i64 a0_2,.int .i64 a0_3,.int .i64 a0_4,.int .i64 0,.int .i64 0,.int .i64 0,.string (⟨#[]⟩:ByteArray),.string (⟨#[]⟩:ByteArray),.bool false]) ?_ 5 _ rfl;refine pB ?_;refine blk_put (cs:=#[.string a0_0,.int .i64 a0_1,.int .i64 a0_2,.int .i64 a0_3,.int .i64 0,.int .i64 0,.int .i64 0,.int .i64 0,.string (⟨#[]⟩:ByteArray),.string (⟨#[]⟩:ByteArray),.bool false]) ?_ 4 _ rfl;refine pB ?_;refine blk_put (cs:=#[.string a0_0,.int .i64 a0_1,.int .i64 a0_2,.int .i64 0,.int .i64 0,.int .i64 0,.int .i64 0,.int .i64 0,.string (⟨#[]⟩:ByteArray),.string (⟨#[]⟩:ByteArray),.bool false]) ?_ 3 _ rfl;refine pB ?_;refine blk_put (cs:=#[.string a0_0,.int .i64 a0_1,.int .i64 0,.int .i64 0,.int .i64 0,.int .i64 0,.int .i64 0,.int .i64 0,.string (⟨#[]⟩:ByteArray),.string (⟨#[]⟩:ByteArray),.bool false]) ?_ 2 _ rfl;refine pB ?_;refine blk_put (cs:=#[.string a0_0,.int .i64 0,.int .i64 0,.int .i64 0,.int .i64 0,.int .i64 0,.int .i64 0,.int .i64 0,.string (⟨#[]⟩:ByteArray),.string (⟨#[]⟩:ByteArray),.bool false]) ?_ 1 _ rfl;refine pB ?_;refine blk_put (cs:=#[.string (⟨#[]⟩:ByteArray),.int .i64 0,.int .i64 0,.int .i64 0,.int .i64 0,.int .i64 0,.int .i64 0,.int .i64 0,.string (⟨#[]⟩:ByteArray),.string (⟨#[]⟩:ByteArray),.bool false]) ?_ 0 _ rfl;refine pB ?_;refine blk_far ?_ NB163_164.out _;refine pB ?_;refine blk_far ?_ NB163_164.out _;refine pB ?_;refine blk_far ?_ NB163_164.out _;refine pB ?_;refine blk_far ?_ NB163_164.out _;refine pB ?_;refine blk_far ?_ NB163_164.out _;refine pB ?_;refine blk_far ?_ NB163_164.out _;refine pB ?_;refine blk_far ?_ NB163_164.out _;refine pB ?_;refine blk_far ?_ NB163_164.out _;refine pB ?_;refine blk_far ?_ NB163_164.out _;refine pB ?_;refine blk_far ?_ NB163_164.out _;refine pB ?_;refine blk_far ?_ NB163_164.out _;refine pB ?_;exact BK163.out) Try.underlying34 rfl (by kernel_rfl)) rfl ?_
 exact ⟨eRf,bW⟩
end
section
/-! ### laws_szSegment: function 33 -/
def laws_szSegment.f (a0_0 a0_1:Int) (a0_2 a0_3:Int) (a0_4 a0_5:Int) (a0_6:ByteArray) (a1:Int):Option (Int):=if (wrap64 (a1 - (a0_6.size:Int))) < 0 then (some (-1)) else (some (wrap64 (a1 - (a0_6.size:Int))))
set_option maxHeartbeats 8000000 in
set_option maxRecDepth 100000 in
theorem laws_szSegment.calls (a0_0 a0_1:Int) (a0_2 a0_3:Int) (a0_4 a0_5:Int) (a0_6:ByteArray) (a1 r:Int) (w:World) (h:laws_szSegment.f a0_0 a0_1 a0_2 a0_3 a0_4 a0_5 a0_6 a1 = some r) :
  Calls Try.prog 33 #[.agg #[.int .i64 a0_0,.int .i64 a0_1,.int .i64 a0_2,.int .i64 a0_3,.int .i64 a0_4,.int .i64 a0_5,.string a0_6],.int .i64 a1] w fun e w' => e = .returned (.int .i64 r)∧Below w.heap.size w w':=by
 have hu48:=Try.underlying48
 have HB:=aMk (Below.refl w.heap.size w)
 have H:=h
 unfold laws_szSegment.f at H
 clear h
 by_cases c3:(wrap64 (a1 - (a0_6.size:Int))) < 0
 ·rw [if_pos c3] at H
  have c3b0:decide ((wrap64 (a1 - (a0_6.size:Int))) < 0) = true:=decide_eq_true c3
  clear c3
  obtain rfl:=Option.some.inj H
  go_enter Try.func33,Try.ntmps33
  go_wp2_with (first|((with_reducible refine gate_dst (N:=2) rfl ?_);refine bxE (N:=2) (cs:=#[.int .i64 a0_0,.int .i64 a0_1,.int .i64 a0_2,.int .i64 a0_3,.int .i64 a0_4,.int .i64 a0_5,.string a0_6]) (t:=48) ?_;intro gb332 hg w4 hbox hb;have BK332:=aMk (hbox);have GW332:=aMk (bZ hg);have GE332:=aMk (bZ hg);replace HB:=aMk (bSt hb);clear hb hbox hg;obtain ⟨Z5_0,Z5_1,Z5_2,Z5_3,Z5_4,Z5_5,Z5_6,Y5_0,Y5_1,Y5_2,Y5_3,Y5_4,Y5_5,Y5_6⟩:=bC7 BK332.out))
  go_ret
  exact ⟨eRf,bW⟩
 ·rw [if_neg c3] at H
  have c3b0:decide ((wrap64 (a1 - (a0_6.size:Int))) < 0) = false:=decide_eq_false c3
  clear c3
  obtain rfl:=Option.some.inj H
  go_enter Try.func33,Try.ntmps33
  go_wp2_with (first|((with_reducible refine gate_dst (N:=2) rfl ?_);refine bxE (N:=2) (cs:=#[.int .i64 a0_0,.int .i64 a0_1,.int .i64 a0_2,.int .i64 a0_3,.int .i64 a0_4,.int .i64 a0_5,.string a0_6]) (t:=48) ?_;intro gb332 hg w6 hbox hb;have BK332:=aMk (hbox);have GW332:=aMk (bZ hg);have GE332:=aMk (bZ hg);replace HB:=aMk (bSt hb);clear hb hbox hg;obtain ⟨Z7_0,Z7_1,Z7_2,Z7_3,Z7_4,Z7_5,Z7_6,Y7_0,Y7_1,Y7_2,Y7_3,Y7_4,Y7_5,Y7_6⟩:=bC7 BK332.out))
  go_ret
  exact ⟨eRf,bW⟩
end
section
/-! ### laws_toSegment: function 35 -/
def laws_toSegment.f (a0_0 a0_1:Int) (a0_2 a0_3:Int) (a0_4 a0_5:Int) (a0_6:ByteArray):Option (Int × Int × Int × Int × Int × Int × ByteArray):=some (a0_0,a0_1,a0_2,a0_3,a0_4,a0_5,a0_6)
set_option maxHeartbeats 8000000 in
set_option maxRecDepth 100000 in
theorem laws_toSegment.calls (a0_0 a0_1:Int) (a0_2 a0_3:Int) (a0_4 a0_5:Int) (a0_6:ByteArray) (r1 r2:Int) (r3 r4:Int) (r5 r6:Int) (r7:ByteArray) (w:World) (h:laws_toSegment.f a0_0 a0_1 a0_2 a0_3 a0_4 a0_5 a0_6 = some (r1,r2,r3,r4,r5,r6,r7)) :
  Calls Try.prog 35 #[.agg #[.int .i64 a0_0,.int .i64 a0_1,.int .i64 a0_2,.int .i64 a0_3,.int .i64 a0_4,.int .i64 a0_5,.string a0_6]] w fun e w' => e = .returned (.agg #[.int .i64 r1,.int .i64 r2,.int .i64 r3,.int .i64 r4,.int .i64 r5,.int .i64 r6,.string r7])∧Below w.heap.size w w':=by
 have hu48:=Try.underlying48
 have hu53:=Try.underlying53
 have HB:=aMk (Below.refl w.heap.size w)
 have H:=h
 unfold laws_toSegment.f at H
 clear h
 simp only [Option.some.injEq,Prod.mk.injEq] at H
 obtain ⟨rfl,rfl,rfl,rfl,rfl,rfl,rfl⟩:=H
 go_enter Try.func35,Try.ntmps35
 go_wp2_with (first|((with_reducible refine gate_dst (N:=1) rfl ?_);refine bxE (N:=1) (cs:=#[.int .i64 a0_0,.int .i64 a0_1,.int .i64 a0_2,.int .i64 a0_3,.int .i64 a0_4,.int .i64 a0_5,.string a0_6]) (t:=48) ?_;intro gb391 hg w2 hbox hb;have BK391:=aMk (hbox);have GW391:=aMk (bZ hg);have GE391:=aMk (bZ hg);replace HB:=aMk (bSt hb);clear hb hbox hg)|((with_reducible refine gate_dst (N:=2) rfl ?_);refine bxE (N:=2) (cs:=#[.int .i64 0,.int .i64 0,.int .i64 0,.int .i64 0,.int .i64 0,.int .i64 0,.string (⟨#[]⟩:ByteArray)]) (t:=53) ?_;intro gb392 hg w3 hbox hb;have BK392:=aMk (hbox);have GW392:=aMk (bG bW hg);have GE392:=aMk (bG bW hg);replace HB:=aMk (bU hb);have NB391_392:=aMk ((bkL BK391.out hg:gb391 ≠ gb392));have NB392_391:=aMk ((bkG BK391.out hg:gb392 ≠ gb391));replace BK391:=aMk (bkB BK391.out hb);clear hb hbox hg)|((with_reducible refine gate_dst (N:=3) rfl ?_);refine bxE (N:=3) (cs:=#[.int .i64 0,.int .i64 0,.int .i64 0,.int .i64 0,.int .i64 0,.int .i64 0,.string (⟨#[]⟩:ByteArray)]) (t:=53) ?_;intro gb393 hg w4 hbox hb;have BK393:=aMk (hbox);have GW393:=aMk (bG bW hg);have GE393:=aMk (bG bW hg);replace HB:=aMk (bU hb);have NB391_393:=aMk ((bkL BK391.out hg:gb391 ≠ gb393));have NB393_391:=aMk ((bkG BK391.out hg:gb393 ≠ gb391));replace BK391:=aMk (bkB BK391.out hb);have NB392_393:=aMk ((bkL BK392.out hg:gb392 ≠ gb393));have NB393_392:=aMk ((bkG BK392.out hg:gb393 ≠ gb392));replace BK392:=aMk (bkB BK392.out hb);clear hb hbox hg;have hnb5:=NB391_392.out;have hnc5:=NB392_391.out;have hnb6:=NB391_393.out;have hnc6:=NB393_391.out;obtain ⟨Z7_0,Z7_1,Z7_2,Z7_3,Z7_4,Z7_5,Z7_6,Y7_0,Y7_1,Y7_2,Y7_3,Y7_4,Y7_5,Y7_6⟩:=bC7 BK391.out;have hnb8:=NB393_392.out;have hnc8:=NB392_393.out;obtain ⟨Z9_0,Z9_1,Z9_2,Z9_3,Z9_4,Z9_5,Z9_6,Y9_0,Y9_1,Y9_2,Y9_3,Y9_4,Y9_5,Y9_6⟩:=bC7 BK393.out;obtain ⟨Z10_0,Z10_1,Z10_2,Z10_3,Z10_4,Z10_5,Z10_6,Y10_0,Y10_1,Y10_2,Y10_3,Y10_4,Y10_5,Y10_6⟩:=bC7 BK392.out))
 refine bodyPost_ret (results_cell_row rfl _ _ gb392 53 #[.int .i64 a0_0,.int .i64 a0_1,.int .i64 a0_2,.int .i64 a0_3,.int .i64 a0_4,.int .i64 a0_5,.string a0_6] (0,0) _ rfl (by refine pB ?_;refine blk_put (cs:=#[.int .i64 a0_0,.int .i64 a0_1,.int .i64 a0_2,.int .i64 a0_3,.int .i64 a0_4,.int .i64 a0_5,.string (⟨#[]⟩:ByteArray)]) ?_ 6 _ rfl;refine pB ?_;refine blk_put (cs:=#[.int .i64 a0_0,.int .i64 a0_1,.int .i64 a0_2,.int .i64 a0_3,.int .i64 a0_4,.int .i64 0,.string (⟨#[]⟩:ByteArray)]) ?_ 5 _ rfl;refine pB ?_;refine blk_put (cs:=#[.int .i64 a0_0,.int .i64 a0_1,.int .i64 a0_2,.int .i64 a0_3,.int .i64 0,.int .i64 0,.string (⟨#[]⟩:ByteArray)]) ?_ 4 _ rfl;refine pB ?_;refine blk_put (cs:=#[.int .i64 a0_0,.int .i64 a0_1,.int .i64 a0_2,.int .i64 0,.int .i64 0,.int .i64 0,.string (⟨#[]⟩:ByteArray)]) ?_ 3 _ rfl;refine pB ?_;refine blk_put (cs:=#[.int .i64 a0_0,.int .i64 a0_1,.int .i64 0,.int .i64 0,.int .i64 0,.int .i64 0,.string (⟨#[]⟩:ByteArray)]) ?_ 2 _ rfl;refine pB ?_;refine blk_put (cs:=#[.int .i64 a0_0,.int .i64 0,.int .i64 0,.int .i64 0,.int .i64 0,.int .i64 0,.string (⟨#[]⟩:ByteArray)]) ?_ 1 _ rfl;refine pB ?_;refine blk_put (cs:=#[.int .i64 0,.int .i64 0,.int .i64 0,.int .i64 0,.int .i64 0,.int .i64 0,.string (⟨#[]⟩:ByteArray)]) ?_ 0 _ rfl;refine pB ?_;refine blk_far ?_ NB392_393.out _;refine pB ?_;refine blk_far ?_ NB392_393.out _;refine pB ?_;refine blk_far ?_ NB392_393.out _;refine pB ?_;refine blk_far ?_ NB392_393.out _;refine pB ?_;refine blk_far ?_ NB392_393.out _;refine pB ?_;refine blk_far ?_ NB392_393.out _;refine pB ?_;refine blk_far ?_ NB392_393.out _;refine pB ?_;exact BK392.out) Try.underlying53 rfl (by kernel_rfl)) rfl ?_
 exact ⟨eRf,bW⟩
end
section
/-! ### laws_eqConn: function 37 -/
def laws_eqConn.f (a0_0:ByteArray) (a0_1 a0_2:Int) (a0_3 a0_4:Int) (a0_5 a0_6 a0_7:Int) (a0_8 a0_9:ByteArray) (a0_10:Bool) (a1_0:ByteArray) (a1_1 a1_2:Int) (a1_3 a1_4:Int) (a1_5 a1_6 a1_7:Int) (a1_8 a1_9:ByteArray) (a1_10:Bool):Option (Bool):=if a0_0.toList = a1_0.toList then (if a0_1 = a1_1 then (if a0_2 = a1_2 then (if a0_3 = a1_3 then (if a0_4 = a1_4 then (if a0_5 = a1_5 then (if a0_6 = a1_6 then (if a0_7 = a1_7 then (if a0_8.toList = a1_8.toList then (if a0_9.toList = a1_9.toList then (if (a0_10 != a1_10) = true then (some false) else (some true)) else (some false)) else (some false)) else (some false)) else (some false)) else (some false)) else (some false)) else (some false)) else (some false)) else (some false)) else (some false)
set_option maxHeartbeats 8000000 in
set_option maxRecDepth 100000 in
theorem laws_eqConn.calls (a0_0:ByteArray) (a0_1 a0_2:Int) (a0_3 a0_4:Int) (a0_5 a0_6 a0_7:Int) (a0_8 a0_9:ByteArray) (a0_10:Bool) (a1_0:ByteArray) (a1_1 a1_2:Int) (a1_3 a1_4:Int) (a1_5 a1_6 a1_7:Int) (a1_8 a1_9:ByteArray) (a1_10 r:Bool) (w:World) (h:laws_eqConn.f a0_0 a0_1 a0_2 a0_3 a0_4 a0_5 a0_6 a0_7 a0_8 a0_9 a0_10 a1_0 a1_1 a1_2 a1_3 a1_4 a1_5 a1_6 a1_7 a1_8 a1_9 a1_10 = some r) :
  Calls Try.prog 37 #[.agg #[.string a0_0,.int .i64 a0_1,.int .i64 a0_2,.int .i64 a0_3,.int .i64 a0_4,.int .i64 a0_5,.int .i64 a0_6,.int .i64 a0_7,.string a0_8,.string a0_9,.bool a0_10],.agg #[.string a1_0,.int .i64 a1_1,.int .i64 a1_2,.int .i64 a1_3,.int .i64 a1_4,.int .i64 a1_5,.int .i64 a1_6,.int .i64 a1_7,.string a1_8,.string a1_9,.bool a1_10]] w fun e w' => e = .returned (.bool r)∧Below w.heap.size w w':=by
 have hu34:=Try.underlying34
 have HB:=aMk (Below.refl w.heap.size w)
 have H:=h
 unfold laws_eqConn.f at H
 clear h
 by_cases c3:a0_0.toList = a1_0.toList
 ·rw [if_pos c3] at H
  have c3b0:(a0_0.toList == a1_0.toList) = true:=beq_iff_eq.mpr c3
  have c3b1:(a0_0.toList != a1_0.toList) = false:=bne_eq_false_iff_eq.mpr c3
  clear c3
  by_cases c4:a0_1 = a1_1
  ·rw [if_pos c4] at H
   have c4b0:(a0_1 == a1_1) = true:=beq_iff_eq.mpr c4
   have c4b1:(a0_1 != a1_1) = false:=bne_eq_false_iff_eq.mpr c4
   clear c4
   by_cases c5:a0_2 = a1_2
   ·rw [if_pos c5] at H
    have c5b0:(a0_2 == a1_2) = true:=beq_iff_eq.mpr c5
    have c5b1:(a0_2 != a1_2) = false:=bne_eq_false_iff_eq.mpr c5
    clear c5
    by_cases c6:a0_3 = a1_3
    ·rw [if_pos c6] at H
     have c6b0:(a0_3 == a1_3) = true:=beq_iff_eq.mpr c6
     have c6b1:(a0_3 != a1_3) = false:=bne_eq_false_iff_eq.mpr c6
     clear c6
     by_cases c7:a0_4 = a1_4
     ·rw [if_pos c7] at H
      have c7b0:(a0_4 == a1_4) = true:=beq_iff_eq.mpr c7
      have c7b1:(a0_4 != a1_4) = false:=bne_eq_false_iff_eq.mpr c7
      clear c7
      by_cases c8:a0_5 = a1_5
      ·rw [if_pos c8] at H
       have c8b0:(a0_5 == a1_5) = true:=beq_iff_eq.mpr c8
       have c8b1:(a0_5 != a1_5) = false:=bne_eq_false_iff_eq.mpr c8
       clear c8
       by_cases c9:a0_6 = a1_6
       ·rw [if_pos c9] at H
        have c9b0:(a0_6 == a1_6) = true:=beq_iff_eq.mpr c9
        have c9b1:(a0_6 != a1_6) = false:=bne_eq_false_iff_eq.mpr c9
        clear c9
        by_cases c10:a0_7 = a1_7
        ·rw [if_pos c10] at H
         have c10b0:(a0_7 == a1_7) = true:=beq_iff_eq.mpr c10
         have c10b1:(a0_7 != a1_7) = false:=bne_eq_false_iff_eq.mpr c10
         clear c10
         by_cases c11:a0_8.toList = a1_8.toList
         ·rw [if_pos c11] at H
          have c11b0:(a0_8.toList == a1_8.toList) = true:=beq_iff_eq.mpr c11
          have c11b1:(a0_8.toList != a1_8.toList) = false:=bne_eq_false_iff_eq.mpr c11
          clear c11
          by_cases c12:a0_9.toList = a1_9.toList
          ·rw [if_pos c12] at H
           have c12b0:(a0_9.toList == a1_9.toList) = true:=beq_iff_eq.mpr c12
           have c12b1:(a0_9.toList != a1_9.toList) = false:=bne_eq_false_iff_eq.mpr c12
           clear c12
           by_cases c13:(a0_10 != a1_10) = true
           ·rw [if_pos c13] at H
            have c13b0:(a0_10 != a1_10) = true:=c13
            (try (have c13b1:decide (a0_10 = a1_10) = false:=by simpa using c13))
            (try (have c13b2:(a0_10 == a1_10) = false:=by simpa using c13))
            (try (have c13b3:¬ (a0_10 = a1_10):=by simpa using c13))
            clear c13
            obtain rfl:=Option.some.inj H
            go_enter Try.func37,Try.ntmps37
            go_wp2_with (first|((with_reducible refine gate_dst (N:=2) rfl ?_);refine bxE (N:=2) (cs:=#[.string a0_0,.int .i64 a0_1,.int .i64 a0_2,.int .i64 a0_3,.int .i64 a0_4,.int .i64 a0_5,.int .i64 a0_6,.int .i64 a0_7,.string a0_8,.string a0_9,.bool a0_10]) (t:=34) ?_;intro gb440 hg w14 hbox hb;have BK440:=aMk (hbox);have GW440:=aMk (bZ hg);have GE440:=aMk (bZ hg);replace HB:=aMk (bSt hb);clear hb hbox hg)|((with_reducible refine gate_dst (N:=3) rfl ?_);refine bxE (N:=3) (cs:=#[.string a1_0,.int .i64 a1_1,.int .i64 a1_2,.int .i64 a1_3,.int .i64 a1_4,.int .i64 a1_5,.int .i64 a1_6,.int .i64 a1_7,.string a1_8,.string a1_9,.bool a1_10]) (t:=34) ?_;intro gb441 hg w15 hbox hb;have BK441:=aMk (hbox);have GW441:=aMk (bG bW hg);have GE441:=aMk (bG bW hg);replace HB:=aMk (bU hb);have NB440_441:=aMk ((bkL BK440.out hg:gb440 ≠ gb441));have NB441_440:=aMk ((bkG BK440.out hg:gb441 ≠ gb440));replace BK440:=aMk (bkB BK440.out hb);clear hb hbox hg;have hnb16:=NB440_441.out;have hnc16:=NB441_440.out;obtain ⟨Z17_0,Z17_1,Z17_2,Z17_3,Z17_4,Z17_5,Z17_6,Z17_7,Z17_8,Z17_9,Z17_10,Y17_0,Y17_1,Y17_2,Y17_3,Y17_4,Y17_5,Y17_6,Y17_7,Y17_8,Y17_9,Y17_10⟩:=bC11 BK440.out;obtain ⟨Z18_0,Z18_1,Z18_2,Z18_3,Z18_4,Z18_5,Z18_6,Z18_7,Z18_8,Z18_9,Z18_10,Y18_0,Y18_1,Y18_2,Y18_3,Y18_4,Y18_5,Y18_6,Y18_7,Y18_8,Y18_9,Y18_10⟩:=bC11 BK441.out))
            go_ret
            exact ⟨eRf,bW⟩
           ·rw [if_neg c13] at H
            have c13b0:(a0_10 != a1_10) = false:=by simpa using c13
            (try (have c13b1:decide (a0_10 = a1_10) = true:=by simpa using c13))
            (try (have c13b2:(a0_10 == a1_10) = true:=by simpa using c13))
            clear c13
            obtain rfl:=Option.some.inj H
            go_enter Try.func37,Try.ntmps37
            go_wp2_with (first|((with_reducible refine gate_dst (N:=2) rfl ?_);refine bxE (N:=2) (cs:=#[.string a0_0,.int .i64 a0_1,.int .i64 a0_2,.int .i64 a0_3,.int .i64 a0_4,.int .i64 a0_5,.int .i64 a0_6,.int .i64 a0_7,.string a0_8,.string a0_9,.bool a0_10]) (t:=34) ?_;intro gb440 hg w19 hbox hb;have BK440:=aMk (hbox);have GW440:=aMk (bZ hg);have GE440:=aMk (bZ hg);replace HB:=aMk (bSt hb);clear hb hbox hg)|((with_reducible refine gate_dst (N:=3) rfl ?_);refine bxE (N:=3) (cs:=#[.string a1_0,.int .i64 a1_1,.int .i64 a1_2,.int .i64 a1_3,.int .i64 a1_4,.int .i64 a1_5,.int .i64 a1_6,.int .i64 a1_7,.string a1_8,.string a1_9,.bool a1_10]) (t:=34) ?_;intro gb441 hg w20 hbox hb;have BK441:=aMk (hbox);have GW441:=aMk (bG bW hg);have GE441:=aMk (bG bW hg);replace HB:=aMk (bU hb);have NB440_441:=aMk ((bkL BK440.out hg:gb440 ≠ gb441));have NB441_440:=aMk ((bkG BK440.out hg:gb441 ≠ gb440));replace BK440:=aMk (bkB BK440.out hb);clear hb hbox hg;have hnb21:=NB440_441.out;have hnc21:=NB441_440.out;obtain ⟨Z22_0,Z22_1,Z22_2,Z22_3,Z22_4,Z22_5,Z22_6,Z22_7,Z22_8,Z22_9,Z22_10,Y22_0,Y22_1,Y22_2,Y22_3,Y22_4,Y22_5,Y22_6,Y22_7,Y22_8,Y22_9,Y22_10⟩:=bC11 BK440.out;obtain ⟨Z23_0,Z23_1,Z23_2,Z23_3,Z23_4,Z23_5,Z23_6,Z23_7,Z23_8,Z23_9,Z23_10,Y23_0,Y23_1,Y23_2,Y23_3,Y23_4,Y23_5,Y23_6,Y23_7,Y23_8,Y23_9,Y23_10⟩:=bC11 BK441.out))
            go_ret
            exact ⟨eRf,bW⟩
          ·rw [if_neg c12] at H
           have c12b0:(a0_9.toList == a1_9.toList) = false:=beq_eq_false_iff_ne.mpr c12
           have c12b1:(a0_9.toList != a1_9.toList) = true:=bne_iff_ne.mpr c12
           obtain rfl:=Option.some.inj H
           go_enter Try.func37,Try.ntmps37
           go_wp2_with (first|((with_reducible refine gate_dst (N:=2) rfl ?_);refine bxE (N:=2) (cs:=#[.string a0_0,.int .i64 a0_1,.int .i64 a0_2,.int .i64 a0_3,.int .i64 a0_4,.int .i64 a0_5,.int .i64 a0_6,.int .i64 a0_7,.string a0_8,.string a0_9,.bool a0_10]) (t:=34) ?_;intro gb440 hg w24 hbox hb;have BK440:=aMk (hbox);have GW440:=aMk (bZ hg);have GE440:=aMk (bZ hg);replace HB:=aMk (bSt hb);clear hb hbox hg)|((with_reducible refine gate_dst (N:=3) rfl ?_);refine bxE (N:=3) (cs:=#[.string a1_0,.int .i64 a1_1,.int .i64 a1_2,.int .i64 a1_3,.int .i64 a1_4,.int .i64 a1_5,.int .i64 a1_6,.int .i64 a1_7,.string a1_8,.string a1_9,.bool a1_10]) (t:=34) ?_;intro gb441 hg w25 hbox hb;have BK441:=aMk (hbox);have GW441:=aMk (bG bW hg);have GE441:=aMk (bG bW hg);replace HB:=aMk (bU hb);have NB440_441:=aMk ((bkL BK440.out hg:gb440 ≠ gb441));have NB441_440:=aMk ((bkG BK440.out hg:gb441 ≠ gb440));replace BK440:=aMk (bkB BK440.out hb);clear hb hbox hg;have hnb26:=NB440_441.out;have hnc26:=NB441_440.out;obtain ⟨Z27_0,Z27_1,Z27_2,Z27_3,Z27_4,Z27_5,Z27_6,Z27_7,Z27_8,Z27_9,Z27_10,Y27_0,Y27_1,Y27_2,Y27_3,Y27_4,Y27_5,Y27_6,Y27_7,Y27_8,Y27_9,Y27_10⟩:=bC11 BK440.out;obtain ⟨Z28_0,Z28_1,Z28_2,Z28_3,Z28_4,Z28_5,Z28_6,Z28_7,Z28_8,Z28_9,Z28_10,Y28_0,Y28_1,Y28_2,Y28_3,Y28_4,Y28_5,Y28_6,Y28_7,Y28_8,Y28_9,Y28_10⟩:=bC11 BK441.out))
           go_ret
           exact ⟨eRf,bW⟩
         ·rw [if_neg c11] at H
          have c11b0:(a0_8.toList == a1_8.toList) = false:=beq_eq_false_iff_ne.mpr c11
          have c11b1:(a0_8.toList != a1_8.toList) = true:=bne_iff_ne.mpr c11
          obtain rfl:=Option.some.inj H
          go_enter Try.func37,Try.ntmps37
          go_wp2_with (first|((with_reducible refine gate_dst (N:=2) rfl ?_);refine bxE (N:=2) (cs:=#[.string a0_0,.int .i64 a0_1,.int .i64 a0_2,.int .i64 a0_3,.int .i64 a0_4,.int .i64 a0_5,.int .i64 a0_6,.int .i64 a0_7,.string a0_8,.string a0_9,.bool a0_10]) (t:=34) ?_;intro gb440 hg w29 hbox hb;have BK440:=aMk (hbox);have GW440:=aMk (bZ hg);have GE440:=aMk (bZ hg);replace HB:=aMk (bSt hb);clear hb hbox hg)|((with_reducible refine gate_dst (N:=3) rfl ?_);refine bxE (N:=3) (cs:=#[.string a1_0,.int .i64 a1_1,.int .i64 a1_2,.int .i64 a1_3,.int .i64 a1_4,.int .i64 a1_5,.int .i64 a1_6,.int .i64 a1_7,.string a1_8,.string a1_9,.bool a1_10]) (t:=34) ?_;intro gb441 hg w30 hbox hb;have BK441:=aMk (hbox);have GW441:=aMk (bG bW hg);have GE441:=aMk (bG bW hg);replace HB:=aMk (bU hb);have NB440_441:=aMk ((bkL BK440.out hg:gb440 ≠ gb441));have NB441_440:=aMk ((bkG BK440.out hg:gb441 ≠ gb440));replace BK440:=aMk (bkB BK440.out hb);clear hb hbox hg;have hnb31:=NB440_441.out;have hnc31:=NB441_440.out;obtain ⟨Z32_0,Z32_1,Z32_2,Z32_3,Z32_4,Z32_5,Z32_6,Z32_7,Z32_8,Z32_9,Z32_10,Y32_0,Y32_1,Y32_2,Y32_3,Y32_4,Y32_5,Y32_6,Y32_7,Y32_8,Y32_9,Y32_10⟩:=bC11 BK440.out;obtain ⟨Z33_0,Z33_1,Z33_2,Z33_3,Z33_4,Z33_5,Z33_6,Z33_7,Z33_8,Z33_9,Z33_10,Y33_0,Y33_1,Y33_2,Y33_3,Y33_4,Y33_5,Y33_6,Y33_7,Y33_8,Y33_9,Y33_10⟩:=bC11 BK441.out))
          go_ret
          exact ⟨eRf,bW⟩
        ·rw [if_neg c10] at H
         have c10b0:(a0_7 == a1_7) = false:=beq_eq_false_iff_ne.mpr c10
         have c10b1:(a0_7 != a1_7) = true:=bne_iff_ne.mpr c10
         obtain rfl:=Option.some.inj H
         go_enter Try.func37,Try.ntmps37
         go_wp2_with (first|((with_reducible refine gate_dst (N:=2) rfl ?_);refine bxE (N:=2) (cs:=#[.string a0_0,.int .i64 a0_1,.int .i64 a0_2,.int .i64 a0_3,.int .i64 a0_4,.int .i64 a0_5,.int .i64 a0_6,.int .i64 a0_7,.string a0_8,.string a0_9,.bool a0_10]) (t:=34) ?_;intro gb440 hg w34 hbox hb;have BK440:=aMk (hbox);have GW440:=aMk (bZ hg);have GE440:=aMk (bZ hg);replace HB:=aMk (bSt hb);clear hb hbox hg)|((with_reducible refine gate_dst (N:=3) rfl ?_);refine bxE (N:=3) (cs:=#[.string a1_0,.int .i64 a1_1,.int .i64 a1_2,.int .i64 a1_3,.int .i64 a1_4,.int .i64 a1_5,.int .i64 a1_6,.int .i64 a1_7,.string a1_8,.string a1_9,.bool a1_10]) (t:=34) ?_;intro gb441 hg w35 hbox hb;have BK441:=aMk (hbox);have GW441:=aMk (bG bW hg);have GE441:=aMk (bG bW hg);replace HB:=aMk (bU hb);have NB440_441:=aMk ((bkL BK440.out hg:gb440 ≠ gb441));have NB441_440:=aMk ((bkG BK440.out hg:gb441 ≠ gb440));replace BK440:=aMk (bkB BK440.out hb);clear hb hbox hg;have hnb36:=NB440_441.out;have hnc36:=NB441_440.out;obtain ⟨Z37_0,Z37_1,Z37_2,Z37_3,Z37_4,Z37_5,Z37_6,Z37_7,Z37_8,Z37_9,Z37_10,Y37_0,Y37_1,Y37_2,Y37_3,Y37_4,Y37_5,Y37_6,Y37_7,Y37_8,Y37_9,Y37_10⟩:=bC11 BK440.out;obtain ⟨Z38_0,Z38_1,Z38_2,Z38_3,Z38_4,Z38_5,Z38_6,Z38_7,Z38_8,Z38_9,Z38_10,Y38_0,Y38_1,Y38_2,Y38_3,Y38_4,Y38_5,Y38_6,Y38_7,Y38_8,Y38_9,Y38_10⟩:=bC11 BK441.out))
         go_ret
         exact ⟨eRf,bW⟩
       ·rw [if_neg c9] at H
        have c9b0:(a0_6 == a1_6) = false:=beq_eq_false_iff_ne.mpr c9
        have c9b1:(a0_6 != a1_6) = true:=bne_iff_ne.mpr c9
        obtain rfl:=Option.some.inj H
        go_enter Try.func37,Try.ntmps37
        go_wp2_with (first|((with_reducible refine gate_dst (N:=2) rfl ?_);refine bxE (N:=2) (cs:=#[.string a0_0,.int .i64 a0_1,.int .i64 a0_2,.int .i64 a0_3,.int .i64 a0_4,.int .i64 a0_5,.int .i64 a0_6,.int .i64 a0_7,.string a0_8,.string a0_9,.bool a0_10]) (t:=34) ?_;intro gb440 hg w39 hbox hb;have BK440:=aMk (hbox);have GW440:=aMk (bZ hg);have GE440:=aMk (bZ hg);replace HB:=aMk (bSt hb);clear hb hbox hg)|((with_reducible refine gate_dst (N:=3) rfl ?_);refine bxE (N:=3) (cs:=#[.string a1_0,.int .i64 a1_1,.int .i64 a1_2,.int .i64 a1_3,.int .i64 a1_4,.int .i64 a1_5,.int .i64 a1_6,.int .i64 a1_7,.string a1_8,.string a1_9,.bool a1_10]) (t:=34) ?_;intro gb441 hg w40 hbox hb;have BK441:=aMk (hbox);have GW441:=aMk (bG bW hg);have GE441:=aMk (bG bW hg);replace HB:=aMk (bU hb);have NB440_441:=aMk ((bkL BK440.out hg:gb440 ≠ gb441));have NB441_440:=aMk ((bkG BK440.out hg:gb441 ≠ gb440));replace BK440:=aMk (bkB BK440.out hb);clear hb hbox hg;have hnb41:=NB440_441.out;have hnc41:=NB441_440.out;obtain ⟨Z42_0,Z42_1,Z42_2,Z42_3,Z42_4,Z42_5,Z42_6,Z42_7,Z42_8,Z42_9,Z42_10,Y42_0,Y42_1,Y42_2,Y42_3,Y42_4,Y42_5,Y42_6,Y42_7,Y42_8,Y42_9,Y42_10⟩:=bC11 BK440.out;obtain ⟨Z43_0,Z43_1,Z43_2,Z43_3,Z43_4,Z43_5,Z43_6,Z43_7,Z43_8,Z43_9,Z43_10,Y43_0,Y43_1,Y43_2,Y43_3,Y43_4,Y43_5,Y43_6,Y43_7,Y43_8,Y43_9,Y43_10⟩:=bC11 BK441.out))
        go_ret
        exact ⟨eRf,bW⟩
      ·rw [if_neg c8] at H
       have c8b0:(a0_5 == a1_5) = false:=beq_eq_false_iff_ne.mpr c8
       have c8b1:(a0_5 != a1_5) = true:=bne_iff_ne.mpr c8
       obtain rfl:=Option.some.inj H
       go_enter Try.func37,Try.ntmps37
       go_wp2_with (first|((with_reducible refine gate_dst (N:=2) rfl ?_);refine bxE (N:=2) (cs:=#[.string a0_0,.int .i64 a0_1,.int .i64 a0_2,.int .i64 a0_3,.int .i64 a0_4,.int .i64 a0_5,.int .i64 a0_6,.int .i64 a0_7,.string a0_8,.string a0_9,.bool a0_10]) (t:=34) ?_;intro gb440 hg w44 hbox hb;have BK440:=aMk (hbox);have GW440:=aMk (bZ hg);have GE440:=aMk (bZ hg);replace HB:=aMk (bSt hb);clear hb hbox hg)|((with_reducible refine gate_dst (N:=3) rfl ?_);refine bxE (N:=3) (cs:=#[.string a1_0,.int .i64 a1_1,.int .i64 a1_2,.int .i64 a1_3,.int .i64 a1_4,.int .i64 a1_5,.int .i64 a1_6,.int .i64 a1_7,.string a1_8,.string a1_9,.bool a1_10]) (t:=34) ?_;intro gb441 hg w45 hbox hb;have BK441:=aMk (hbox);have GW441:=aMk (bG bW hg);have GE441:=aMk (bG bW hg);replace HB:=aMk (bU hb);have NB440_441:=aMk ((bkL BK440.out hg:gb440 ≠ gb441));have NB441_440:=aMk ((bkG BK440.out hg:gb441 ≠ gb440));replace BK440:=aMk (bkB BK440.out hb);clear hb hbox hg;have hnb46:=NB440_441.out;have hnc46:=NB441_440.out;obtain ⟨Z47_0,Z47_1,Z47_2,Z47_3,Z47_4,Z47_5,Z47_6,Z47_7,Z47_8,Z47_9,Z47_10,Y47_0,Y47_1,Y47_2,Y47_3,Y47_4,Y47_5,Y47_6,Y47_7,Y47_8,Y47_9,Y47_10⟩:=bC11 BK440.out;obtain ⟨Z48_0,Z48_1,Z48_2,Z48_3,Z48_4,Z48_5,Z48_6,Z48_7,Z48_8,Z48_9,Z48_10,Y48_0,Y48_1,Y48_2,Y48_3,Y48_4,Y48_5,Y48_6,Y48_7,Y48_8,Y48_9,Y48_10⟩:=bC11 BK441.out))
       go_ret
       exact ⟨eRf,bW⟩
     ·rw [if_neg c7] at H
      have c7b0:(a0_4 == a1_4) = false:=beq_eq_false_iff_ne.mpr c7
      have c7b1:(a0_4 != a1_4) = true:=bne_iff_ne.mpr c7
      obtain rfl:=Option.some.inj H
      go_enter Try.func37,Try.ntmps37
      go_wp2_with (first|((with_reducible refine gate_dst (N:=2) rfl ?_);refine bxE (N:=2) (cs:=#[.string a0_0,.int .i64 a0_1,.int .i64 a0_2,.int .i64 a0_3,.int .i64 a0_4,.int .i64 a0_5,.int .i64 a0_6,.int .i64 a0_7,.string a0_8,.string a0_9,.bool a0_10]) (t:=34) ?_;intro gb440 hg w49 hbox hb;have BK440:=aMk (hbox);have GW440:=aMk (bZ hg);have GE440:=aMk (bZ hg);replace HB:=aMk (bSt hb);clear hb hbox hg)|((with_reducible refine gate_dst (N:=3) rfl ?_);refine bxE (N:=3) (cs:=#[.string a1_0,.int .i64 a1_1,.int .i64 a1_2,.int .i64 a1_3,.int .i64 a1_4,.int .i64 a1_5,.int .i64 a1_6,.int .i64 a1_7,.string a1_8,.string a1_9,.bool a1_10]) (t:=34) ?_;intro gb441 hg w50 hbox hb;have BK441:=aMk (hbox);have GW441:=aMk (bG bW hg);have GE441:=aMk (bG bW hg);replace HB:=aMk (bU hb);have NB440_441:=aMk ((bkL BK440.out hg:gb440 ≠ gb441));have NB441_440:=aMk ((bkG BK440.out hg:gb441 ≠ gb440));replace BK440:=aMk (bkB BK440.out hb);clear hb hbox hg;have hnb51:=NB440_441.out;have hnc51:=NB441_440.out;obtain ⟨Z52_0,Z52_1,Z52_2,Z52_3,Z52_4,Z52_5,Z52_6,Z52_7,Z52_8,Z52_9,Z52_10,Y52_0,Y52_1,Y52_2,Y52_3,Y52_4,Y52_5,Y52_6,Y52_7,Y52_8,Y52_9,Y52_10⟩:=bC11 BK440.out;obtain ⟨Z53_0,Z53_1,Z53_2,Z53_3,Z53_4,Z53_5,Z53_6,Z53_7,Z53_8,Z53_9,Z53_10,Y53_0,Y53_1,Y53_2,Y53_3,Y53_4,Y53_5,Y53_6,Y53_7,Y53_8,Y53_9,Y53_10⟩:=bC11 BK441.out))
      go_ret
      exact ⟨eRf,bW⟩
    ·rw [if_neg c6] at H
     have c6b0:(a0_3 == a1_3) = false:=beq_eq_false_iff_ne.mpr c6
     have c6b1:(a0_3 != a1_3) = true:=bne_iff_ne.mpr c6
     obtain rfl:=Option.some.inj H
     go_enter Try.func37,Try.ntmps37
     go_wp2_with (first|((with_reducible refine gate_dst (N:=2) rfl ?_);refine bxE (N:=2) (cs:=#[.string a0_0,.int .i64 a0_1,.int .i64 a0_2,.int .i64 a0_3,.int .i64 a0_4,.int .i64 a0_5,.int .i64 a0_6,.int .i64 a0_7,.string a0_8,.string a0_9,.bool a0_10]) (t:=34) ?_;intro gb440 hg w54 hbox hb;have BK440:=aMk (hbox);have GW440:=aMk (bZ hg);have GE440:=aMk (bZ hg);replace HB:=aMk (bSt hb);clear hb hbox hg)|((with_reducible refine gate_dst (N:=3) rfl ?_);refine bxE (N:=3) (cs:=#[.string a1_0,.int .i64 a1_1,.int .i64 a1_2,.int .i64 a1_3,.int .i64 a1_4,.int .i64 a1_5,.int .i64 a1_6,.int .i64 a1_7,.string a1_8,.string a1_9,.bool a1_10]) (t:=34) ?_;intro gb441 hg w55 hbox hb;have BK441:=aMk (hbox);have GW441:=aMk (bG bW hg);have GE441:=aMk (bG bW hg);replace HB:=aMk (bU hb);have NB440_441:=aMk ((bkL BK440.out hg:gb440 ≠ gb441));have NB441_440:=aMk ((bkG BK440.out hg:gb441 ≠ gb440));replace BK440:=aMk (bkB BK440.out hb);clear hb hbox hg;have hnb56:=NB440_441.out;have hnc56:=NB441_440.out;obtain ⟨Z57_0,Z57_1,Z57_2,Z57_3,Z57_4,Z57_5,Z57_6,Z57_7,Z57_8,Z57_9,Z57_10,Y57_0,Y57_1,Y57_2,Y57_3,Y57_4,Y57_5,Y57_6,Y57_7,Y57_8,Y57_9,Y57_10⟩:=bC11 BK440.out;obtain ⟨Z58_0,Z58_1,Z58_2,Z58_3,Z58_4,Z58_5,Z58_6,Z58_7,Z58_8,Z58_9,Z58_10,Y58_0,Y58_1,Y58_2,Y58_3,Y58_4,Y58_5,Y58_6,Y58_7,Y58_8,Y58_9,Y58_10⟩:=bC11 BK441.out))
     go_ret
     exact ⟨eRf,bW⟩
   ·rw [if_neg c5] at H
    have c5b0:(a0_2 == a1_2) = false:=beq_eq_false_iff_ne.mpr c5
    have c5b1:(a0_2 != a1_2) = true:=bne_iff_ne.mpr c5
    obtain rfl:=Option.some.inj H
    go_enter Try.func37,Try.ntmps37
    go_wp2_with (first|((with_reducible refine gate_dst (N:=2) rfl ?_);refine bxE (N:=2) (cs:=#[.string a0_0,.int .i64 a0_1,.int .i64 a0_2,.int .i64 a0_3,.int .i64 a0_4,.int .i64 a0_5,.int .i64 a0_6,.int .i64 a0_7,.string a0_8,.string a0_9,.bool a0_10]) (t:=34) ?_;intro gb440 hg w59 hbox hb;have BK440:=aMk (hbox);have GW440:=aMk (bZ hg);have GE440:=aMk (bZ hg);replace HB:=aMk (bSt hb);clear hb hbox hg)|((with_reducible refine gate_dst (N:=3) rfl ?_);refine bxE (N:=3) (cs:=#[.string a1_0,.int .i64 a1_1,.int .i64 a1_2,.int .i64 a1_3,.int .i64 a1_4,.int .i64 a1_5,.int .i64 a1_6,.int .i64 a1_7,.string a1_8,.string a1_9,.bool a1_10]) (t:=34) ?_;intro gb441 hg w60 hbox hb;have BK441:=aMk (hbox);have GW441:=aMk (bG bW hg);have GE441:=aMk (bG bW hg);replace HB:=aMk (bU hb);have NB440_441:=aMk ((bkL BK440.out hg:gb440 ≠ gb441));have NB441_440:=aMk ((bkG BK440.out hg:gb441 ≠ gb440));replace BK440:=aMk (bkB BK440.out hb);clear hb hbox hg;have hnb61:=NB440_441.out;have hnc61:=NB441_440.out;obtain ⟨Z62_0,Z62_1,Z62_2,Z62_3,Z62_4,Z62_5,Z62_6,Z62_7,Z62_8,Z62_9,Z62_10,Y62_0,Y62_1,Y62_2,Y62_3,Y62_4,Y62_5,Y62_6,Y62_7,Y62_8,Y62_9,Y62_10⟩:=bC11 BK440.out;obtain ⟨Z63_0,Z63_1,Z63_2,Z63_3,Z63_4,Z63_5,Z63_6,Z63_7,Z63_8,Z63_9,Z63_10,Y63_0,Y63_1,Y63_2,Y63_3,Y63_4,Y63_5,Y63_6,Y63_7,Y63_8,Y63_9,Y63_10⟩:=bC11 BK441.out))
    go_ret
    exact ⟨eRf,bW⟩
  ·rw [if_neg c4] at H
   have c4b0:(a0_1 == a1_1) = false:=beq_eq_false_iff_ne.mpr c4
   have c4b1:(a0_1 != a1_1) = true:=bne_iff_ne.mpr c4
   obtain rfl:=Option.some.inj H
   go_enter Try.func37,Try.ntmps37
   go_wp2_with (first|((with_reducible refine gate_dst (N:=2) rfl ?_);refine bxE (N:=2) (cs:=#[.string a0_0,.int .i64 a0_1,.int .i64 a0_2,.int .i64 a0_3,.int .i64 a0_4,.int .i64 a0_5,.int .i64 a0_6,.int .i64 a0_7,.string a0_8,.string a0_9,.bool a0_10]) (t:=34) ?_;intro gb440 hg w64 hbox hb;have BK440:=aMk (hbox);have GW440:=aMk (bZ hg);have GE440:=aMk (bZ hg);replace HB:=aMk (bSt hb);clear hb hbox hg)|((with_reducible refine gate_dst (N:=3) rfl ?_);refine bxE (N:=3) (cs:=#[.string a1_0,.int .i64 a1_1,.int .i64 a1_2,.int .i64 a1_3,.int .i64 a1_4,.int .i64 a1_5,.int .i64 a1_6,.int .i64 a1_7,.string a1_8,.string a1_9,.bool a1_10]) (t:=34) ?_;intro gb441 hg w65 hbox hb;have BK441:=aMk (hbox);have GW441:=aMk (bG bW hg);have GE441:=aMk (bG bW hg);replace HB:=aMk (bU hb);have NB440_441:=aMk ((bkL BK440.out hg:gb440 ≠ gb441));have NB441_440:=aMk ((bkG BK440.out hg:gb441 ≠ gb440));replace BK440:=aMk (bkB BK440.out hb);clear hb hbox hg;have hnb66:=NB440_441.out;have hnc66:=NB441_440.out;obtain ⟨Z67_0,Z67_1,Z67_2,Z67_3,Z67_4,Z67_5,Z67_6,Z67_7,Z67_8,Z67_9,Z67_10,Y67_0,Y67_1,Y67_2,Y67_3,Y67_4,Y67_5,Y67_6,Y67_7,Y67_8,Y67_9,Y67_10⟩:=bC11 BK440.out;obtain ⟨Z68_0,Z68_1,Z68_2,Z68_3,Z68_4,Z68_5,Z68_6,Z68_7,Z68_8,Z68_9,Z68_10,Y68_0,Y68_1,Y68_2,Y68_3,Y68_4,Y68_5,Y68_6,Y68_7,Y68_8,Y68_9,Y68_10⟩:=bC11 BK441.out))
   go_ret
   exact ⟨eRf,bW⟩
 ·rw [if_neg c3] at H
  have c3b0:(a0_0.toList == a1_0.toList) = false:=beq_eq_false_iff_ne.mpr c3
  have c3b1:(a0_0.toList != a1_0.toList) = true:=bne_iff_ne.mpr c3
  obtain rfl:=Option.some.inj H
  go_enter Try.func37,Try.ntmps37
  go_wp2_with (first|((with_reducible refine gate_dst (N:=2) rfl ?_);refine bxE (N:=2) (cs:=#[.string a0_0,.int .i64 a0_1,.int .i64 a0_2,.int .i64 a0_3,.int .i64 a0_4,.int .i64 a0_5,.int .i64 a0_6,.int .i64 a0_7,.string a0_8,.string a0_9,.bool a0_10]) (t:=34) ?_;intro gb440 hg w69 hbox hb;have BK440:=aMk (hbox);have GW440:=aMk (bZ hg);have GE440:=aMk (bZ hg);replace HB:=aMk (bSt hb);clear hb hbox hg)|((with_reducible refine gate_dst (N:=3) rfl ?_);refine bxE (N:=3) (cs:=#[.string a1_0,.int .i64 a1_1,.int .i64 a1_2,.int .i64 a1_3,.int .i64 a1_4,.int .i64 a1_5,.int .i64 a1_6,.int .i64 a1_7,.string a1_8,.string a1_9,.bool a1_10]) (t:=34) ?_;intro gb441 hg w70 hbox hb;have BK441:=aMk (hbox);have GW441:=aMk (bG bW hg);have GE441:=aMk (bG bW hg);replace HB:=aMk (bU hb);have NB440_441:=aMk ((bkL BK440.out hg:gb440 ≠ gb441));have NB441_440:=aMk ((bkG BK440.out hg:gb441 ≠ gb440));replace BK440:=aMk (bkB BK440.out hb);clear hb hbox hg;have hnb71:=NB440_441.out;have hnc71:=NB441_440.out;obtain ⟨Z72_0,Z72_1,Z72_2,Z72_3,Z72_4,Z72_5,Z72_6,Z72_7,Z72_8,Z72_9,Z72_10,Y72_0,Y72_1,Y72_2,Y72_3,Y72_4,Y72_5,Y72_6,Y72_7,Y72_8,Y72_9,Y72_10⟩:=bC11 BK440.out;obtain ⟨Z73_0,Z73_1,Z73_2,Z73_3,Z73_4,Z73_5,Z73_6,Z73_7,Z73_8,Z73_9,Z73_10,Y73_0,Y73_1,Y73_2,Y73_3,Y73_4,Y73_5,Y73_6,Y73_7,Y73_8,Y73_9,Y73_10⟩:=bC11 BK441.out))
  go_ret
  exact ⟨eRf,bW⟩
end
section
/-! ### laws_eqSegment: function 88 -/
def laws_eqSegment.f (a0_0 a0_1:Int) (a0_2 a0_3:Int) (a0_4 a0_5:Int) (a0_6:ByteArray) (a1_0 a1_1:Int) (a1_2 a1_3:Int) (a1_4 a1_5:Int) (a1_6:ByteArray):Option (Bool):=if a0_0 = a1_0 then (if a0_1 = a1_1 then (if a0_2 = a1_2 then (if a0_3 = a1_3 then (if a0_4 = a1_4 then (if a0_5 = a1_5 then (if a0_6.toList = a1_6.toList then (some true) else (some false)) else (some false)) else (some false)) else (some false)) else (some false)) else (some false)) else (some false)
set_option maxHeartbeats 8000000 in
set_option maxRecDepth 100000 in
theorem laws_eqSegment.calls (a0_0 a0_1:Int) (a0_2 a0_3:Int) (a0_4 a0_5:Int) (a0_6:ByteArray) (a1_0 a1_1:Int) (a1_2 a1_3:Int) (a1_4 a1_5:Int) (a1_6:ByteArray) (r:Bool) (w:World) (h:laws_eqSegment.f a0_0 a0_1 a0_2 a0_3 a0_4 a0_5 a0_6 a1_0 a1_1 a1_2 a1_3 a1_4 a1_5 a1_6 = some r) :
  Calls Try.prog 88 #[.agg #[.int .i64 a0_0,.int .i64 a0_1,.int .i64 a0_2,.int .i64 a0_3,.int .i64 a0_4,.int .i64 a0_5,.string a0_6],.agg #[.int .i64 a1_0,.int .i64 a1_1,.int .i64 a1_2,.int .i64 a1_3,.int .i64 a1_4,.int .i64 a1_5,.string a1_6]] w fun e w' => e = .returned (.bool r)∧Below w.heap.size w w':=by
 have hu53:=Try.underlying53
 have HB:=aMk (Below.refl w.heap.size w)
 have H:=h
 unfold laws_eqSegment.f at H
 clear h
 by_cases c3:a0_0 = a1_0
 ·rw [if_pos c3] at H
  have c3b0:(a0_0 == a1_0) = true:=beq_iff_eq.mpr c3
  have c3b1:(a0_0 != a1_0) = false:=bne_eq_false_iff_eq.mpr c3
  clear c3
  by_cases c4:a0_1 = a1_1
  ·rw [if_pos c4] at H
   have c4b0:(a0_1 == a1_1) = true:=beq_iff_eq.mpr c4
   have c4b1:(a0_1 != a1_1) = false:=bne_eq_false_iff_eq.mpr c4
   clear c4
   by_cases c5:a0_2 = a1_2
   ·rw [if_pos c5] at H
    have c5b0:(a0_2 == a1_2) = true:=beq_iff_eq.mpr c5
    have c5b1:(a0_2 != a1_2) = false:=bne_eq_false_iff_eq.mpr c5
    clear c5
    by_cases c6:a0_3 = a1_3
    ·rw [if_pos c6] at H
     have c6b0:(a0_3 == a1_3) = true:=beq_iff_eq.mpr c6
     have c6b1:(a0_3 != a1_3) = false:=bne_eq_false_iff_eq.mpr c6
     clear c6
     by_cases c7:a0_4 = a1_4
     ·rw [if_pos c7] at H
      have c7b0:(a0_4 == a1_4) = true:=beq_iff_eq.mpr c7
      have c7b1:(a0_4 != a1_4) = false:=bne_eq_false_iff_eq.mpr c7
      clear c7
      by_cases c8:a0_5 = a1_5
      ·rw [if_pos c8] at H
       have c8b0:(a0_5 == a1_5) = true:=beq_iff_eq.mpr c8
       have c8b1:(a0_5 != a1_5) = false:=bne_eq_false_iff_eq.mpr c8
       clear c8
       by_cases c9:a0_6.toList = a1_6.toList
       ·rw [if_pos c9] at H
        have c9b0:(a0_6.toList == a1_6.toList) = true:=beq_iff_eq.mpr c9
        have c9b1:(a0_6.toList != a1_6.toList) = false:=bne_eq_false_iff_eq.mpr c9
        clear c9
        obtain rfl:=Option.some.inj H
        go_enter Try.func88,Try.ntmps88
        go_wp2_with (first|((with_reducible refine gate_dst (N:=2) rfl ?_);refine bxE (N:=2) (cs:=#[.int .i64 a0_0,.int .i64 a0_1,.int .i64 a0_2,.int .i64 a0_3,.int .i64 a0_4,.int .i64 a0_5,.string a0_6]) (t:=53) ?_;intro gb442 hg w10 hbox hb;have BK442:=aMk (hbox);have GW442:=aMk (bZ hg);have GE442:=aMk (bZ hg);replace HB:=aMk (bSt hb);clear hb hbox hg)|((with_reducible refine gate_dst (N:=3) rfl ?_);refine bxE (N:=3) (cs:=#[.int .i64 a1_0,.int .i64 a1_1,.int .i64 a1_2,.int .i64 a1_3,.int .i64 a1_4,.int .i64 a1_5,.string a1_6]) (t:=53) ?_;intro gb443 hg w11 hbox hb;have BK443:=aMk (hbox);have GW443:=aMk (bG bW hg);have GE443:=aMk (bG bW hg);replace HB:=aMk (bU hb);have NB442_443:=aMk ((bkL BK442.out hg:gb442 ≠ gb443));have NB443_442:=aMk ((bkG BK442.out hg:gb443 ≠ gb442));replace BK442:=aMk (bkB BK442.out hb);clear hb hbox hg;have hnb12:=NB442_443.out;have hnc12:=NB443_442.out;obtain ⟨Z13_0,Z13_1,Z13_2,Z13_3,Z13_4,Z13_5,Z13_6,Y13_0,Y13_1,Y13_2,Y13_3,Y13_4,Y13_5,Y13_6⟩:=bC7 BK442.out;obtain ⟨Z14_0,Z14_1,Z14_2,Z14_3,Z14_4,Z14_5,Z14_6,Y14_0,Y14_1,Y14_2,Y14_3,Y14_4,Y14_5,Y14_6⟩:=bC7 BK443.out))
        go_ret
        exact ⟨eRf,bW⟩
       ·rw [if_neg c9] at H
        have c9b0:(a0_6.toList == a1_6.toList) = false:=beq_eq_false_iff_ne.mpr c9
        have c9b1:(a0_6.toList != a1_6.toList) = true:=bne_iff_ne.mpr c9
        obtain rfl:=Option.some.inj H
        go_enter Try.func88,Try.ntmps88
        go_wp2_with (first|((with_reducible refine gate_dst (N:=2) rfl ?_);refine bxE (N:=2) (cs:=#[.int .i64 a0_0,.int .i64 a0_1,.int .i64 a0_2,.int .i64 a0_3,.int .i64 a0_4,.int .i64 a0_5,.string a0_6]) (t:=53) ?_;intro gb442 hg w15 hbox hb;have BK442:=aMk (hbox);have GW442:=aMk (bZ hg);have GE442:=aMk (bZ hg);replace HB:=aMk (bSt hb);clear hb hbox hg)|((with_reducible refine gate_dst (N:=3) rfl ?_);refine bxE (N:=3) (cs:=#[.int .i64 a1_0,.int .i64 a1_1,.int .i64 a1_2,.int .i64 a1_3,.int .i64 a1_4,.int .i64 a1_5,.string a1_6]) (t:=53) ?_;intro gb443 hg w16 hbox hb;have BK443:=aMk (hbox);have GW443:=aMk (bG bW hg);have GE443:=aMk (bG bW hg);replace HB:=aMk (bU hb);have NB442_443:=aMk ((bkL BK442.out hg:gb442 ≠ gb443));have NB443_442:=aMk ((bkG BK442.out hg:gb443 ≠ gb442));replace BK442:=aMk (bkB BK442.out hb);clear hb hbox hg;have hnb17:=NB442_443.out;have hnc17:=NB443_442.out;obtain ⟨Z18_0,Z18_1,Z18_2,Z18_3,Z18_4,Z18_5,Z18_6,Y18_0,Y18_1,Y18_2,Y18_3,Y18_4,Y18_5,Y18_6⟩:=bC7 BK442.out;obtain ⟨Z19_0,Z19_1,Z19_2,Z19_3,Z19_4,Z19_5,Z19_6,Y19_0,Y19_1,Y19_2,Y19_3,Y19_4,Y19_5,Y19_6⟩:=bC7 BK443.out))
        go_ret
        exact ⟨eRf,bW⟩
      ·rw [if_neg c8] at H
       have c8b0:(a0_5 == a1_5) = false:=beq_eq_false_iff_ne.mpr c8
       have c8b1:(a0_5 != a1_5) = true:=bne_iff_ne.mpr c8
       obtain rfl:=Option.some.inj H
       go_enter Try.func88,Try.ntmps88
       go_wp2_with (first|((with_reducible refine gate_dst (N:=2) rfl ?_);refine bxE (N:=2) (cs:=#[.int .i64 a0_0,.int .i64 a0_1,.int .i64 a0_2,.int .i64 a0_3,.int .i64 a0_4,.int .i64 a0_5,.string a0_6]) (t:=53) ?_;intro gb442 hg w20 hbox hb;have BK442:=aMk (hbox);have GW442:=aMk (bZ hg);have GE442:=aMk (bZ hg);replace HB:=aMk (bSt hb);clear hb hbox hg)|((with_reducible refine gate_dst (N:=3) rfl ?_);refine bxE (N:=3) (cs:=#[.int .i64 a1_0,.int .i64 a1_1,.int .i64 a1_2,.int .i64 a1_3,.int .i64 a1_4,.int .i64 a1_5,.string a1_6]) (t:=53) ?_;intro gb443 hg w21 hbox hb;have BK443:=aMk (hbox);have GW443:=aMk (bG bW hg);have GE443:=aMk (bG bW hg);replace HB:=aMk (bU hb);have NB442_443:=aMk ((bkL BK442.out hg:gb442 ≠ gb443));have NB443_442:=aMk ((bkG BK442.out hg:gb443 ≠ gb442));replace BK442:=aMk (bkB BK442.out hb);clear hb hbox hg;have hnb22:=NB442_443.out;have hnc22:=NB443_442.out;obtain ⟨Z23_0,Z23_1,Z23_2,Z23_3,Z23_4,Z23_5,Z23_6,Y23_0,Y23_1,Y23_2,Y23_3,Y23_4,Y23_5,Y23_6⟩:=bC7 BK442.out;obtain ⟨Z24_0,Z24_1,Z24_2,Z24_3,Z24_4,Z24_5,Z24_6,Y24_0,Y24_1,Y24_2,Y24_3,Y24_4,Y24_5,Y24_6⟩:=bC7 BK443.out))
       go_ret
       exact ⟨eRf,bW⟩
     ·rw [if_neg c7] at H
      have c7b0:(a0_4 == a1_4) = false:=beq_eq_false_iff_ne.mpr c7
      have c7b1:(a0_4 != a1_4) = true:=bne_iff_ne.mpr c7
      obtain rfl:=Option.some.inj H
      go_enter Try.func88,Try.ntmps88
      go_wp2_with (first|((with_reducible refine gate_dst (N:=2) rfl ?_);refine bxE (N:=2) (cs:=#[.int .i64 a0_0,.int .i64 a0_1,.int .i64 a0_2,.int .i64 a0_3,.int .i64 a0_4,.int .i64 a0_5,.string a0_6]) (t:=53) ?_;intro gb442 hg w25 hbox hb;have BK442:=aMk (hbox);have GW442:=aMk (bZ hg);have GE442:=aMk (bZ hg);replace HB:=aMk (bSt hb);clear hb hbox hg)|((with_reducible refine gate_dst (N:=3) rfl ?_);refine bxE (N:=3) (cs:=#[.int .i64 a1_0,.int .i64 a1_1,.int .i64 a1_2,.int .i64 a1_3,.int .i64 a1_4,.int .i64 a1_5,.string a1_6]) (t:=53) ?_;intro gb443 hg w26 hbox hb;have BK443:=aMk (hbox);have GW443:=aMk (bG bW hg);have GE443:=aMk (bG bW hg);replace HB:=aMk (bU hb);have NB442_443:=aMk ((bkL BK442.out hg:gb442 ≠ gb443));have NB443_442:=aMk ((bkG BK442.out hg:gb443 ≠ gb442));replace BK442:=aMk (bkB BK442.out hb);clear hb hbox hg;have hnb27:=NB442_443.out;have hnc27:=NB443_442.out;obtain ⟨Z28_0,Z28_1,Z28_2,Z28_3,Z28_4,Z28_5,Z28_6,Y28_0,Y28_1,Y28_2,Y28_3,Y28_4,Y28_5,Y28_6⟩:=bC7 BK442.out;obtain ⟨Z29_0,Z29_1,Z29_2,Z29_3,Z29_4,Z29_5,Z29_6,Y29_0,Y29_1,Y29_2,Y29_3,Y29_4,Y29_5,Y29_6⟩:=bC7 BK443.out))
      go_ret
      exact ⟨eRf,bW⟩
    ·rw [if_neg c6] at H
     have c6b0:(a0_3 == a1_3) = false:=beq_eq_false_iff_ne.mpr c6
     have c6b1:(a0_3 != a1_3) = true:=bne_iff_ne.mpr c6
     obtain rfl:=Option.some.inj H
     go_enter Try.func88,Try.ntmps88
     go_wp2_with (first|((with_reducible refine gate_dst (N:=2) rfl ?_);refine bxE (N:=2) (cs:=#[.int .i64 a0_0,.int .i64 a0_1,.int .i64 a0_2,.int .i64 a0_3,.int .i64 a0_4,.int .i64 a0_5,.string a0_6]) (t:=53) ?_;intro gb442 hg w30 hbox hb;have BK442:=aMk (hbox);have GW442:=aMk (bZ hg);have GE442:=aMk (bZ hg);replace HB:=aMk (bSt hb);clear hb hbox hg)|((with_reducible refine gate_dst (N:=3) rfl ?_);refine bxE (N:=3) (cs:=#[.int .i64 a1_0,.int .i64 a1_1,.int .i64 a1_2,.int .i64 a1_3,.int .i64 a1_4,.int .i64 a1_5,.string a1_6]) (t:=53) ?_;intro gb443 hg w31 hbox hb;have BK443:=aMk (hbox);have GW443:=aMk (bG bW hg);have GE443:=aMk (bG bW hg);replace HB:=aMk (bU hb);have NB442_443:=aMk ((bkL BK442.out hg:gb442 ≠ gb443));have NB443_442:=aMk ((bkG BK442.out hg:gb443 ≠ gb442));replace BK442:=aMk (bkB BK442.out hb);clear hb hbox hg;have hnb32:=NB442_443.out;have hnc32:=NB443_442.out;obtain ⟨Z33_0,Z33_1,Z33_2,Z33_3,Z33_4,Z33_5,Z33_6,Y33_0,Y33_1,Y33_2,Y33_3,Y33_4,Y33_5,Y33_6⟩:=bC7 BK442.out;obtain ⟨Z34_0,Z34_1,Z34_2,Z34_3,Z34_4,Z34_5,Z34_6,Y34_0,Y34_1,Y34_2,Y34_3,Y34_4,Y34_5,Y34_6⟩:=bC7 BK443.out))
     go_ret
     exact ⟨eRf,bW⟩
   ·rw [if_neg c5] at H
    have c5b0:(a0_2 == a1_2) = false:=beq_eq_false_iff_ne.mpr c5
    have c5b1:(a0_2 != a1_2) = true:=bne_iff_ne.mpr c5
    obtain rfl:=Option.some.inj H
    go_enter Try.func88,Try.ntmps88
    go_wp2_with (first|((with_reducible refine gate_dst (N:=2) rfl ?_);refine bxE (N:=2) (cs:=#[.int .i64 a0_0,.int .i64 a0_1,.int .i64 a0_2,.int .i64 a0_3,.int .i64 a0_4,.int .i64 a0_5,.string a0_6]) (t:=53) ?_;intro gb442 hg w35 hbox hb;have BK442:=aMk (hbox);have GW442:=aMk (bZ hg);have GE442:=aMk (bZ hg);replace HB:=aMk (bSt hb);clear hb hbox hg)|((with_reducible refine gate_dst (N:=3) rfl ?_);refine bxE (N:=3) (cs:=#[.int .i64 a1_0,.int .i64 a1_1,.int .i64 a1_2,.int .i64 a1_3,.int .i64 a1_4,.int .i64 a1_5,.string a1_6]) (t:=53) ?_;intro gb443 hg w36 hbox hb;have BK443:=aMk (hbox);have GW443:=aMk (bG bW hg);have GE443:=aMk (bG bW hg);replace HB:=aMk (bU hb);have NB442_443:=aMk ((bkL BK442.out hg:gb442 ≠ gb443));have NB443_442:=aMk ((bkG BK442.out hg:gb443 ≠ gb442));replace BK442:=aMk (bkB BK442.out hb);clear hb hbox hg;have hnb37:=NB442_443.out;have hnc37:=NB443_442.out;obtain ⟨Z38_0,Z38_1,Z38_2,Z38_3,Z38_4,Z38_5,Z38_6,Y38_0,Y38_1,Y38_2,Y38_3,Y38_4,Y38_5,Y38_6⟩:=bC7 BK442.out;obtain ⟨Z39_0,Z39_1,Z39_2,Z39_3,Z39_4,Z39_5,Z39_6,Y39_0,Y39_1,Y39_2,Y39_3,Y39_4,Y39_5,Y39_6⟩:=bC7 BK443.out))
    go_ret
    exact ⟨eRf,bW⟩
  ·rw [if_neg c4] at H
   have c4b0:(a0_1 == a1_1) = false:=beq_eq_false_iff_ne.mpr c4
   have c4b1:(a0_1 != a1_1) = true:=bne_iff_ne.mpr c4
   obtain rfl:=Option.some.inj H
   go_enter Try.func88,Try.ntmps88
   go_wp2_with (first|((with_reducible refine gate_dst (N:=2) rfl ?_);refine bxE (N:=2) (cs:=#[.int .i64 a0_0,.int .i64 a0_1,.int .i64 a0_2,.int .i64 a0_3,.int .i64 a0_4,.int .i64 a0_5,.string a0_6]) (t:=53) ?_;intro gb442 hg w40 hbox hb;have BK442:=aMk (hbox);have GW442:=aMk (bZ hg);have GE442:=aMk (bZ hg);replace HB:=aMk (bSt hb);clear hb hbox hg)|((with_reducible refine gate_dst (N:=3) rfl ?_);refine bxE (N:=3) (cs:=#[.int .i64 a1_0,.int .i64 a1_1,.int .i64 a1_2,.int .i64 a1_3,.int .i64 a1_4,.int .i64 a1_5,.string a1_6]) (t:=53) ?_;intro gb443 hg w41 hbox hb;have BK443:=aMk (hbox);have GW443:=aMk (bG bW hg);have GE443:=aMk (bG bW hg);replace HB:=aMk (bU hb);have NB442_443:=aMk ((bkL BK442.out hg:gb442 ≠ gb443));have NB443_442:=aMk ((bkG BK442.out hg:gb443 ≠ gb442));replace BK442:=aMk (bkB BK442.out hb);clear hb hbox hg;have hnb42:=NB442_443.out;have hnc42:=NB443_442.out;obtain ⟨Z43_0,Z43_1,Z43_2,Z43_3,Z43_4,Z43_5,Z43_6,Y43_0,Y43_1,Y43_2,Y43_3,Y43_4,Y43_5,Y43_6⟩:=bC7 BK442.out;obtain ⟨Z44_0,Z44_1,Z44_2,Z44_3,Z44_4,Z44_5,Z44_6,Y44_0,Y44_1,Y44_2,Y44_3,Y44_4,Y44_5,Y44_6⟩:=bC7 BK443.out))
   go_ret
   exact ⟨eRf,bW⟩
 ·rw [if_neg c3] at H
  have c3b0:(a0_0 == a1_0) = false:=beq_eq_false_iff_ne.mpr c3
  have c3b1:(a0_0 != a1_0) = true:=bne_iff_ne.mpr c3
  obtain rfl:=Option.some.inj H
  go_enter Try.func88,Try.ntmps88
  go_wp2_with (first|((with_reducible refine gate_dst (N:=2) rfl ?_);refine bxE (N:=2) (cs:=#[.int .i64 a0_0,.int .i64 a0_1,.int .i64 a0_2,.int .i64 a0_3,.int .i64 a0_4,.int .i64 a0_5,.string a0_6]) (t:=53) ?_;intro gb442 hg w45 hbox hb;have BK442:=aMk (hbox);have GW442:=aMk (bZ hg);have GE442:=aMk (bZ hg);replace HB:=aMk (bSt hb);clear hb hbox hg)|((with_reducible refine gate_dst (N:=3) rfl ?_);refine bxE (N:=3) (cs:=#[.int .i64 a1_0,.int .i64 a1_1,.int .i64 a1_2,.int .i64 a1_3,.int .i64 a1_4,.int .i64 a1_5,.string a1_6]) (t:=53) ?_;intro gb443 hg w46 hbox hb;have BK443:=aMk (hbox);have GW443:=aMk (bG bW hg);have GE443:=aMk (bG bW hg);replace HB:=aMk (bU hb);have NB442_443:=aMk ((bkL BK442.out hg:gb442 ≠ gb443));have NB443_442:=aMk ((bkG BK442.out hg:gb443 ≠ gb442));replace BK442:=aMk (bkB BK442.out hb);clear hb hbox hg;have hnb47:=NB442_443.out;have hnc47:=NB443_442.out;obtain ⟨Z48_0,Z48_1,Z48_2,Z48_3,Z48_4,Z48_5,Z48_6,Y48_0,Y48_1,Y48_2,Y48_3,Y48_4,Y48_5,Y48_6⟩:=bC7 BK442.out;obtain ⟨Z49_0,Z49_1,Z49_2,Z49_3,Z49_4,Z49_5,Z49_6,Y49_0,Y49_1,Y49_2,Y49_3,Y49_4,Y49_5,Y49_6⟩:=bC7 BK443.out))
  go_ret
  exact ⟨eRf,bW⟩
end
section
/-! ### laws_eqSegmentS: function 38 -/
def laws_eqSegmentS.l0:Nat→List (S53)→List (S53)→Int→Option (Bool)
 | 0,_,_,_ => none
 | k + 1,x0,x1,x5 => if x5 < (x0.length:Int) then (if 0≤x5 then (if x5 < (x1.length:Int) then ((laws_eqSegment.f ((rd_T53 x0 x5).f0) ((rd_T53 x0 x5).f1) ((rd_T53 x0 x5).f2) ((rd_T53 x0 x5).f3) ((rd_T53 x0 x5).f4) ((rd_T53 x0 x5).f5) ((rd_T53 x0 x5).f6) ((rd_T53 x1 x5).f0) ((rd_T53 x1 x5).f1) ((rd_T53 x1 x5).f2) ((rd_T53 x1 x5).f3) ((rd_T53 x1 x5).f4) ((rd_T53 x1 x5).f5) ((rd_T53 x1 x5).f6)).bind fun t446 => (if t446 = true then (laws_eqSegmentS.l0 k x0 x1 (wrap64 (x5 + 1))) else (some false))) else (none)) else (none)) else (some true)
def laws_eqSegmentS.f (k:Nat) (l0:List (S53)) (l1:List (S53)):Option (Bool):=if (l0.length:Int) = (l1.length:Int) then (laws_eqSegmentS.l0 k l0 l1 0) else (some false)
theorem laws_eqSegmentS.mono_l:∀ k,(∀ y0 y1 y2,LeO (laws_eqSegmentS.l0 k y0 y1 y2) (laws_eqSegmentS.l0 (k + 1) y0 y1 y2))
 | 0 => fun _ _ _ r h => by simp [laws_eqSegmentS.l0] at h
 | k + 1 => by
  have ih0:=laws_eqSegmentS.mono_l k
  ·intro y0 y1 y2
   unfold laws_eqSegmentS.l0
   repeat' first
   | (with_reducible exact ih0 _ _ _)
   | (with_reducible exact LeO.refl _)
   | (with_reducible exact LeO.none _)
   | (with_reducible refine LeO.ite ?_ ?_)
   | (with_reducible refine LeO.bind ?_ (fun _ => ?_))
   | exact ih0 _ _ _
   | exact LeO.none _
   | refine LeO.ite ?_ ?_
   | refine LeO.bind ?_ (fun _ => ?_)
theorem laws_eqSegmentS.mono:∀ a0 a1 k,LeO (laws_eqSegmentS.f k a0 a1) (laws_eqSegmentS.f (k + 1) a0 a1):=by
 intro a0 a1 k
 have ih0:=laws_eqSegmentS.mono_l k
 unfold laws_eqSegmentS.f
 repeat' first
   | (with_reducible exact ih0 _ _ _)
   | (with_reducible exact LeO.refl _)
   | (with_reducible exact LeO.none _)
   | (with_reducible refine LeO.ite ?_ ?_)
   | (with_reducible refine LeO.bind ?_ (fun _ => ?_))
   | exact ih0 _ _ _
   | exact LeO.none _
   | refine LeO.ite ?_ ?_
   | refine LeO.bind ?_ (fun _ => ?_)
def laws_eqSegmentS.T6:Bool × List (List Nat × List Nat):=(true,[([],[]),([],[]),([0,1],[0,1]),([2],[2]),([],[]),([],[]),([4,5],[4,5]),([6],[6]),([3,7],[3,7]),([8],[8])])
def laws_eqSegmentS.B6:List Nat:=[0,0,3,7,0,0,48,112,255,511]
theorem laws_eqSegmentS.tab6:rtab .any (opsOf Try.f38 6) = laws_eqSegmentS.T6:=by kernel_rfl
theorem laws_eqSegmentS.bits6:waitsOk laws_eqSegmentS.T6.2 laws_eqSegmentS.B6 = true:=by kernel_rfl
set_option maxHeartbeats 8000000 in
set_option maxRecDepth 100000 in
theorem laws_eqSegmentS.calls (k:Nat) (A0:Option Addr) (c0:Nat) (l0:List (S53)) (A1:Option Addr) (c1:Nat) (l1:List (S53)) (r:Bool) (w:World) (hr0:Kd.C k53 w A0 l0.length l0) (hc0:l0.length≤c0) (hr1:Kd.C k53 w A1 l1.length l1) (hc1:l1.length≤c1) (h:laws_eqSegmentS.f k l0 l1 = some r) :
  Calls Try.prog 38 #[.slice A0 l0.length c0,.slice A1 l1.length c1] w fun e w' => e = .returned (.bool r)∧Below w.heap.size w w':=by
 have hu53:=Try.underlying53
 have HR0:=aMk hr0
 have HC0:=aMk hc0
 clear hr0 hc0
 have HR1:=aMk hr1
 have HC1:=aMk hc1
 clear hr1 hc1
 have HB:=aMk (Below.refl w.heap.size w)
 have H:=h
 unfold laws_eqSegmentS.f at H
 clear h
 by_cases c3:(l0.length:Int) = (l1.length:Int)
 ·rw [if_pos c3] at H
  have c3b0:((l0.length:Int) == (l1.length:Int)) = true:=beq_iff_eq.mpr c3
  have c3b1:((l0.length:Int) != (l1.length:Int)) = false:=bne_eq_false_iff_eq.mpr c3
  have c3b2:(l0.length == l1.length) = true:=by first | simpa using c3|(simp at c3 ⊢;omega)
  clear c3
  have H':=aMk H
  clear H
  go_enter Try.func38,Try.ntmps38
  go_wp2
  go_loopg [5] k (fun kq v5 w' => ∃ (x5_1:Int),v5 = .int .i64 x5_1∧Aside0 (laws_eqSegmentS.l0 kq l0 l1 x5_1 = some r)∧Aside0 (kq≤k)∧Aside0 (Below w.heap.size w w'))
  case atStart => exact ⟨(0),rfS,H',⟨Nat.le_refl _⟩,⟨bW⟩⟩
  case round =>
   clear H'
   obtain ⟨x5_1,rfl,HA,HK1,HB⟩:=hrel
   cases gk with
   | zero => exact absurd HA.out (by simp [laws_eqSegmentS.l0])
   | succ k1 =>
    have H:=HA.out
    clear HA
    simp only [laws_eqSegmentS.l0] at H
    by_cases c4:x5_1 < (l0.length:Int)
    ·rw [if_pos c4] at H
     have c4b0:decide (x5_1 < (l0.length:Int)) = true:=decide_eq_true c4
     clear c4
     by_cases c5:0≤x5_1
     ·rw [if_pos c5] at H
      have c5b0:decide (0≤x5_1) = true:=decide_eq_true c5
      clear c5
      by_cases c6:x5_1 < (l1.length:Int)
      ·rw [if_pos c6] at H
       have c6b0:decide (x5_1 < (l1.length:Int)) = true:=decide_eq_true c6
       clear c6
       replace H:=Option.bind_eq_some_iff.mp H
       obtain ⟨t446,A70,H⟩:=H
       try dsimp only at H
       have A7:=aMk A70
       clear A70
       by_cases c8:t446 = true
       ·subst c8
        have H1:=H
        rw [if_pos rfl] at H1
        clear H
        have H:=H1
        clear H1
        have H':=aMk H
        clear H
        try go_wp2
        replace HB:=aMk (bw1 HB.out)
        have p444:0≤(x5_1:Int):=of_decide_eq_true (by first|(with_reducible assumption) | assumption)
        have q444:x5_1 < (l0.length:Int):=of_decide_eq_true (by first|(with_reducible assumption) | assumption)
        obtain ⟨ad444,e444,hx444_0,hx444_1,hx444_2,hx444_3,hx444_4,hx444_5,hx444_6⟩:=at_T53 HR0.out x5_1 p444 q444
        have hw444_6:=hx444_6
        have hw444_5:=hx444_5
        have hw444_4:=hx444_4
        have hw444_3:=hx444_3
        have hw444_2:=hx444_2
        have hw444_1:=hx444_1
        have hw444_0:=hx444_0
        cases e444
        replace hx444_0:=bXc HB.out hx444_0
        replace hx444_1:=bXc HB.out hx444_1
        replace hx444_2:=bXc HB.out hx444_2
        replace hx444_3:=bXc HB.out hx444_3
        replace hx444_4:=bXc HB.out hx444_4
        replace hx444_5:=bXc HB.out hx444_5
        replace hx444_6:=bXc HB.out hx444_6
        replace p444:=eq_true p444
        replace q444:=eq_true q444
        have p445:0≤(x5_1:Int):=of_decide_eq_true (by first|(with_reducible assumption) | assumption)
        have q445:x5_1 < (l1.length:Int):=of_decide_eq_true (by first|(with_reducible assumption) | assumption)
        obtain ⟨ad445,e445,hx445_0,hx445_1,hx445_2,hx445_3,hx445_4,hx445_5,hx445_6⟩:=at_T53 HR1.out x5_1 p445 q445
        have hw445_6:=hx445_6
        have hw445_5:=hx445_5
        have hw445_4:=hx445_4
        have hw445_3:=hx445_3
        have hw445_2:=hx445_2
        have hw445_1:=hx445_1
        have hw445_0:=hx445_0
        cases e445
        replace hx445_0:=bXc HB.out hx445_0
        replace hx445_1:=bXc HB.out hx445_1
        replace hx445_2:=bXc HB.out hx445_2
        replace hx445_3:=bXc HB.out hx445_3
        replace hx445_4:=bXc HB.out hx445_4
        replace hx445_5:=bXc HB.out hx445_5
        replace hx445_6:=bXc HB.out hx445_6
        replace p445:=eq_true p445
        replace q445:=eq_true q445
        refine start_ (n:=10) (S:=fun w' => w'.cell? (ad444.add ((x5_1).toNat * 7)) = some (.int .i64 ((rd_T53 l0 x5_1).f0))∧w'.cell? ⟨(ad444.add ((x5_1).toNat * 7)).block,(ad444.add ((x5_1).toNat * 7)).off + 1,none⟩ = some (.int .i64 ((rd_T53 l0 x5_1).f1))∧w'.cell? ⟨(ad444.add ((x5_1).toNat * 7)).block,(ad444.add ((x5_1).toNat * 7)).off + 2,none⟩ = some (.int .i64 ((rd_T53 l0 x5_1).f2))∧w'.cell? ⟨(ad444.add ((x5_1).toNat * 7)).block,(ad444.add ((x5_1).toNat * 7)).off + 3,none⟩ = some (.int .i64 ((rd_T53 l0 x5_1).f3))∧w'.cell? ⟨(ad444.add ((x5_1).toNat * 7)).block,(ad444.add ((x5_1).toNat * 7)).off + 4,none⟩ = some (.int .i64 ((rd_T53 l0 x5_1).f4))∧w'.cell? ⟨(ad444.add ((x5_1).toNat * 7)).block,(ad444.add ((x5_1).toNat * 7)).off + 5,none⟩ = some (.int .i64 ((rd_T53 l0 x5_1).f5))∧w'.cell? ⟨(ad444.add ((x5_1).toNat * 7)).block,(ad444.add ((x5_1).toNat * 7)).off + 6,none⟩ = some (.string ((rd_T53 l0 x5_1).f6))∧w'.cell? (ad445.add ((x5_1).toNat * 7)) = some (.int .i64 ((rd_T53 l1 x5_1).f0))∧w'.cell? ⟨(ad445.add ((x5_1).toNat * 7)).block,(ad445.add ((x5_1).toNat * 7)).off + 1,none⟩ = some (.int .i64 ((rd_T53 l1 x5_1).f1))∧w'.cell? ⟨(ad445.add ((x5_1).toNat * 7)).block,(ad445.add ((x5_1).toNat * 7)).off + 2,none⟩ = some (.int .i64 ((rd_T53 l1 x5_1).f2))∧w'.cell? ⟨(ad445.add ((x5_1).toNat * 7)).block,(ad445.add ((x5_1).toNat * 7)).off + 3,none⟩ = some (.int .i64 ((rd_T53 l1 x5_1).f3))∧w'.cell? ⟨(ad445.add ((x5_1).toNat * 7)).block,(ad445.add ((x5_1).toNat * 7)).off + 4,none⟩ = some (.int .i64 ((rd_T53 l1 x5_1).f4))∧w'.cell? ⟨(ad445.add ((x5_1).toNat * 7)).block,(ad445.add ((x5_1).toNat * 7)).off + 5,none⟩ = some (.int .i64 ((rd_T53 l1 x5_1).f5))∧w'.cell? ⟨(ad445.add ((x5_1).toNat * 7)).block,(ad445.add ((x5_1).toNat * 7)).off + 6,none⟩ = some (.string ((rd_T53 l1 x5_1).f6))) (ds:=[]) #[false,false,false,false,false,false,false,false,false,false] (by kernel_rfl) rfl rfl ⟨((HB.out.cell (wLt w _ hw444_0)).trans hw444_0),((HB.out.cell (wLt w _ hw444_1)).trans hw444_1),((HB.out.cell (wLt w _ hw444_2)).trans hw444_2),((HB.out.cell (wLt w _ hw444_3)).trans hw444_3),((HB.out.cell (wLt w _ hw444_4)).trans hw444_4),((HB.out.cell (wLt w _ hw444_5)).trans hw444_5),((HB.out.cell (wLt w _ hw444_6)).trans hw444_6),((HB.out.cell (wLt w _ hw445_0)).trans hw445_0),((HB.out.cell (wLt w _ hw445_1)).trans hw445_1),((HB.out.cell (wLt w _ hw445_2)).trans hw445_2),((HB.out.cell (wLt w _ hw445_3)).trans hw445_3),((HB.out.cell (wLt w _ hw445_4)).trans hw445_4),((HB.out.cell (wLt w _ hw445_5)).trans hw445_5),((HB.out.cell (wLt w _ hw445_6)).trans hw445_6)⟩ (fun hHeld => ?_);refine with_tabW laws_eqSegmentS.tab6 laws_eqSegmentS.bits6 (fun HT_ HW_ => ?_)
        generalize wr.drew = w9 at HB hx444_0 hx444_1 hx444_2 hx444_3 hx444_4 hx444_5 hx444_6 hx445_0 hx445_1 hx445_2 hx445_3 hx445_4 hx445_5 hx445_6 hHeld ⊢
        refine pU (i:=0) (N:=some 17) #[true,false,false,false,false,false,false,false,false,false] (any_of HT_.out (by kernel_rfl)) ?_
        refine pU (i:=1) (N:=some 18) #[true,true,false,false,false,false,false,false,false,false] (any_of HT_.out (by kernel_rfl)) ?_
        refine pU (i:=2) (N:=some 19) #[true,true,true,false,false,false,false,false,false,false] (any_of HT_.out (by kernel_rfl)) ?_
        refine pU (i:=4) (N:=some 21) #[true,true,true,false,true,false,false,false,false,false] (any_of HT_.out (by kernel_rfl)) ?_
        refine pU (i:=5) (N:=some 22) #[true,true,true,false,true,true,false,false,false,false] (any_of HT_.out (by kernel_rfl)) ?_
        refine pU (i:=6) (N:=some 23) #[true,true,true,false,true,true,true,false,false,false] (any_of HT_.out (by kernel_rfl)) ?_
        refine tU14 (i:=3) (N:=some 20) #[true,true,true,true,true,true,true,false,false,false] (take_ofW HT_.out HW_.out (by kernel_rfl)) hHeld ?_
        refine tU14 (i:=7) (N:=some 24) #[true,true,true,true,true,true,true,true,false,false] (take_ofW HT_.out HW_.out (by kernel_rfl)) hHeld ?_
        refine one_ (i:=8) (N:=some 25) #[true,true,true,true,true,true,true,true,true,false] rfl rfl (one_of HT_.out (by kernel_rfl)) (by decide) (fun K hK => ?_)
        refine goes_ Try.func88 (by kernel_rfl) rfl #[.agg #[.int .i64 ((rd_T53 l0 x5_1).f0),.int .i64 ((rd_T53 l0 x5_1).f1),.int .i64 ((rd_T53 l0 x5_1).f2),.int .i64 ((rd_T53 l0 x5_1).f3),.int .i64 ((rd_T53 l0 x5_1).f4),.int .i64 ((rd_T53 l0 x5_1).f5),.string ((rd_T53 l0 x5_1).f6)],.agg #[.int .i64 ((rd_T53 l1 x5_1).f0),.int .i64 ((rd_T53 l1 x5_1).f1),.int .i64 ((rd_T53 l1 x5_1).f2),.int .i64 ((rd_T53 l1 x5_1).f3),.int .i64 ((rd_T53 l1 x5_1).f4),.int .i64 ((rd_T53 l1 x5_1).f5),.string ((rd_T53 l1 x5_1).f6)]] (by rfl) rfl rfl (by (try simp only [List.map_toArray,List.map_cons,List.map_nil]);first | done | rfl|(simp only [List.length_drop,List.length_take];rfl)) ?_
        with_reducible refine (laws_eqSegment.calls ((rd_T53 l0 x5_1).f0) ((rd_T53 l0 x5_1).f1) ((rd_T53 l0 x5_1).f2) ((rd_T53 l0 x5_1).f3) ((rd_T53 l0 x5_1).f4) ((rd_T53 l0 x5_1).f5) ((rd_T53 l0 x5_1).f6) ((rd_T53 l1 x5_1).f0) ((rd_T53 l1 x5_1).f1) ((rd_T53 l1 x5_1).f2) ((rd_T53 l1 x5_1).f3) ((rd_T53 l1 x5_1).f4) ((rd_T53 l1 x5_1).f5) ((rd_T53 l1 x5_1).f6) true _ A7.out).mono ?_
        rintro e w10 ⟨rfl,hb⟩
        refine ⟨_,rfl,?_⟩
        replace HB:=aMk (bSt hb)
        (try clear hb)
        (try clear hb2)
        (try clear hk)
        (try clear hi)
        refine hK.out _ _ ⟨((HB.out.cell (wLt w _ hw444_0)).trans hw444_0),((HB.out.cell (wLt w _ hw444_1)).trans hw444_1),((HB.out.cell (wLt w _ hw444_2)).trans hw444_2),((HB.out.cell (wLt w _ hw444_3)).trans hw444_3),((HB.out.cell (wLt w _ hw444_4)).trans hw444_4),((HB.out.cell (wLt w _ hw444_5)).trans hw444_5),((HB.out.cell (wLt w _ hw444_6)).trans hw444_6),((HB.out.cell (wLt w _ hw445_0)).trans hw445_0),((HB.out.cell (wLt w _ hw445_1)).trans hw445_1),((HB.out.cell (wLt w _ hw445_2)).trans hw445_2),((HB.out.cell (wLt w _ hw445_3)).trans hw445_3),((HB.out.cell (wLt w _ hw445_4)).trans hw445_4),((HB.out.cell (wLt w _ hw445_5)).trans hw445_5),((HB.out.cell (wLt w _ hw445_6)).trans hw445_6)⟩ (fun hHeld => ?_)
        clear hK K
        refine norm_ (a':=?_) ?_ ?_
        rotate_left
        ·show Act.put _ (some 25) _ = _
         simp only [Act.put,List.setIfInBounds_toArray,List.set_cons_zero,List.set_cons_succ,i64_w,i32_w]
         rfl
        refine pU (i:=9) (N:=some 26) #[true,true,true,true,true,true,true,true,true,true] (any_of HT_.out (by kernel_rfl)) ?_
        refine done_ (done_of HT_.out (by kernel_rfl)) ?_
        try go_wp2
        go_roundg k1
        case measure => have:=HK1.out;omega
        case rel => exact ⟨(wrap64 (x5_1 + 1)),rfS,H',⟨by have:=HK1.out;omega⟩,⟨bW⟩⟩
       ·replace c8:=Bool.eq_false_iff.mpr c8
        subst c8
        have H1:=H
        rw [if_neg (show ¬ (false = true) by decide)] at H1
        clear H
        have H:=H1
        clear H1
        obtain rfl:=Option.some.inj H
        try go_wp2
        replace HB:=aMk (bw1 HB.out)
        have p444:0≤(x5_1:Int):=of_decide_eq_true (by first|(with_reducible assumption) | assumption)
        have q444:x5_1 < (l0.length:Int):=of_decide_eq_true (by first|(with_reducible assumption) | assumption)
        obtain ⟨ad444,e444,hx444_0,hx444_1,hx444_2,hx444_3,hx444_4,hx444_5,hx444_6⟩:=at_T53 HR0.out x5_1 p444 q444
        have hw444_6:=hx444_6
        have hw444_5:=hx444_5
        have hw444_4:=hx444_4
        have hw444_3:=hx444_3
        have hw444_2:=hx444_2
        have hw444_1:=hx444_1
        have hw444_0:=hx444_0
        cases e444
        replace hx444_0:=bXc HB.out hx444_0
        replace hx444_1:=bXc HB.out hx444_1
        replace hx444_2:=bXc HB.out hx444_2
        replace hx444_3:=bXc HB.out hx444_3
        replace hx444_4:=bXc HB.out hx444_4
        replace hx444_5:=bXc HB.out hx444_5
        replace hx444_6:=bXc HB.out hx444_6
        replace p444:=eq_true p444
        replace q444:=eq_true q444
        have p445:0≤(x5_1:Int):=of_decide_eq_true (by first|(with_reducible assumption) | assumption)
        have q445:x5_1 < (l1.length:Int):=of_decide_eq_true (by first|(with_reducible assumption) | assumption)
        obtain ⟨ad445,e445,hx445_0,hx445_1,hx445_2,hx445_3,hx445_4,hx445_5,hx445_6⟩:=at_T53 HR1.out x5_1 p445 q445
        have hw445_6:=hx445_6
        have hw445_5:=hx445_5
        have hw445_4:=hx445_4
        have hw445_3:=hx445_3
        have hw445_2:=hx445_2
        have hw445_1:=hx445_1
        have hw445_0:=hx445_0
        cases e445
        replace hx445_0:=bXc HB.out hx445_0
        replace hx445_1:=bXc HB.out hx445_1
        replace hx445_2:=bXc HB.out hx445_2
        replace hx445_3:=bXc HB.out hx445_3
        replace hx445_4:=bXc HB.out hx445_4
        replace hx445_5:=bXc HB.out hx445_5
        replace hx445_6:=bXc HB.out hx445_6
        replace p445:=eq_true p445
        replace q445:=eq_true q445
        refine start_ (n:=10) (S:=fun w' => w'.cell? (ad444.add ((x5_1).toNat * 7)) = some (.int .i64 ((rd_T53 l0 x5_1).f0))∧w'.cell? ⟨(ad444.add ((x5_1).toNat * 7)).block,(ad444.add ((x5_1).toNat * 7)).off + 1,none⟩ = some (.int .i64 ((rd_T53 l0 x5_1).f1))∧w'.cell? ⟨(ad444.add ((x5_1).toNat * 7)).block,(ad444.add ((x5_1).toNat * 7)).off + 2,none⟩ = some (.int .i64 ((rd_T53 l0 x5_1).f2))∧w'.cell? ⟨(ad444.add ((x5_1).toNat * 7)).block,(ad444.add ((x5_1).toNat * 7)).off + 3,none⟩ = some (.int .i64 ((rd_T53 l0 x5_1).f3))∧w'.cell? ⟨(ad444.add ((x5_1).toNat * 7)).block,(ad444.add ((x5_1).toNat * 7)).off + 4,none⟩ = some (.int .i64 ((rd_T53 l0 x5_1).f4))∧w'.cell? ⟨(ad444.add ((x5_1).toNat * 7)).block,(ad444.add ((x5_1).toNat * 7)).off + 5,none⟩ = some (.int .i64 ((rd_T53 l0 x5_1).f5))∧w'.cell? ⟨(ad444.add ((x5_1).toNat * 7)).block,(ad444.add ((x5_1).toNat * 7)).off + 6,none⟩ = some (.string ((rd_T53 l0 x5_1).f6))∧w'.cell? (ad445.add ((x5_1).toNat * 7)) = some (.int .i64 ((rd_T53 l1 x5_1).f0))∧w'.cell? ⟨(ad445.add ((x5_1).toNat * 7)).block,(ad445.add ((x5_1).toNat * 7)).off + 1,none⟩ = some (.int .i64 ((rd_T53 l1 x5_1).f1))∧w'.cell? ⟨(ad445.add ((x5_1).toNat * 7)).block,(ad445.add ((x5_1).toNat * 7)).off + 2,none⟩ = some (.int .i64 ((rd_T53 l1 x5_1).f2))∧w'.cell? ⟨(ad445.add ((x5_1).toNat * 7)).block,(ad445.add ((x5_1).toNat * 7)).off + 3,none⟩ = some (.int .i64 ((rd_T53 l1 x5_1).f3))∧w'.cell? ⟨(ad445.add ((x5_1).toNat * 7)).block,(ad445.add ((x5_1).toNat * 7)).off + 4,none⟩ = some (.int .i64 ((rd_T53 l1 x5_1).f4))∧w'.cell? ⟨(ad445.add ((x5_1).toNat * 7)).block,(ad445.add ((x5_1).toNat * 7)).off + 5,none⟩ = some (.int .i64 ((rd_T53 l1 x5_1).f5))∧w'.cell? ⟨(ad445.add ((x5_1).toNat * 7)).block,(ad445.add ((x5_1).toNat * 7)).off + 6,none⟩ = some (.string ((rd_T53 l1 x5_1).f6))) (ds:=[]) #[false,false,false,false,false,false,false,false,false,false] (by kernel_rfl) rfl rfl ⟨((HB.out.cell (wLt w _ hw444_0)).trans hw444_0),((HB.out.cell (wLt w _ hw444_1)).trans hw444_1),((HB.out.cell (wLt w _ hw444_2)).trans hw444_2),((HB.out.cell (wLt w _ hw444_3)).trans hw444_3),((HB.out.cell (wLt w _ hw444_4)).trans hw444_4),((HB.out.cell (wLt w _ hw444_5)).trans hw444_5),((HB.out.cell (wLt w _ hw444_6)).trans hw444_6),((HB.out.cell (wLt w _ hw445_0)).trans hw445_0),((HB.out.cell (wLt w _ hw445_1)).trans hw445_1),((HB.out.cell (wLt w _ hw445_2)).trans hw445_2),((HB.out.cell (wLt w _ hw445_3)).trans hw445_3),((HB.out.cell (wLt w _ hw445_4)).trans hw445_4),((HB.out.cell (wLt w _ hw445_5)).trans hw445_5),((HB.out.cell (wLt w _ hw445_6)).trans hw445_6)⟩ (fun hHeld => ?_);refine with_tabW laws_eqSegmentS.tab6 laws_eqSegmentS.bits6 (fun HT_ HW_ => ?_)
        generalize wr.drew = w11 at HB hx444_0 hx444_1 hx444_2 hx444_3 hx444_4 hx444_5 hx444_6 hx445_0 hx445_1 hx445_2 hx445_3 hx445_4 hx445_5 hx445_6 hHeld ⊢
        refine pU (i:=0) (N:=some 17) #[true,false,false,false,false,false,false,false,false,false] (any_of HT_.out (by kernel_rfl)) ?_
        refine pU (i:=1) (N:=some 18) #[true,true,false,false,false,false,false,false,false,false] (any_of HT_.out (by kernel_rfl)) ?_
        refine pU (i:=2) (N:=some 19) #[true,true,true,false,false,false,false,false,false,false] (any_of HT_.out (by kernel_rfl)) ?_
        refine pU (i:=4) (N:=some 21) #[true,true,true,false,true,false,false,false,false,false] (any_of HT_.out (by kernel_rfl)) ?_
        refine pU (i:=5) (N:=some 22) #[true,true,true,false,true,true,false,false,false,false] (any_of HT_.out (by kernel_rfl)) ?_
        refine pU (i:=6) (N:=some 23) #[true,true,true,false,true,true,true,false,false,false] (any_of HT_.out (by kernel_rfl)) ?_
        refine tU14 (i:=3) (N:=some 20) #[true,true,true,true,true,true,true,false,false,false] (take_ofW HT_.out HW_.out (by kernel_rfl)) hHeld ?_
        refine tU14 (i:=7) (N:=some 24) #[true,true,true,true,true,true,true,true,false,false] (take_ofW HT_.out HW_.out (by kernel_rfl)) hHeld ?_
        refine one_ (i:=8) (N:=some 25) #[true,true,true,true,true,true,true,true,true,false] rfl rfl (one_of HT_.out (by kernel_rfl)) (by decide) (fun K hK => ?_)
        refine goes_ Try.func88 (by kernel_rfl) rfl #[.agg #[.int .i64 ((rd_T53 l0 x5_1).f0),.int .i64 ((rd_T53 l0 x5_1).f1),.int .i64 ((rd_T53 l0 x5_1).f2),.int .i64 ((rd_T53 l0 x5_1).f3),.int .i64 ((rd_T53 l0 x5_1).f4),.int .i64 ((rd_T53 l0 x5_1).f5),.string ((rd_T53 l0 x5_1).f6)],.agg #[.int .i64 ((rd_T53 l1 x5_1).f0),.int .i64 ((rd_T53 l1 x5_1).f1),.int .i64 ((rd_T53 l1 x5_1).f2),.int .i64 ((rd_T53 l1 x5_1).f3),.int .i64 ((rd_T53 l1 x5_1).f4),.int .i64 ((rd_T53 l1 x5_1).f5),.string ((rd_T53 l1 x5_1).f6)]] (by rfl) rfl rfl (by (try simp only [List.map_toArray,List.map_cons,List.map_nil]);first | done | rfl|(simp only [List.length_drop,List.length_take];rfl)) ?_
        with_reducible refine (laws_eqSegment.calls ((rd_T53 l0 x5_1).f0) ((rd_T53 l0 x5_1).f1) ((rd_T53 l0 x5_1).f2) ((rd_T53 l0 x5_1).f3) ((rd_T53 l0 x5_1).f4) ((rd_T53 l0 x5_1).f5) ((rd_T53 l0 x5_1).f6) ((rd_T53 l1 x5_1).f0) ((rd_T53 l1 x5_1).f1) ((rd_T53 l1 x5_1).f2) ((rd_T53 l1 x5_1).f3) ((rd_T53 l1 x5_1).f4) ((rd_T53 l1 x5_1).f5) ((rd_T53 l1 x5_1).f6) false _ A7.out).mono ?_
        rintro e w12 ⟨rfl,hb⟩
        refine ⟨_,rfl,?_⟩
        replace HB:=aMk (bSt hb)
        (try clear hb)
        (try clear hb2)
        (try clear hk)
        (try clear hi)
        refine hK.out _ _ ⟨((HB.out.cell (wLt w _ hw444_0)).trans hw444_0),((HB.out.cell (wLt w _ hw444_1)).trans hw444_1),((HB.out.cell (wLt w _ hw444_2)).trans hw444_2),((HB.out.cell (wLt w _ hw444_3)).trans hw444_3),((HB.out.cell (wLt w _ hw444_4)).trans hw444_4),((HB.out.cell (wLt w _ hw444_5)).trans hw444_5),((HB.out.cell (wLt w _ hw444_6)).trans hw444_6),((HB.out.cell (wLt w _ hw445_0)).trans hw445_0),((HB.out.cell (wLt w _ hw445_1)).trans hw445_1),((HB.out.cell (wLt w _ hw445_2)).trans hw445_2),((HB.out.cell (wLt w _ hw445_3)).trans hw445_3),((HB.out.cell (wLt w _ hw445_4)).trans hw445_4),((HB.out.cell (wLt w _ hw445_5)).trans hw445_5),((HB.out.cell (wLt w _ hw445_6)).trans hw445_6)⟩ (fun hHeld => ?_)
        clear hK K
        refine norm_ (a':=?_) ?_ ?_
        rotate_left
        ·show Act.put _ (some 25) _ = _
         simp only [Act.put,List.setIfInBounds_toArray,List.set_cons_zero,List.set_cons_succ,i64_w,i32_w]
         rfl
        refine pU (i:=9) (N:=some 26) #[true,true,true,true,true,true,true,true,true,true] (any_of HT_.out (by kernel_rfl)) ?_
        refine done_ (done_of HT_.out (by kernel_rfl)) ?_
        try go_wp2
        go_ret
        exact ⟨eRf,bW⟩
      ·rw [if_neg c6] at H
       exact absurd H (by simp)
     ·rw [if_neg c5] at H
      exact absurd H (by simp)
    ·rw [if_neg c4] at H
     have c4b0:decide (x5_1 < (l0.length:Int)) = false:=decide_eq_false c4
     clear c4
     obtain rfl:=Option.some.inj H
     go_wp2
     go_ret
     exact ⟨eRf,bW⟩
 ·rw [if_neg c3] at H
  have c3b0:((l0.length:Int) == (l1.length:Int)) = false:=beq_eq_false_iff_ne.mpr c3
  have c3b1:((l0.length:Int) != (l1.length:Int)) = true:=bne_iff_ne.mpr c3
  have c3b2:(l0.length == l1.length) = false:=by first | simpa using c3|(simp at c3 ⊢;omega)
  obtain rfl:=Option.some.inj H
  go_enter Try.func38,Try.ntmps38
  go_wp2
  go_ret
  exact ⟨eRf,bW⟩
end
section
/-! ### laws_markText: function 89 -/
def laws_markText.l0:Nat→Int→ByteArray→Option (ByteArray)
 | 0,_,_ => none
 | k + 1,x0,x3 => if x0 > 0 then ((some (([(wrap64 (48 + (Int.tmod x0 10))) % 256]:List Int):List Int)).bind fun y447 => (if (strOfNums y447).size + x3.size≤9223372036854775807 then (laws_markText.l0 k (wrap64 (Int.tdiv x0 10)) ((strOfNums y447) ++ x3)) else (none))) else (if 1 + x3.size≤9223372036854775807 then (some ((⟨#[109]⟩:ByteArray) ++ x3)) else (none))
def laws_markText.f (k:Nat) (a0:Int):Option (ByteArray):=if a0≤0 then (some (⟨#[109,48]⟩:ByteArray)) else (laws_markText.l0 k a0 (⟨#[]⟩:ByteArray))
theorem laws_markText.mono_l:∀ k,(∀ y0 y1,LeO (laws_markText.l0 k y0 y1) (laws_markText.l0 (k + 1) y0 y1))
 | 0 => fun _ _ r h => by simp [laws_markText.l0] at h
 | k + 1 => by
  have ih0:=laws_markText.mono_l k
  ·intro y0 y1
   unfold laws_markText.l0
   repeat' first
   | (with_reducible exact ih0 _ _)
   | (with_reducible exact LeO.refl _)
   | (with_reducible exact LeO.none _)
   | (with_reducible refine LeO.ite ?_ ?_)
   | (with_reducible refine LeO.bind ?_ (fun _ => ?_))
   | exact ih0 _ _
   | exact LeO.none _
   | refine LeO.ite ?_ ?_
   | refine LeO.bind ?_ (fun _ => ?_)
theorem laws_markText.mono:∀ a0 k,LeO (laws_markText.f k a0) (laws_markText.f (k + 1) a0):=by
 intro a0 k
 have ih0:=laws_markText.mono_l k
 unfold laws_markText.f
 repeat' first
   | (with_reducible exact ih0 _ _)
   | (with_reducible exact LeO.refl _)
   | (with_reducible exact LeO.none _)
   | (with_reducible refine LeO.ite ?_ ?_)
   | (with_reducible refine LeO.bind ?_ (fun _ => ?_))
   | exact ih0 _ _
   | exact LeO.none _
   | refine LeO.ite ?_ ?_
   | refine LeO.bind ?_ (fun _ => ?_)
set_option maxHeartbeats 8000000 in
set_option maxRecDepth 100000 in
theorem laws_markText.calls (k:Nat) (a0:Int) (r:ByteArray) (w:World) (h:laws_markText.f k a0 = some r) :
  Calls Try.prog 89 #[.int .i64 a0] w fun e w' => e = .returned (.string r)∧Below w.heap.size w w':=by
 have HB:=aMk (Below.refl w.heap.size w)
 have H:=h
 unfold laws_markText.f at H
 clear h
 by_cases c2:a0≤0
 ·rw [if_pos c2] at H
  have c2b0:decide (a0≤0) = true:=decide_eq_true c2
  clear c2
  obtain rfl:=Option.some.inj H
  go_enter Try.func89,Try.ntmps89
  go_wp2
  go_ret
  exact ⟨eRf,bW⟩
 ·rw [if_neg c2] at H
  have c2b0:decide (a0≤0) = false:=decide_eq_false c2
  clear c2
  have H':=aMk H
  clear H
  go_enter Try.func89,Try.ntmps89
  go_wp2
  go_loopg [0,3] k (fun kq v0 v3 w' => ∃ (x0_1:Int) (x3_1:ByteArray),v0 = .int .i64 x0_1∧v3 = .string x3_1∧Aside0 (laws_markText.l0 kq x0_1 x3_1 = some r)∧Aside0 (kq≤k)∧Aside0 (Below w.heap.size w w'))
  case atStart => exact ⟨(a0),((⟨#[]⟩:ByteArray)),rfS,rfS,H',⟨Nat.le_refl _⟩,⟨bW⟩⟩
  case round =>
   clear H'
   obtain ⟨x0_1,x3_1,rfl,rfl,HA,HK1,HB⟩:=hrel
   cases gk with
   | zero => exact absurd HA.out (by simp [laws_markText.l0])
   | succ k1 =>
    have H:=HA.out
    clear HA
    simp only [laws_markText.l0] at H
    by_cases c3:x0_1 > 0
    ·rw [if_pos c3] at H
     have c3b0:decide (0 < x0_1) = true:=decide_eq_true c3
     clear c3
     obtain ⟨y447,hy447⟩:∃ y_:List Int,y_ = (([(wrap64 (48 + (Int.tmod x0_1 10))) % 256]:List Int)):=⟨_,rfl⟩
     replace H:(if (strOfNums y447).size + x3_1.size≤9223372036854775807 then (laws_markText.l0 k1 (wrap64 (Int.tdiv x0_1 10)) ((strOfNums y447) ++ x3_1)) else (none)) = some r:=by first|(rw [hy447];with_reducible exact H)|(have H2_:=(Option.bind_some _ _).symm.trans H;rw [hy447];with_reducible exact H2_)|(have H2_:=(Option.bind_some _ _).symm.trans H;with_reducible exact H2_) | with_reducible exact H|(rw [hy447];exact H)|exact H
     have Ny447:=aMk hy447
     clear hy447
     by_cases c4:(strOfNums y447).size + x3_1.size≤9223372036854775807
     ·rw [if_pos c4] at H
      have c4b0:=eq_true c4
      have c4b1:decide ((strOfNums y447).size + x3_1.size≤9223372036854775807) = true:=decide_eq_true c4
      try have c4b2:(9223372036854775807 < (strOfNums y447).size + x3_1.size) = False:=eq_false (Nat.not_lt.2 c4)
      have H':=aMk H
      clear H
      go_wp2_with (first|((with_reducible refine gate_dst (N:=12) rfl ?_);refine Kd.R_lit (Kd.int .u8) _ 5 ?hg (N:=12) ?hd (xs:=([(wrap64 (48 + (Int.tmod x0_1 10))) % 256]:List Int)) (inner:=[.int .u8 ((wrap64 (48 + (Int.tmod x0_1 10))) % 256)]) (ok:=fun _ => True) (okp:=fun _ => True) ?hr ?hp (fun _ hk => hk) trivial (Below.refl _ _) (Nat.le_refl _) (by simp) ?_;(case hd => rfl);(case hg => rfl);(case hr => first|(go_simp;done)|(go_simp;rfl));(case hp => exact (Reps.one (show Kd.M (Kd.int .u8) _ _ _ ((wrap64 (48 + (Int.tmod x0_1 10))) % 256) [.int .u8 ((wrap64 (48 + (Int.tmod x0_1 10))) % 256)] from rfl) (Reps.none _ _)));intro v448 w5 ho6 hb hg_ hnew_;clear hg_ hnew_;(first|rw [← Ny447.out] at ho6|(simp only [Int.reduceToNat] at ho6;rw [← Ny447.out] at ho6));have HO449:=aMk (Kd.R_lower ho6 bSz);replace HB:=aMk (bSt hb);clear hb ho6;have hcv7:=own_string (P:=Try.prog) Try.underlying25 Try.underlying5 Try.underlying9 (Kd.own_of_R HO449.out)))
      go_roundg k1
      case measure => have:=HK1.out;omega
      case rel => exact ⟨(wrap64 (Int.tdiv x0_1 10)),((strOfNums y447) ++ x3_1),rfS,rfS,H',⟨by have:=HK1.out;omega⟩,⟨bW⟩⟩
     ·rw [if_neg c4] at H
      exact absurd H (by simp)
    ·rw [if_neg c3] at H
     have c3b0:decide (0 < x0_1) = false:=decide_eq_false c3
     clear c3
     by_cases c8:1 + x3_1.size≤9223372036854775807
     ·rw [if_pos c8] at H
      have c8b0:=eq_true c8
      have c8b1:decide (1 + x3_1.size≤9223372036854775807) = true:=decide_eq_true c8
      try have c8b2:(9223372036854775807 < 1 + x3_1.size) = False:=eq_false (Nat.not_lt.2 c8)
      obtain rfl:=Option.some.inj H
      go_wp2
      go_ret
      exact ⟨eRf,bW⟩
     ·rw [if_neg c8] at H
      exact absurd H (by simp)
end
section
/-! ### laws_markSegmentS: function 39 -/
def laws_markSegmentS.l0:Nat→List (S53)→Int→Int→Option (Int × (List (S53)))
 | 0,_,_,_ => none
 | k + 1,x0,x1,x5 => if x5 < (x0.length:Int) then (if 0≤x5 then ((some (x0.set (x5:Int).toNat (⟨x1,(rd_T53 x0 x5).f1,(rd_T53 x0 x5).f2,(rd_T53 x0 x5).f3,(rd_T53 x0 x5).f4,(rd_T53 x0 x5).f5,(rd_T53 x0 x5).f6⟩:S53):List (S53))).bind fun y450 => ((some (y450.set (x5:Int).toNat (⟨(rd_T53 y450 x5).f0,wrap64 (x1 + 1),(rd_T53 y450 x5).f2,(rd_T53 y450 x5).f3,(rd_T53 y450 x5).f4,(rd_T53 y450 x5).f5,(rd_T53 y450 x5).f6⟩:S53):List (S53))).bind fun y451 => ((some (y451.set (x5:Int).toNat (⟨(rd_T53 y451 x5).f0,(rd_T53 y451 x5).f1,wrap64 ((wrap64 (x1 + 1)) + 1),(rd_T53 y451 x5).f3,(rd_T53 y451 x5).f4,(rd_T53 y451 x5).f5,(rd_T53 y451 x5).f6⟩:S53):List (S53))).bind fun y452 => ((some (y452.set (x5:Int).toNat (⟨(rd_T53 y452 x5).f0,(rd_T53 y452 x5).f1,(rd_T53 y452 x5).f2,wrap64 ((wrap64 ((wrap64 (x1 + 1)) + 1)) + 1),(rd_T53 y452 x5).f4,(rd_T53 y452 x5).f5,(rd_T53 y452 x5).f6⟩:S53):List (S53))).bind fun y453 => ((some (y453.set (x5:Int).toNat (⟨(rd_T53 y453 x5).f0,(rd_T53 y453 x5).f1,(rd_T53 y453 x5).f2,(rd_T53 y453 x5).f3,wrap64 ((wrap64 ((wrap64 ((wrap64 (x1 + 1)) + 1)) + 1)) + 1),(rd_T53 y453 x5).f5,(rd_T53 y453 x5).f6⟩:S53):List (S53))).bind fun y454 => ((some (y454.set (x5:Int).toNat (⟨(rd_T53 y454 x5).f0,(rd_T53 y454 x5).f1,(rd_T53 y454 x5).f2,(rd_T53 y454 x5).f3,(rd_T53 y454 x5).f4,wrap64 ((wrap64 ((wrap64 ((wrap64 ((wrap64 (x1 + 1)) + 1)) + 1)) + 1)) + 1),(rd_T53 y454 x5).f6⟩:S53):List (S53))).bind fun y455 => ((laws_markText.f k (wrap64 ((wrap64 ((wrap64 ((wrap64 ((wrap64 ((wrap64 (x1 + 1)) + 1)) + 1)) + 1)) + 1)) + 1))).bind fun t456 => (laws_markSegmentS.l0 k (y455.set (x5:Int).toNat (⟨(rd_T53 y455 x5).f0,(rd_T53 y455 x5).f1,(rd_T53 y455 x5).f2,(rd_T53 y455 x5).f3,(rd_T53 y455 x5).f4,(rd_T53 y455 x5).f5,t456⟩:S53)) (wrap64 ((wrap64 ((wrap64 ((wrap64 ((wrap64 ((wrap64 ((wrap64 (x1 + 1)) + 1)) + 1)) + 1)) + 1)) + 1)) + 1)) (wrap64 (x5 + 1)))))))))) else (none)) else (some (x1,x0))
def laws_markSegmentS.f (k:Nat) (l0:List (S53)) (a1:Int):Option (Int × (List (S53))):=laws_markSegmentS.l0 k l0 a1 0
theorem laws_markSegmentS.mono_l:∀ k,(∀ y0 y1 y2,LeO (laws_markSegmentS.l0 k y0 y1 y2) (laws_markSegmentS.l0 (k + 1) y0 y1 y2))
 | 0 => fun _ _ _ r h => by simp [laws_markSegmentS.l0] at h
 | k + 1 => by
  have ih0:=laws_markSegmentS.mono_l k
  ·intro y0 y1 y2
   unfold laws_markSegmentS.l0
   repeat' first
   | (with_reducible exact ih0 _ _ _)
   | (with_reducible exact laws_markText.mono ..)
   | (with_reducible exact LeO.refl _)
   | (with_reducible exact LeO.none _)
   | (with_reducible refine LeO.ite ?_ ?_)
   | (with_reducible refine LeO.bind ?_ (fun _ => ?_))
   | exact ih0 _ _ _
   | exact laws_markText.mono ..
   | exact LeO.none _
   | refine LeO.ite ?_ ?_
   | refine LeO.bind ?_ (fun _ => ?_)
theorem laws_markSegmentS.mono:∀ a0 a1 k,LeO (laws_markSegmentS.f k a0 a1) (laws_markSegmentS.f (k + 1) a0 a1):=by
 intro a0 a1 k
 have ih0:=laws_markSegmentS.mono_l k
 unfold laws_markSegmentS.f
 repeat' first
   | (with_reducible exact ih0 _ _ _)
   | (with_reducible exact laws_markText.mono ..)
   | (with_reducible exact LeO.refl _)
   | (with_reducible exact LeO.none _)
   | (with_reducible refine LeO.ite ?_ ?_)
   | (with_reducible refine LeO.bind ?_ (fun _ => ?_))
   | exact ih0 _ _ _
   | exact laws_markText.mono ..
   | exact LeO.none _
   | refine LeO.ite ?_ ?_
   | refine LeO.bind ?_ (fun _ => ?_)
set_option maxHeartbeats 8000000 in
set_option maxRecDepth 100000 in
theorem laws_markSegmentS.calls (k:Nat) (P0_:Nat→Prop) (u9000_:Value) (l0:List (S53)) (a1 r1:Int) (r2:List (S53)) (w0 w:World) (hB:Below w0.heap.size w0 w) (ho0:Kd.R k53 53 w w0.heap.size P0_ u9000_ l0) (h:laws_markSegmentS.f k l0 a1 = some (r1,r2)) :
  Calls Try.prog 39 #[u9000_,.int .i64 a1] w fun e w' => e = .returned (.int .i64 r1)∧Kd.R k53 53 w' w0.heap.size (fun k_ => (P0_ k_ ∨ w.heap.size≤k_)) u9000_ r2∧Below w0.heap.size w0 w'∧Kept w w' (fun k_ => P0_ k_):=by
 have HO0:=aMk (show Kd.R k53 53 w w0.heap.size (fun k_ => (P0_ k_ ∨ w.heap.size≤k_)) u9000_ l0 from Kd.R_mono ho0 (fun k_ hk => (.inl hk)))
 have HK:=aMk (Kept.refl w (fun k_ => P0_ k_))
 have HW0:=aMk hB.size
 have HB:=aMk hB
 clear hB
 have H:=h
 unfold laws_markSegmentS.f at H
 clear h
 have H':=aMk H
 clear H
 go_enter Try.func39,Try.ntmps39
 go_wp2
 go_loopg [1,5] k (fun kq v1 v5 w' => ∃ (x0_1:List (S53)) (x1_1 x5_1:Int),v1 = .int .i64 x1_1∧v5 = .int .i64 x5_1∧Aside0 (laws_markSegmentS.l0 kq x0_1 x1_1 x5_1 = some (r1,r2))∧Aside0 (kq≤k)∧Aside0 (Kd.R k53 53 w' w0.heap.size (fun k_ => (P0_ k_ ∨ w.heap.size≤k_)) u9000_ x0_1)∧Aside0 (Kept w w' (fun k_ => P0_ k_))∧Aside0 (Below w0.heap.size w0 w'))
 case atStart => exact ⟨(l0),(a1),(0),rfS,rfS,H',⟨Nat.le_refl _⟩,⟨kR (HO0.out)⟩,⟨by repeat (first|(with_reducible first|exact HK.out|apply Kept.alloc|apply Kept.drewN|apply Kept.drew)|exact HK.out)⟩,⟨bW⟩⟩
 case round =>
  clear H'
  obtain ⟨x0_1,x1_1,x5_1,rfl,rfl,HA,HK1,HO_0,HK,HB⟩:=hrel
  cases gk with
  | zero => exact absurd HA.out (by simp [laws_markSegmentS.l0])
  | succ k1 =>
   have H:=HA.out
   clear HA
   simp only [laws_markSegmentS.l0] at H
   by_cases c3:x5_1 < (x0_1.length:Int)
   ·rw [if_pos c3] at H
    have c3b0:decide (x5_1 < (x0_1.length:Int)) = true:=decide_eq_true c3
    clear c3
    by_cases c4:0≤x5_1
    ·rw [if_pos c4] at H
     have c4b0:decide (0≤x5_1) = true:=decide_eq_true c4
     clear c4
     obtain ⟨y450,hy450⟩:∃ y_:List (S53),y_ = (x0_1.set (x5_1:Int).toNat (⟨x1_1,(rd_T53 x0_1 x5_1).f1,(rd_T53 x0_1 x5_1).f2,(rd_T53 x0_1 x5_1).f3,(rd_T53 x0_1 x5_1).f4,(rd_T53 x0_1 x5_1).f5,(rd_T53 x0_1 x5_1).f6⟩:S53)):=⟨_,rfl⟩
     replace H:((some (y450.set (x5_1:Int).toNat (⟨(rd_T53 y450 x5_1).f0,wrap64 (x1_1 + 1),(rd_T53 y450 x5_1).f2,(rd_T53 y450 x5_1).f3,(rd_T53 y450 x5_1).f4,(rd_T53 y450 x5_1).f5,(rd_T53 y450 x5_1).f6⟩:S53):List (S53))).bind fun y451 => ((some (y451.set (x5_1:Int).toNat (⟨(rd_T53 y451 x5_1).f0,(rd_T53 y451 x5_1).f1,wrap64 ((wrap64 (x1_1 + 1)) + 1),(rd_T53 y451 x5_1).f3,(rd_T53 y451 x5_1).f4,(rd_T53 y451 x5_1).f5,(rd_T53 y451 x5_1).f6⟩:S53):List (S53))).bind fun y452 => ((some (y452.set (x5_1:Int).toNat (⟨(rd_T53 y452 x5_1).f0,(rd_T53 y452 x5_1).f1,(rd_T53 y452 x5_1).f2,wrap64 ((wrap64 ((wrap64 (x1_1 + 1)) + 1)) + 1),(rd_T53 y452 x5_1).f4,(rd_T53 y452 x5_1).f5,(rd_T53 y452 x5_1).f6⟩:S53):List (S53))).bind fun y453 => ((some (y453.set (x5_1:Int).toNat (⟨(rd_T53 y453 x5_1).f0,(rd_T53 y453 x5_1).f1,(rd_T53 y453 x5_1).f2,(rd_T53 y453 x5_1).f3,wrap64 ((wrap64 ((wrap64 ((wrap64 (x1_1 + 1)) + 1)) + 1)) + 1),(rd_T53 y453 x5_1).f5,(rd_T53 y453 x5_1).f6⟩:S53):List (S53))).bind fun y454 => ((some (y454.set (x5_1:Int).toNat (⟨(rd_T53 y454 x5_1).f0,(rd_T53 y454 x5_1).f1,(rd_T53 y454 x5_1).f2,(rd_T53 y454 x5_1).f3,(rd_T53 y454 x5_1).f4,wrap64 ((wrap64 ((wrap64 ((wrap64 ((wrap64 (x1_1 + 1)) + 1)) + 1)) + 1)) + 1),(rd_T53 y454 x5_1).f6⟩:S53):List (S53))).bind fun y455 => ((laws_markText.f k1 (wrap64 ((wrap64 ((wrap64 ((wrap64 ((wrap64 ((wrap64 (x1_1 + 1)) + 1)) + 1)) + 1)) + 1)) + 1))).bind fun t456 => (laws_markSegmentS.l0 k1 (y455.set (x5_1:Int).toNat (⟨(rd_T53 y455 x5_1).f0,(rd_T53 y455 x5_1).f1,(rd_T53 y455 x5_1).f2,(rd_T53 y455 x5_1).f3,(rd_T53 y455 x5_1).f4,(rd_T53 y455 x5_1).f5,t456⟩:S53)) (wrap64 ((wrap64 ((wrap64 ((wrap64 ((wrap64 ((wrap64 ((wrap64 (x1_1 + 1)) + 1)) + 1)) + 1)) + 1)) + 1)) + 1)) (wrap64 (x5_1 + 1))))))))) = some (r1,r2):=by first|(rw [hy450];with_reducible exact H)|(have H2_:=(Option.bind_some _ _).symm.trans H;rw [hy450];with_reducible exact H2_)|(have H2_:=(Option.bind_some _ _).symm.trans H;with_reducible exact H2_) | with_reducible exact H|(rw [hy450];exact H)|exact H
     have Ny450:=aMk hy450
     clear hy450
     obtain ⟨y451,hy451⟩:∃ y_:List (S53),y_ = (y450.set (x5_1:Int).toNat (⟨(rd_T53 y450 x5_1).f0,wrap64 (x1_1 + 1),(rd_T53 y450 x5_1).f2,(rd_T53 y450 x5_1).f3,(rd_T53 y450 x5_1).f4,(rd_T53 y450 x5_1).f5,(rd_T53 y450 x5_1).f6⟩:S53)):=⟨_,rfl⟩
     replace H:((some (y451.set (x5_1:Int).toNat (⟨(rd_T53 y451 x5_1).f0,(rd_T53 y451 x5_1).f1,wrap64 ((wrap64 (x1_1 + 1)) + 1),(rd_T53 y451 x5_1).f3,(rd_T53 y451 x5_1).f4,(rd_T53 y451 x5_1).f5,(rd_T53 y451 x5_1).f6⟩:S53):List (S53))).bind fun y452 => ((some (y452.set (x5_1:Int).toNat (⟨(rd_T53 y452 x5_1).f0,(rd_T53 y452 x5_1).f1,(rd_T53 y452 x5_1).f2,wrap64 ((wrap64 ((wrap64 (x1_1 + 1)) + 1)) + 1),(rd_T53 y452 x5_1).f4,(rd_T53 y452 x5_1).f5,(rd_T53 y452 x5_1).f6⟩:S53):List (S53))).bind fun y453 => ((some (y453.set (x5_1:Int).toNat (⟨(rd_T53 y453 x5_1).f0,(rd_T53 y453 x5_1).f1,(rd_T53 y453 x5_1).f2,(rd_T53 y453 x5_1).f3,wrap64 ((wrap64 ((wrap64 ((wrap64 (x1_1 + 1)) + 1)) + 1)) + 1),(rd_T53 y453 x5_1).f5,(rd_T53 y453 x5_1).f6⟩:S53):List (S53))).bind fun y454 => ((some (y454.set (x5_1:Int).toNat (⟨(rd_T53 y454 x5_1).f0,(rd_T53 y454 x5_1).f1,(rd_T53 y454 x5_1).f2,(rd_T53 y454 x5_1).f3,(rd_T53 y454 x5_1).f4,wrap64 ((wrap64 ((wrap64 ((wrap64 ((wrap64 (x1_1 + 1)) + 1)) + 1)) + 1)) + 1),(rd_T53 y454 x5_1).f6⟩:S53):List (S53))).bind fun y455 => ((laws_markText.f k1 (wrap64 ((wrap64 ((wrap64 ((wrap64 ((wrap64 ((wrap64 (x1_1 + 1)) + 1)) + 1)) + 1)) + 1)) + 1))).bind fun t456 => (laws_markSegmentS.l0 k1 (y455.set (x5_1:Int).toNat (⟨(rd_T53 y455 x5_1).f0,(rd_T53 y455 x5_1).f1,(rd_T53 y455 x5_1).f2,(rd_T53 y455 x5_1).f3,(rd_T53 y455 x5_1).f4,(rd_T53 y455 x5_1).f5,t456⟩:S53)) (wrap64 ((wrap64 ((wrap64 ((wrap64 ((wrap64 ((wrap64 ((wrap64 (x1_1 + 1)) + 1)) + 1)) + 1)) + 1)) + 1)) + 1)) (wrap64 (x5_1 + 1)))))))) = some (r1,r2):=by first|(rw [hy451];with_reducible exact H)|(have H2_:=(Option.bind_some _ _).symm.trans H;rw [hy451];with_reducible exact H2_)|(have H2_:=(Option.bind_some _ _).symm.trans H;with_reducible exact H2_) | with_reducible exact H|(rw [hy451];exact H)|exact H
     have Ny451:=aMk hy451
     clear hy451
     obtain ⟨y452,hy452⟩:∃ y_:List (S53),y_ = (y451.set (x5_1:Int).toNat (⟨(rd_T53 y451 x5_1).f0,(rd_T53 y451 x5_1).f1,wrap64 ((wrap64 (x1_1 + 1)) + 1),(rd_T53 y451 x5_1).f3,(rd_T53 y451 x5_1).f4,(rd_T53 y451 x5_1).f5,(rd_T53 y451 x5_1).f6⟩:S53)):=⟨_,rfl⟩
     replace H:((some (y452.set (x5_1:Int).toNat (⟨(rd_T53 y452 x5_1).f0,(rd_T53 y452 x5_1).f1,(rd_T53 y452 x5_1).f2,wrap64 ((wrap64 ((wrap64 (x1_1 + 1)) + 1)) + 1),(rd_T53 y452 x5_1).f4,(rd_T53 y452 x5_1).f5,(rd_T53 y452 x5_1).f6⟩:S53):List (S53))).bind fun y453 => ((some (y453.set (x5_1:Int).toNat (⟨(rd_T53 y453 x5_1).f0,(rd_T53 y453 x5_1).f1,(rd_T53 y453 x5_1).f2,(rd_T53 y453 x5_1).f3,wrap64 ((wrap64 ((wrap64 ((wrap64 (x1_1 + 1)) + 1)) + 1)) + 1),(rd_T53 y453 x5_1).f5,(rd_T53 y453 x5_1).f6⟩:S53):List (S53))).bind fun y454 => ((some (y454.set (x5_1:Int).toNat (⟨(rd_T53 y454 x5_1).f0,(rd_T53 y454 x5_1).f1,(rd_T53 y454 x5_1).f2,(rd_T53 y454 x5_1).f3,(rd_T53 y454 x5_1).f4,wrap64 ((wrap64 ((wrap64 ((wrap64 ((wrap64 (x1_1 + 1)) + 1)) + 1)) + 1)) + 1),(rd_T53 y454 x5_1).f6⟩:S53):List (S53))).bind fun y455 => ((laws_markText.f k1 (wrap64 ((wrap64 ((wrap64 ((wrap64 ((wrap64 ((wrap64 (x1_1 + 1)) + 1)) + 1)) + 1)) + 1)) + 1))).bind fun t456 => (laws_markSegmentS.l0 k1 (y455.set (x5_1:Int).toNat (⟨(rd_T53 y455 x5_1).f0,(rd_T53 y455 x5_1).f1,(rd_T53 y455 x5_1).f2,(rd_T53 y455 x5_1).f3,(rd_T53 y455 x5_1).f4,(rd_T53 y455 x5_1).f5,t456⟩:S53)) (wrap64 ((wrap64 ((wrap64 ((wrap64 ((wrap64 ((wrap64 ((wrap64 (x1_1 + 1)) + 1)) + 1)) + 1)) + 1)) + 1)) + 1)) (wrap64 (x5_1 + 1))))))) = some (r1,r2):=by first|(rw [hy452];with_reducible exact H)|(have H2_:=(Option.bind_some _ _).symm.trans H;rw [hy452];with_reducible exact H2_)|(have H2_:=(Option.bind_some _ _).symm.trans H;with_reducible exact H2_) | with_reducible exact H|(rw [hy452];exact H)|exact H
     have Ny452:=aMk hy452
     clear hy452
     obtain ⟨y453,hy453⟩:∃ y_:List (S53),y_ = (y452.set (x5_1:Int).toNat (⟨(rd_T53 y452 x5_1).f0,(rd_T53 y452 x5_1).f1,(rd_T53 y452 x5_1).f2,wrap64 ((wrap64 ((wrap64 (x1_1 + 1)) + 1)) + 1),(rd_T53 y452 x5_1).f4,(rd_T53 y452 x5_1).f5,(rd_T53 y452 x5_1).f6⟩:S53)):=⟨_,rfl⟩
     replace H:((some (y453.set (x5_1:Int).toNat (⟨(rd_T53 y453 x5_1).f0,(rd_T53 y453 x5_1).f1,(rd_T53 y453 x5_1).f2,(rd_T53 y453 x5_1).f3,wrap64 ((wrap64 ((wrap64 ((wrap64 (x1_1 + 1)) + 1)) + 1)) + 1),(rd_T53 y453 x5_1).f5,(rd_T53 y453 x5_1).f6⟩:S53):List (S53))).bind fun y454 => ((some (y454.set (x5_1:Int).toNat (⟨(rd_T53 y454 x5_1).f0,(rd_T53 y454 x5_1).f1,(rd_T53 y454 x5_1).f2,(rd_T53 y454 x5_1).f3,(rd_T53 y454 x5_1).f4,wrap64 ((wrap64 ((wrap64 ((wrap64 ((wrap64 (x1_1 + 1)) + 1)) + 1)) + 1)) + 1),(rd_T53 y454 x5_1).f6⟩:S53):List (S53))).bind fun y455 => ((laws_markText.f k1 (wrap64 ((wrap64 ((wrap64 ((wrap64 ((wrap64 ((wrap64 (x1_1 + 1)) + 1)) + 1)) + 1)) + 1)) + 1))).bind fun t456 => (laws_markSegmentS.l0 k1 (y455.set (x5_1:Int).toNat (⟨(rd_T53 y455 x5_1).f0,(rd_T53 y455 x5_1).f1,(rd_T53 y455 x5_1).f2,(rd_T53 y455 x5_1).f3,(rd_T53 y455 x5_1).f4,(rd_T53 y455 x5_1).f5,t456⟩:S53)) (wrap64 ((wrap64 ((wrap64 ((wrap64 ((wrap64 ((wrap64 ((wrap64 (x1_1 + 1)) + 1)) + 1)) + 1)) + 1)) + 1)) + 1)) (wrap64 (x5_1 + 1)))))) = some (r1,r2):=by first|(rw [hy453];with_reducible exact H)|(have H2_:=(Option.bind_some _ _).symm.trans H;rw [hy453];with_reducible exact H2_)|(have H2_:=(Option.bind_some _ _).symm.trans H;with_reducible exact H2_) | with_reducible exact H|(rw [hy453];exact H)|exact H
     have Ny453:=aMk hy453
     clear hy453
     obtain ⟨y454,hy454⟩:∃ y_:List (S53),y_ = (y453.set (x5_1:Int).toNat (⟨(rd_T53 y453 x5_1).f0,(rd_T53 y453 x5_1).f1,(rd_T53 y453 x5_1).f2,(rd_T53 y453 x5_1).f3,wrap64 ((wrap64 ((wrap64 ((wrap64 (x1_1 + 1)) + 1)) + 1)) + 1),(rd_T53 y453 x5_1).f5,(rd_T53 y453 x5_1).f6⟩:S53)):=⟨_,rfl⟩
     replace H:((some (y454.set (x5_1:Int).toNat (⟨(rd_T53 y454 x5_1).f0,(rd_T53 y454 x5_1).f1,(rd_T53 y454 x5_1).f2,(rd_T53 y454 x5_1).f3,(rd_T53 y454 x5_1).f4,wrap64 ((wrap64 ((wrap64 ((wrap64 ((wrap64 (x1_1 + 1)) + 1)) + 1)) + 1)) + 1),(rd_T53 y454 x5_1).f6⟩:S53):List (S53))).bind fun y455 => ((laws_markText.f k1 (wrap64 ((wrap64 ((wrap64 ((wrap64 ((wrap64 ((wrap64 (x1_1 + 1)) + 1)) + 1)) + 1)) + 1)) + 1))).bind fun t456 => (laws_markSegmentS.l0 k1 (y455.set (x5_1:Int).toNat (⟨(rd_T53 y455 x5_1).f0,(rd_T53 y455 x5_1).f1,(rd_T53 y455 x5_1).f2,(rd_T53 y455 x5_1).f3,(rd_T53 y455 x5_1).f4,(rd_T53 y455 x5_1).f5,t456⟩:S53)) (wrap64 ((wrap64 ((wrap64 ((wrap64 ((wrap64 ((wrap64 ((wrap64 (x1_1 + 1)) + 1)) + 1)) + 1)) + 1)) + 1)) + 1)) (wrap64 (x5_1 + 1))))) = some (r1,r2):=by first|(rw [hy454];with_reducible exact H)|(have H2_:=(Option.bind_some _ _).symm.trans H;rw [hy454];with_reducible exact H2_)|(have H2_:=(Option.bind_some _ _).symm.trans H;with_reducible exact H2_) | with_reducible exact H|(rw [hy454];exact H)|exact H
     have Ny454:=aMk hy454
     clear hy454
     obtain ⟨y455,hy455⟩:∃ y_:List (S53),y_ = (y454.set (x5_1:Int).toNat (⟨(rd_T53 y454 x5_1).f0,(rd_T53 y454 x5_1).f1,(rd_T53 y454 x5_1).f2,(rd_T53 y454 x5_1).f3,(rd_T53 y454 x5_1).f4,wrap64 ((wrap64 ((wrap64 ((wrap64 ((wrap64 (x1_1 + 1)) + 1)) + 1)) + 1)) + 1),(rd_T53 y454 x5_1).f6⟩:S53)):=⟨_,rfl⟩
     replace H:((laws_markText.f k1 (wrap64 ((wrap64 ((wrap64 ((wrap64 ((wrap64 ((wrap64 (x1_1 + 1)) + 1)) + 1)) + 1)) + 1)) + 1))).bind fun t456 => (laws_markSegmentS.l0 k1 (y455.set (x5_1:Int).toNat (⟨(rd_T53 y455 x5_1).f0,(rd_T53 y455 x5_1).f1,(rd_T53 y455 x5_1).f2,(rd_T53 y455 x5_1).f3,(rd_T53 y455 x5_1).f4,(rd_T53 y455 x5_1).f5,t456⟩:S53)) (wrap64 ((wrap64 ((wrap64 ((wrap64 ((wrap64 ((wrap64 ((wrap64 (x1_1 + 1)) + 1)) + 1)) + 1)) + 1)) + 1)) + 1)) (wrap64 (x5_1 + 1)))) = some (r1,r2):=by first|(rw [hy455];with_reducible exact H)|(have H2_:=(Option.bind_some _ _).symm.trans H;rw [hy455];with_reducible exact H2_)|(have H2_:=(Option.bind_some _ _).symm.trans H;with_reducible exact H2_) | with_reducible exact H|(rw [hy455];exact H)|exact H
     have Ny455:=aMk hy455
     clear hy455
     replace H:=Option.bind_eq_some_iff.mp H
     obtain ⟨t456,A110,H⟩:=H
     try dsimp only at H
     have A11:=aMk A110
     clear A110
     obtain ⟨y457,hy457⟩:∃ y_:List (S53),y_ = (y455.set (x5_1:Int).toNat (⟨(rd_T53 y455 x5_1).f0,(rd_T53 y455 x5_1).f1,(rd_T53 y455 x5_1).f2,(rd_T53 y455 x5_1).f3,(rd_T53 y455 x5_1).f4,(rd_T53 y455 x5_1).f5,t456⟩:S53)):=⟨_,rfl⟩
     replace H:(laws_markSegmentS.l0 k1 y457 (wrap64 ((wrap64 ((wrap64 ((wrap64 ((wrap64 ((wrap64 ((wrap64 (x1_1 + 1)) + 1)) + 1)) + 1)) + 1)) + 1)) + 1)) (wrap64 (x5_1 + 1))) = some (r1,r2):=by first|(rw [hy457];with_reducible exact H)|(have H2_:=(Option.bind_some _ _).symm.trans H;rw [hy457];with_reducible exact H2_)|(have H2_:=(Option.bind_some _ _).symm.trans H;with_reducible exact H2_) | with_reducible exact H|(rw [hy457];exact H)|exact H
     have Ny457:=aMk hy457
     clear hy457
     have H':=aMk H
     clear H
     obtain ⟨Ao13,co13,eo13⟩:=Kd.R_slice HO_0.out
     subst eo13
     have p5:0≤(x5_1:Int):=of_decide_eq_true (by first|(with_reducible assumption) | assumption)
     have q5:(x5_1:Int) < ((x0_1.length:Int):Int):=of_decide_eq_true (by first|(with_reducible assumption) | assumption)
     obtain ⟨go5,co5,eo5,gb5,gl5,cl5,HG5⟩:=Kd.R_form HO_0.out (by omega)
     (first|cases eo5|(injection eo5 with ea_ en_ ec_;(first|subst ea_|(injection ea_ with ea_;subst ea_));subst ec_;clear en_))
     have GB5:=aMk gb5
     have GG5:=aMk HG5
     clear gb5 gl5 HG5
     have HMgo5:=aMk (show (P0_ go5 ∨ w.heap.size≤go5) from (HO_0.out.1 _ rfl))
     obtain ⟨ce5,hcl5,hM5,hcc5,hfr5⟩:=Kd.R_elem HO_0.out z53 (x5_1:Int) p5 q5
     obtain rfl:=k53_openM hM5
     have hx5_0:wr.cell? ⟨go5,(x5_1:Int).toNat * 7,none⟩ = some (.int .i64 ((rd_T53 x0_1 x5_1).f0)):=hcc5 0 _ rfl
     have hx5_1:wr.cell? ⟨go5,(x5_1:Int).toNat * 7 + 1,none⟩ = some (.int .i64 ((rd_T53 x0_1 x5_1).f1)):=hcc5 1 _ rfl
     have hx5_2:wr.cell? ⟨go5,(x5_1:Int).toNat * 7 + 2,none⟩ = some (.int .i64 ((rd_T53 x0_1 x5_1).f2)):=hcc5 2 _ rfl
     have hx5_3:wr.cell? ⟨go5,(x5_1:Int).toNat * 7 + 3,none⟩ = some (.int .i64 ((rd_T53 x0_1 x5_1).f3)):=hcc5 3 _ rfl
     have hx5_4:wr.cell? ⟨go5,(x5_1:Int).toNat * 7 + 4,none⟩ = some (.int .i64 ((rd_T53 x0_1 x5_1).f4)):=hcc5 4 _ rfl
     have hx5_5:wr.cell? ⟨go5,(x5_1:Int).toNat * 7 + 5,none⟩ = some (.int .i64 ((rd_T53 x0_1 x5_1).f5)):=hcc5 5 _ rfl
     have hx5_6:wr.cell? ⟨go5,(x5_1:Int).toNat * 7 + 6,none⟩ = some (.string ((rd_T53 x0_1 x5_1).f6)):=hcc5 6 _ rfl
     have hf5_0:wr.frozen? ⟨go5,(x5_1:Int).toNat * 7,none⟩ = false:=hfr5 0
     have hf5_1:wr.frozen? ⟨go5,(x5_1:Int).toNat * 7 + 1,none⟩ = false:=hfr5 1
     have hf5_2:wr.frozen? ⟨go5,(x5_1:Int).toNat * 7 + 2,none⟩ = false:=hfr5 2
     have hf5_3:wr.frozen? ⟨go5,(x5_1:Int).toNat * 7 + 3,none⟩ = false:=hfr5 3
     have hf5_4:wr.frozen? ⟨go5,(x5_1:Int).toNat * 7 + 4,none⟩ = false:=hfr5 4
     have hf5_5:wr.frozen? ⟨go5,(x5_1:Int).toNat * 7 + 5,none⟩ = false:=hfr5 5
     have hf5_6:wr.frozen? ⟨go5,(x5_1:Int).toNat * 7 + 6,none⟩ = false:=hfr5 6
     clear hcl5 hcc5 hfr5 hM5
     replace p5:=eq_true p5
     replace q5:=eq_true q5
     have HX14:=aMk (show Kd.R k53 53 wr w0.heap.size (fun k_ => (P0_ k_ ∨ w.heap.size≤k_)) (.slice (some ⟨go5,0,none⟩) x0_1.length co13) x0_1 from (kR (HO_0.out)))
     obtain ⟨ce14,hcl14,hM14,hcc14,hfr14⟩:=Kd.R_elem HX14.out z53 (x5_1:Int) (of_decide_eq_true (by first|(with_reducible assumption) | assumption)) (by have h_:(x5_1:Int) < ((x0_1.length:Int):Int):=of_decide_eq_true (by first|(with_reducible assumption) | assumption);first|exact h_|(have e_:=(Kd.R_reads' HO_0.out).1;omega) | simpa using h_)
     obtain rfl:=k53_openM hM14
     have HP14:=Kd.R_seg HX14.out (x5_1:Int) (of_decide_eq_true (by first|(with_reducible assumption) | assumption)) (by have h_:(x5_1:Int) < ((x0_1.length:Int):Int):=of_decide_eq_true (by first|(with_reducible assumption) | assumption);first|exact h_|(have e_:=(Kd.R_reads' HO_0.out).1;omega) | simpa using h_) (seg:=[.int .i64 x1_1]) (j:=0) hcl14 hcc14 (show 1≤7 from by decide) (x':=(⟨x1_1,(rd_T53 x0_1 x5_1).f1,(rd_T53 x0_1 x5_1).f2,(rd_T53 x0_1 x5_1).f3,(rd_T53 x0_1 x5_1).f4,(rd_T53 x0_1 x5_1).f5,(rd_T53 x0_1 x5_1).f6⟩:S53)) (k53_mkM _ _ _ (⟨x1_1,(rd_T53 x0_1 x5_1).f1,(rd_T53 x0_1 x5_1).f2,(rd_T53 x0_1 x5_1).f3,(rd_T53 x0_1 x5_1).f4,(rd_T53 x0_1 x5_1).f5,(rd_T53 x0_1 x5_1).f6⟩:S53) ) (fun _ hk => hk)
     have hx14_0:=hcc14 0 _ rfl
     (try simp only [show (k53).sz = 7 from rfl,Nat.mul_one,Nat.add_zero] at hx14_0)
     have hf14_0:=hfr14 0
     (try simp only [show (k53).sz = 7 from rfl,Nat.mul_one,Nat.add_zero] at hf14_0)
     clear hcl14 hcc14 hfr14 hM14
     go_wp2_with (first|((with_reducible refine gate_store (t:=3) (p:=16) rfl ?_);refine store_event (t:=3) (p:=16) (v:=?vo_w15) (w1:=(wr.setCell ⟨go5,(x5_1:Int).toNat * 7,none⟩ (.int .i64 x1_1))) ?hg ?ho ?hn ?hr ?_;(case ho => rfl);(case hg => rfl);(case hn => rfl);(case hr => first|(go_simp;done)|(go_simp;rfl));intro w15 hw;have hg:wr.grownBy w15 (some go5):=(by rw [hw];exact HP14.2);have hp_:Kd.R k53 53 w15 w0.heap.size (fun k_ => (P0_ k_ ∨ w.heap.size≤k_)) (.slice (some ⟨go5,0,none⟩) x0_1.length co13) y450:=(by rw [hw,Ny450.out];exact HP14.1);clear HP14;replace HB:=aMk ((by rw [hw];exact below_set (HB.out) GB5.out:Below w0.heap.size w0 w15));replace HK:=aMk (Kept.of_grown (S:=(fun k_ => P0_ k_)) hg (by repeat (first|(with_reducible first|exact HK.out|apply Kept.alloc|apply Kept.drewN|apply Kept.drew)|exact HK.out)) (fun k_ e_ => (HO_0.out.1 k_ e_)));replace HO_0:=aMk (hp_);clear hg hw hp_;have p6:0≤(x5_1:Int):=of_decide_eq_true (by first|(with_reducible assumption) | assumption);have q6:(x5_1:Int) < ((x0_1.length:Int):Int):=of_decide_eq_true (by first|(with_reducible assumption) | assumption);obtain ⟨ce6,hcl6,hM6,hcc6,hfr6⟩:=Kd.R_elem HO_0.out z53 (x5_1:Int) p6 q6;obtain rfl:=k53_openM hM6;have hx6_0:w15.cell? ⟨go5,(x5_1:Int).toNat * 7,none⟩ = some (.int .i64 ((rd_T53 y450 x5_1).f0)):=hcc6 0 _ rfl;have hx6_1:w15.cell? ⟨go5,(x5_1:Int).toNat * 7 + 1,none⟩ = some (.int .i64 ((rd_T53 y450 x5_1).f1)):=hcc6 1 _ rfl;have hx6_2:w15.cell? ⟨go5,(x5_1:Int).toNat * 7 + 2,none⟩ = some (.int .i64 ((rd_T53 y450 x5_1).f2)):=hcc6 2 _ rfl;have hx6_3:w15.cell? ⟨go5,(x5_1:Int).toNat * 7 + 3,none⟩ = some (.int .i64 ((rd_T53 y450 x5_1).f3)):=hcc6 3 _ rfl;have hx6_4:w15.cell? ⟨go5,(x5_1:Int).toNat * 7 + 4,none⟩ = some (.int .i64 ((rd_T53 y450 x5_1).f4)):=hcc6 4 _ rfl;have hx6_5:w15.cell? ⟨go5,(x5_1:Int).toNat * 7 + 5,none⟩ = some (.int .i64 ((rd_T53 y450 x5_1).f5)):=hcc6 5 _ rfl;have hx6_6:w15.cell? ⟨go5,(x5_1:Int).toNat * 7 + 6,none⟩ = some (.string ((rd_T53 y450 x5_1).f6)):=hcc6 6 _ rfl;have hf6_0:w15.frozen? ⟨go5,(x5_1:Int).toNat * 7,none⟩ = false:=hfr6 0;have hf6_1:w15.frozen? ⟨go5,(x5_1:Int).toNat * 7 + 1,none⟩ = false:=hfr6 1;have hf6_2:w15.frozen? ⟨go5,(x5_1:Int).toNat * 7 + 2,none⟩ = false:=hfr6 2;have hf6_3:w15.frozen? ⟨go5,(x5_1:Int).toNat * 7 + 3,none⟩ = false:=hfr6 3;have hf6_4:w15.frozen? ⟨go5,(x5_1:Int).toNat * 7 + 4,none⟩ = false:=hfr6 4;have hf6_5:w15.frozen? ⟨go5,(x5_1:Int).toNat * 7 + 5,none⟩ = false:=hfr6 5;have hf6_6:w15.frozen? ⟨go5,(x5_1:Int).toNat * 7 + 6,none⟩ = false:=hfr6 6;clear hcl6 hcc6 hfr6 hM6;replace p6:=eq_true p6;replace q6:=eq_true q6;have HX16:=aMk (show Kd.R k53 53 w15 w0.heap.size (fun k_ => (P0_ k_ ∨ w.heap.size≤k_)) (.slice (some ⟨go5,0,none⟩) x0_1.length co13) y450 from (kR (HO_0.out)));obtain ⟨ce16,hcl16,hM16,hcc16,hfr16⟩:=Kd.R_elem HX16.out z53 (x5_1:Int) (of_decide_eq_true (by first|(with_reducible assumption) | assumption)) (by have h_:(x5_1:Int) < ((x0_1.length:Int):Int):=of_decide_eq_true (by first|(with_reducible assumption) | assumption);first|exact h_|(have e_:=(Kd.R_reads' HO_0.out).1;omega) | simpa using h_);obtain rfl:=k53_openM hM16;have HP16:=Kd.R_seg HX16.out (x5_1:Int) (of_decide_eq_true (by first|(with_reducible assumption) | assumption)) (by have h_:(x5_1:Int) < ((x0_1.length:Int):Int):=of_decide_eq_true (by first|(with_reducible assumption) | assumption);first|exact h_|(have e_:=(Kd.R_reads' HO_0.out).1;omega) | simpa using h_) (seg:=[.int .i64 (wrap64 (x1_1 + 1))]) (j:=1) hcl16 hcc16 (show 2≤7 from by decide) (x':=(⟨(rd_T53 y450 x5_1).f0,wrap64 (x1_1 + 1),(rd_T53 y450 x5_1).f2,(rd_T53 y450 x5_1).f3,(rd_T53 y450 x5_1).f4,(rd_T53 y450 x5_1).f5,(rd_T53 y450 x5_1).f6⟩:S53)) (k53_mkM _ _ _ (⟨(rd_T53 y450 x5_1).f0,wrap64 (x1_1 + 1),(rd_T53 y450 x5_1).f2,(rd_T53 y450 x5_1).f3,(rd_T53 y450 x5_1).f4,(rd_T53 y450 x5_1).f5,(rd_T53 y450 x5_1).f6⟩:S53) ) (fun _ hk => hk);have hx16_1:=hcc16 1 _ rfl;(try simp only [show (k53).sz = 7 from rfl,Nat.mul_one,Nat.add_zero] at hx16_1);have hf16_1:=hfr16 1;(try simp only [show (k53).sz = 7 from rfl,Nat.mul_one,Nat.add_zero] at hf16_1);clear hcl16 hcc16 hfr16 hM16)|((with_reducible refine gate_store (t:=3) (p:=23) rfl ?_);refine store_event (t:=3) (p:=23) (v:=?vo_w17) (w1:=(w15.setCell ⟨go5,(x5_1:Int).toNat * 7 + 1,none⟩ (.int .i64 (wrap64 (x1_1 + 1))))) ?hg ?ho ?hn ?hr ?_;(case ho => rfl);(case hg => rfl);(case hn => rfl);(case hr => first|(go_simp;done)|(go_simp;rfl));intro w17 hw;have hg:w15.grownBy w17 (some go5):=(by rw [hw];exact HP16.2);have hp_:Kd.R k53 53 w17 w0.heap.size (fun k_ => (P0_ k_ ∨ w.heap.size≤k_)) (.slice (some ⟨go5,0,none⟩) x0_1.length co13) y451:=(by rw [hw,Ny451.out];exact HP16.1);clear HP16;replace HB:=aMk ((by rw [hw];exact below_set (HB.out) GB5.out:Below w0.heap.size w0 w17));replace HK:=aMk (Kept.of_grown (S:=(fun k_ => P0_ k_)) hg (by repeat (first|(with_reducible first|exact HK.out|apply Kept.alloc|apply Kept.drewN|apply Kept.drew)|exact HK.out)) (fun k_ e_ => (HO_0.out.1 k_ e_)));replace HO_0:=aMk (hp_);clear hg hw hp_;have p7:0≤(x5_1:Int):=of_decide_eq_true (by first|(with_reducible assumption) | assumption);have q7:(x5_1:Int) < ((x0_1.length:Int):Int):=of_decide_eq_true (by first|(with_reducible assumption) | assumption);obtain ⟨ce7,hcl7,hM7,hcc7,hfr7⟩:=Kd.R_elem HO_0.out z53 (x5_1:Int) p7 q7;obtain rfl:=k53_openM hM7;have hx7_0:w17.cell? ⟨go5,(x5_1:Int).toNat * 7,none⟩ = some (.int .i64 ((rd_T53 y451 x5_1).f0)):=hcc7 0 _ rfl;have hx7_1:w17.cell? ⟨go5,(x5_1:Int).toNat * 7 + 1,none⟩ = some (.int .i64 ((rd_T53 y451 x5_1).f1)):=hcc7 1 _ rfl;have hx7_2:w17.cell? ⟨go5,(x5_1:Int).toNat * 7 + 2,none⟩ = some (.int .i64 ((rd_T53 y451 x5_1).f2)):=hcc7 2 _ rfl;have hx7_3:w17.cell? ⟨go5,(x5_1:Int).toNat * 7 + 3,none⟩ = some (.int .i64 ((rd_T53 y451 x5_1).f3)):=hcc7 3 _ rfl;have hx7_4:w17.cell? ⟨go5,(x5_1:Int).toNat * 7 + 4,none⟩ = some (.int .i64 ((rd_T53 y451 x5_1).f4)):=hcc7 4 _ rfl;have hx7_5:w17.cell? ⟨go5,(x5_1:Int).toNat * 7 + 5,none⟩ = some (.int .i64 ((rd_T53 y451 x5_1).f5)):=hcc7 5 _ rfl;have hx7_6:w17.cell? ⟨go5,(x5_1:Int).toNat * 7 + 6,none⟩ = some (.string ((rd_T53 y451 x5_1).f6)):=hcc7 6 _ rfl;have hf7_0:w17.frozen? ⟨go5,(x5_1:Int).toNat * 7,none⟩ = false:=hfr7 0;have hf7_1:w17.frozen? ⟨go5,(x5_1:Int).toNat * 7 + 1,none⟩ = false:=hfr7 1;have hf7_2:w17.frozen? ⟨go5,(x5_1:Int).toNat * 7 + 2,none⟩ = false:=hfr7 2;have hf7_3:w17.frozen? ⟨go5,(x5_1:Int).toNat * 7 + 3,none⟩ = false:=hfr7 3;have hf7_4:w17.frozen? ⟨go5,(x5_1:Int).toNat * 7 + 4,none⟩ = false:=hfr7 4;have hf7_5:w17.frozen? ⟨go5,(x5_1:Int).toNat * 7 + 5,none⟩ = false:=hfr7 5;have hf7_6:w17.frozen? ⟨go5,(x5_1:Int).toNat * 7 + 6,none⟩ = false:=hfr7 6;clear hcl7 hcc7 hfr7 hM7;replace p7:=eq_true p7;replace q7:=eq_true q7;have HX18:=aMk (show Kd.R k53 53 w17 w0.heap.size (fun k_ => (P0_ k_ ∨ w.heap.size≤k_)) (.slice (some ⟨go5,0,none⟩) x0_1.length co13) y451 from (kR (HO_0.out)));obtain ⟨ce18,hcl18,hM18,hcc18,hfr18⟩:=Kd.R_elem HX18.out z53 (x5_1:Int) (of_decide_eq_true (by first|(with_reducible assumption) | assumption)) (by have h_:(x5_1:Int) < ((x0_1.length:Int):Int):=of_decide_eq_true (by first|(with_reducible assumption) | assumption);first|exact h_|(have e_:=(Kd.R_reads' HO_0.out).1;omega) | simpa using h_);obtain rfl:=k53_openM hM18;have HP18:=Kd.R_seg HX18.out (x5_1:Int) (of_decide_eq_true (by first|(with_reducible assumption) | assumption)) (by have h_:(x5_1:Int) < ((x0_1.length:Int):Int):=of_decide_eq_true (by first|(with_reducible assumption) | assumption);first|exact h_|(have e_:=(Kd.R_reads' HO_0.out).1;omega) | simpa using h_) (seg:=[.int .i64 (wrap64 ((wrap64 (x1_1 + 1)) + 1))]) (j:=2) hcl18 hcc18 (show 3≤7 from by decide) (x':=(⟨(rd_T53 y451 x5_1).f0,(rd_T53 y451 x5_1).f1,wrap64 ((wrap64 (x1_1 + 1)) + 1),(rd_T53 y451 x5_1).f3,(rd_T53 y451 x5_1).f4,(rd_T53 y451 x5_1).f5,(rd_T53 y451 x5_1).f6⟩:S53)) (k53_mkM _ _ _ (⟨(rd_T53 y451 x5_1).f0,(rd_T53 y451 x5_1).f1,wrap64 ((wrap64 (x1_1 + 1)) + 1),(rd_T53 y451 x5_1).f3,(rd_T53 y451 x5_1).f4,(rd_T53 y451 x5_1).f5,(rd_T53 y451 x5_1).f6⟩:S53) ) (fun _ hk => hk);have hx18_2:=hcc18 2 _ rfl;(try simp only [show (k53).sz = 7 from rfl,Nat.mul_one,Nat.add_zero] at hx18_2);have hf18_2:=hfr18 2;(try simp only [show (k53).sz = 7 from rfl,Nat.mul_one,Nat.add_zero] at hf18_2);clear hcl18 hcc18 hfr18 hM18)|((with_reducible refine gate_store (t:=3) (p:=30) rfl ?_);refine store_event (t:=3) (p:=30) (v:=?vo_w19) (w1:=(w17.setCell ⟨go5,(x5_1:Int).toNat * 7 + 2,none⟩ (.int .i64 (wrap64 ((wrap64 (x1_1 + 1)) + 1))))) ?hg ?ho ?hn ?hr ?_;(case ho => rfl);(case hg => rfl);(case hn => rfl);(case hr => first|(go_simp;done)|(go_simp;rfl));intro w19 hw;have hg:w17.grownBy w19 (some go5):=(by rw [hw];exact HP18.2);have hp_:Kd.R k53 53 w19 w0.heap.size (fun k_ => (P0_ k_ ∨ w.heap.size≤k_)) (.slice (some ⟨go5,0,none⟩) x0_1.length co13) y452:=(by rw [hw,Ny452.out];exact HP18.1);clear HP18;replace HB:=aMk ((by rw [hw];exact below_set (HB.out) GB5.out:Below w0.heap.size w0 w19));replace HK:=aMk (Kept.of_grown (S:=(fun k_ => P0_ k_)) hg (by repeat (first|(with_reducible first|exact HK.out|apply Kept.alloc|apply Kept.drewN|apply Kept.drew)|exact HK.out)) (fun k_ e_ => (HO_0.out.1 k_ e_)));replace HO_0:=aMk (hp_);clear hg hw hp_;have p8:0≤(x5_1:Int):=of_decide_eq_true (by first|(with_reducible assumption) | assumption);have q8:(x5_1:Int) < ((x0_1.length:Int):Int):=of_decide_eq_true (by first|(with_reducible assumption) | assumption);obtain ⟨ce8,hcl8,hM8,hcc8,hfr8⟩:=Kd.R_elem HO_0.out z53 (x5_1:Int) p8 q8;obtain rfl:=k53_openM hM8;have hx8_0:w19.cell? ⟨go5,(x5_1:Int).toNat * 7,none⟩ = some (.int .i64 ((rd_T53 y452 x5_1).f0)):=hcc8 0 _ rfl;have hx8_1:w19.cell? ⟨go5,(x5_1:Int).toNat * 7 + 1,none⟩ = some (.int .i64 ((rd_T53 y452 x5_1).f1)):=hcc8 1 _ rfl;have hx8_2:w19.cell? ⟨go5,(x5_1:Int).toNat * 7 + 2,none⟩ = some (.int .i64 ((rd_T53 y452 x5_1).f2)):=hcc8 2 _ rfl;have hx8_3:w19.cell? ⟨go5,(x5_1:Int).toNat * 7 + 3,none⟩ = some (.int .i64 ((rd_T53 y452 x5_1).f3)):=hcc8 3 _ rfl;have hx8_4:w19.cell? ⟨go5,(x5_1:Int).toNat * 7 + 4,none⟩ = some (.int .i64 ((rd_T53 y452 x5_1).f4)):=hcc8 4 _ rfl;have hx8_5:w19.cell? ⟨go5,(x5_1:Int).toNat * 7 + 5,none⟩ = some (.int .i64 ((rd_T53 y452 x5_1).f5)):=hcc8 5 _ rfl;have hx8_6:w19.cell? ⟨go5,(x5_1:Int).toNat * 7 + 6,none⟩ = some (.string ((rd_T53 y452 x5_1).f6)):=hcc8 6 _ rfl;have hf8_0:w19.frozen? ⟨go5,(x5_1:Int).toNat * 7,none⟩ = false:=hfr8 0;have hf8_1:w19.frozen? ⟨go5,(x5_1:Int).toNat * 7 + 1,none⟩ = false:=hfr8 1;have hf8_2:w19.frozen? ⟨go5,(x5_1:Int).toNat * 7 + 2,none⟩ = false:=hfr8 2;have hf8_3:w19.frozen? ⟨go5,(x5_1:Int).toNat * 7 + 3,none⟩ = false:=hfr8 3;have hf8_4:w19.frozen? ⟨go5,(x5_1:Int).toNat * 7 + 4,none⟩ = false:=hfr8 4;have hf8_5:w19.frozen? ⟨go5,(x5_1:Int).toNat * 7 + 5,none⟩ = false:=hfr8 5;have hf8_6:w19.frozen? ⟨go5,(x5_1:Int).toNat * 7 + 6,none⟩ = false:=hfr8 6;clear hcl8 hcc8 hfr8 hM8;replace p8:=eq_true p8;replace q8:=eq_true q8;have HX20:=aMk (show Kd.R k53 53 w19 w0.heap.size (fun k_ => (P0_ k_ ∨ w.heap.size≤k_)) (.slice (some ⟨go5,0,none⟩) x0_1.length co13) y452 from (kR (HO_0.out)));obtain ⟨ce20,hcl20,hM20,hcc20,hfr20⟩:=Kd.R_elem HX20.out z53 (x5_1:Int) (of_decide_eq_true (by first|(with_reducible assumption) | assumption)) (by have h_:(x5_1:Int) < ((x0_1.length:Int):Int):=of_decide_eq_true (by first|(with_reducible assumption) | assumption);first|exact h_|(have e_:=(Kd.R_reads' HO_0.out).1;omega) | simpa using h_);obtain rfl:=k53_openM hM20;have HP20:=Kd.R_seg HX20.out (x5_1:Int) (of_decide_eq_true (by first|(with_reducible assumption) | assumption)) (by have h_:(x5_1:Int) < ((x0_1.length:Int):Int):=of_decide_eq_true (by first|(with_reducible assumption) | assumption);first|exact h_|(have e_:=(Kd.R_reads' HO_0.out).1;omega) | simpa using h_) (seg:=[.int .i64 (wrap64 ((wrap64 ((wrap64 (x1_1 + 1)) + 1)) + 1))]) (j:=3) hcl20 hcc20 (show 4≤7 from by decide) (x':=(⟨(rd_T53 y452 x5_1).f0,(rd_T53 y452 x5_1).f1,(rd_T53 y452 x5_1).f2,wrap64 ((wrap64 ((wrap64 (x1_1 + 1)) + 1)) + 1),(rd_T53 y452 x5_1).f4,(rd_T53 y452 x5_1).f5,(rd_T53 y452 x5_1).f6⟩:S53)) (k53_mkM _ _ _ (⟨(rd_T53 y452 x5_1).f0,(rd_T53 y452 x5_1).f1,(rd_T53 y452 x5_1).f2,wrap64 ((wrap64 ((wrap64 (x1_1 + 1)) + 1)) + 1),(rd_T53 y452 x5_1).f4,(rd_T53 y452 x5_1).f5,(rd_T53 y452 x5_1).f6⟩:S53) ) (fun _ hk => hk);have hx20_3:=hcc20 3 _ rfl;(try simp only [show (k53).sz = 7 from rfl,Nat.mul_one,Nat.add_zero] at hx20_3);have hf20_3:=hfr20 3;(try simp only [show (k53).sz = 7 from rfl,Nat.mul_one,Nat.add_zero] at hf20_3);clear hcl20 hcc20 hfr20 hM20)|((with_reducible refine gate_store (t:=3) (p:=37) rfl ?_);refine store_event (t:=3) (p:=37) (v:=?vo_w21) (w1:=(w19.setCell ⟨go5,(x5_1:Int).toNat * 7 + 3,none⟩ (.int .i64 (wrap64 ((wrap64 ((wrap64 (x1_1 + 1)) + 1)) + 1))))) ?hg ?ho ?hn ?hr ?_;(case ho => rfl);(case hg => rfl);(case hn => rfl);(case hr => first|(go_simp;done)|(go_simp;rfl));intro w21 hw;have hg:w19.grownBy w21 (some go5):=(by rw [hw];exact HP20.2);have hp_:Kd.R k53 53 w21 w0.heap.size (fun k_ => (P0_ k_ ∨ w.heap.size≤k_)) (.slice (some ⟨go5,0,none⟩) x0_1.length co13) y453:=(by rw [hw,Ny453.out];exact HP20.1);clear HP20;replace HB:=aMk ((by rw [hw];exact below_set (HB.out) GB5.out:Below w0.heap.size w0 w21));replace HK:=aMk (Kept.of_grown (S:=(fun k_ => P0_ k_)) hg (by repeat (first|(with_reducible first|exact HK.out|apply Kept.alloc|apply Kept.drewN|apply Kept.drew)|exact HK.out)) (fun k_ e_ => (HO_0.out.1 k_ e_)));replace HO_0:=aMk (hp_);clear hg hw hp_;have p9:0≤(x5_1:Int):=of_decide_eq_true (by first|(with_reducible assumption) | assumption);have q9:(x5_1:Int) < ((x0_1.length:Int):Int):=of_decide_eq_true (by first|(with_reducible assumption) | assumption);obtain ⟨ce9,hcl9,hM9,hcc9,hfr9⟩:=Kd.R_elem HO_0.out z53 (x5_1:Int) p9 q9;obtain rfl:=k53_openM hM9;have hx9_0:w21.cell? ⟨go5,(x5_1:Int).toNat * 7,none⟩ = some (.int .i64 ((rd_T53 y453 x5_1).f0)):=hcc9 0 _ rfl;have hx9_1:w21.cell? ⟨go5,(x5_1:Int).toNat * 7 + 1,none⟩ = some (.int .i64 ((rd_T53 y453 x5_1).f1)):=hcc9 1 _ rfl;have hx9_2:w21.cell? ⟨go5,(x5_1:Int).toNat * 7 + 2,none⟩ = some (.int .i64 ((rd_T53 y453 x5_1).f2)):=hcc9 2 _ rfl;have hx9_3:w21.cell? ⟨go5,(x5_1:Int).toNat * 7 + 3,none⟩ = some (.int .i64 ((rd_T53 y453 x5_1).f3)):=hcc9 3 _ rfl;have hx9_4:w21.cell? ⟨go5,(x5_1:Int).toNat * 7 + 4,none⟩ = some (.int .i64 ((rd_T53 y453 x5_1).f4)):=hcc9 4 _ rfl;have hx9_5:w21.cell? ⟨go5,(x5_1:Int).toNat * 7 + 5,none⟩ = some (.int .i64 ((rd_T53 y453 x5_1).f5)):=hcc9 5 _ rfl;have hx9_6:w21.cell? ⟨go5,(x5_1:Int).toNat * 7 + 6,none⟩ = some (.string ((rd_T53 y453 x5_1).f6)):=hcc9 6 _ rfl;have hf9_0:w21.frozen? ⟨go5,(x5_1:Int).toNat * 7,none⟩ = false:=hfr9 0;have hf9_1:w21.frozen? ⟨go5,(x5_1:Int).toNat * 7 + 1,none⟩ = false:=hfr9 1;have hf9_2:w21.frozen? ⟨go5,(x5_1:Int).toNat * 7 + 2,none⟩ = false:=hfr9 2;have hf9_3:w21.frozen? ⟨go5,(x5_1:Int).toNat * 7 + 3,none⟩ = false:=hfr9 3;have hf9_4:w21.frozen? ⟨go5,(x5_1:Int).toNat * 7 + 4,none⟩ = false:=hfr9 4;have hf9_5:w21.frozen? ⟨go5,(x5_1:Int).toNat * 7 + 5,none⟩ = false:=hfr9 5;have hf9_6:w21.frozen? ⟨go5,(x5_1:Int).toNat * 7 + 6,none⟩ = false:=hfr9 6;clear hcl9 hcc9 hfr9 hM9;replace p9:=eq_true p9;replace q9:=eq_true q9;have HX22:=aMk (show Kd.R k53 53 w21 w0.heap.size (fun k_ => (P0_ k_ ∨ w.heap.size≤k_)) (.slice (some ⟨go5,0,none⟩) x0_1.length co13) y453 from (kR (HO_0.out)));obtain ⟨ce22,hcl22,hM22,hcc22,hfr22⟩:=Kd.R_elem HX22.out z53 (x5_1:Int) (of_decide_eq_true (by first|(with_reducible assumption) | assumption)) (by have h_:(x5_1:Int) < ((x0_1.length:Int):Int):=of_decide_eq_true (by first|(with_reducible assumption) | assumption);first|exact h_|(have e_:=(Kd.R_reads' HO_0.out).1;omega) | simpa using h_);obtain rfl:=k53_openM hM22;have HP22:=Kd.R_seg HX22.out (x5_1:Int) (of_decide_eq_true (by first|(with_reducible assumption) | assumption)) (by have h_:(x5_1:Int) < ((x0_1.length:Int):Int):=of_decide_eq_true (by first|(with_reducible assumption) | assumption);first|exact h_|(have e_:=(Kd.R_reads' HO_0.out).1;omega) | simpa using h_) (seg:=[.int .i64 (wrap64 ((wrap64 ((wrap64 ((wrap64 (x1_1 + 1)) + 1)) + 1)) + 1))]) (j:=4) hcl22 hcc22 (show 5≤7 from by decide) (x':=(⟨(rd_T53 y453 x5_1).f0,(rd_T53 y453 x5_1).f1,(rd_T53 y453 x5_1).f2,(rd_T53 y453 x5_1).f3,wrap64 ((wrap64 ((wrap64 ((wrap64 (x1_1 + 1)) + 1)) + 1)) + 1),(rd_T53 y453 x5_1).f5,(rd_T53 y453 x5_1).f6⟩:S53)) (k53_mkM _ _ _ (⟨(rd_T53 y453 x5_1).f0,(rd_T53 y453 x5_1).f1,(rd_T53 y453 x5_1).f2,(rd_T53 y453 x5_1).f3,wrap64 ((wrap64 ((wrap64 ((wrap64 (x1_1 + 1)) + 1)) + 1)) + 1),(rd_T53 y453 x5_1).f5,(rd_T53 y453 x5_1).f6⟩:S53) ) (fun _ hk => hk);have hx22_4:=hcc22 4 _ rfl;(try simp only [show (k53).sz = 7 from rfl,Nat.mul_one,Nat.add_zero] at hx22_4);have hf22_4:=hfr22 4;(try simp only [show (k53).sz = 7 from rfl,Nat.mul_one,Nat.add_zero] at hf22_4);clear hcl22 hcc22 hfr22 hM22)|((with_reducible refine gate_store (t:=3) (p:=44) rfl ?_);refine store_event (t:=3) (p:=44) (v:=?vo_w23) (w1:=(w21.setCell ⟨go5,(x5_1:Int).toNat * 7 + 4,none⟩ (.int .i64 (wrap64 ((wrap64 ((wrap64 ((wrap64 (x1_1 + 1)) + 1)) + 1)) + 1))))) ?hg ?ho ?hn ?hr ?_;(case ho => rfl);(case hg => rfl);(case hn => rfl);(case hr => first|(go_simp;done)|(go_simp;rfl));intro w23 hw;have hg:w21.grownBy w23 (some go5):=(by rw [hw];exact HP22.2);have hp_:Kd.R k53 53 w23 w0.heap.size (fun k_ => (P0_ k_ ∨ w.heap.size≤k_)) (.slice (some ⟨go5,0,none⟩) x0_1.length co13) y454:=(by rw [hw,Ny454.out];exact HP22.1);clear HP22;replace HB:=aMk ((by rw [hw];exact below_set (HB.out) GB5.out:Below w0.heap.size w0 w23));replace HK:=aMk (Kept.of_grown (S:=(fun k_ => P0_ k_)) hg (by repeat (first|(with_reducible first|exact HK.out|apply Kept.alloc|apply Kept.drewN|apply Kept.drew)|exact HK.out)) (fun k_ e_ => (HO_0.out.1 k_ e_)));replace HO_0:=aMk (hp_);clear hg hw hp_;have p10:0≤(x5_1:Int):=of_decide_eq_true (by first|(with_reducible assumption) | assumption);have q10:(x5_1:Int) < ((x0_1.length:Int):Int):=of_decide_eq_true (by first|(with_reducible assumption) | assumption);obtain ⟨ce10,hcl10,hM10,hcc10,hfr10⟩:=Kd.R_elem HO_0.out z53 (x5_1:Int) p10 q10;obtain rfl:=k53_openM hM10;have hx10_0:w23.cell? ⟨go5,(x5_1:Int).toNat * 7,none⟩ = some (.int .i64 ((rd_T53 y454 x5_1).f0)):=hcc10 0 _ rfl;have hx10_1:w23.cell? ⟨go5,(x5_1:Int).toNat * 7 + 1,none⟩ = some (.int .i64 ((rd_T53 y454 x5_1).f1)):=hcc10 1 _ rfl;have hx10_2:w23.cell? ⟨go5,(x5_1:Int).toNat * 7 + 2,none⟩ = some (.int .i64 ((rd_T53 y454 x5_1).f2)):=hcc10 2 _ rfl;have hx10_3:w23.cell? ⟨go5,(x5_1:Int).toNat * 7 + 3,none⟩ = some (.int .i64 ((rd_T53 y454 x5_1).f3)):=hcc10 3 _ rfl;have hx10_4:w23.cell? ⟨go5,(x5_1:Int).toNat * 7 + 4,none⟩ = some (.int .i64 ((rd_T53 y454 x5_1).f4)):=hcc10 4 _ rfl;have hx10_5:w23.cell? ⟨go5,(x5_1:Int).toNat * 7 + 5,none⟩ = some (.int .i64 ((rd_T53 y454 x5_1).f5)):=hcc10 5 _ rfl;have hx10_6:w23.cell? ⟨go5,(x5_1:Int).toNat * 7 + 6,none⟩ = some (.string ((rd_T53 y454 x5_1).f6)):=hcc10 6 _ rfl;have hf10_0:w23.frozen? ⟨go5,(x5_1:Int).toNat * 7,none⟩ = false:=hfr10 0;have hf10_1:w23.frozen? ⟨go5,(x5_1:Int).toNat * 7 + 1,none⟩ = false:=hfr10 1;have hf10_2:w23.frozen? ⟨go5,(x5_1:Int).toNat * 7 + 2,none⟩ = false:=hfr10 2;have hf10_3:w23.frozen? ⟨go5,(x5_1:Int).toNat * 7 + 3,none⟩ = false:=hfr10 3;have hf10_4:w23.frozen? ⟨go5,(x5_1:Int).toNat * 7 + 4,none⟩ = false:=hfr10 4;have hf10_5:w23.frozen? ⟨go5,(x5_1:Int).toNat * 7 + 5,none⟩ = false:=hfr10 5;have hf10_6:w23.frozen? ⟨go5,(x5_1:Int).toNat * 7 + 6,none⟩ = false:=hfr10 6;clear hcl10 hcc10 hfr10 hM10;replace p10:=eq_true p10;replace q10:=eq_true q10;have HX24:=aMk (show Kd.R k53 53 w23 w0.heap.size (fun k_ => (P0_ k_ ∨ w.heap.size≤k_)) (.slice (some ⟨go5,0,none⟩) x0_1.length co13) y454 from (kR (HO_0.out)));obtain ⟨ce24,hcl24,hM24,hcc24,hfr24⟩:=Kd.R_elem HX24.out z53 (x5_1:Int) (of_decide_eq_true (by first|(with_reducible assumption) | assumption)) (by have h_:(x5_1:Int) < ((x0_1.length:Int):Int):=of_decide_eq_true (by first|(with_reducible assumption) | assumption);first|exact h_|(have e_:=(Kd.R_reads' HO_0.out).1;omega) | simpa using h_);obtain rfl:=k53_openM hM24;have HP24:=Kd.R_seg HX24.out (x5_1:Int) (of_decide_eq_true (by first|(with_reducible assumption) | assumption)) (by have h_:(x5_1:Int) < ((x0_1.length:Int):Int):=of_decide_eq_true (by first|(with_reducible assumption) | assumption);first|exact h_|(have e_:=(Kd.R_reads' HO_0.out).1;omega) | simpa using h_) (seg:=[.int .i64 (wrap64 ((wrap64 ((wrap64 ((wrap64 ((wrap64 (x1_1 + 1)) + 1)) + 1)) + 1)) + 1))]) (j:=5) hcl24 hcc24 (show 6≤7 from by decide) (x':=(⟨(rd_T53 y454 x5_1).f0,(rd_T53 y454 x5_1).f1,(rd_T53 y454 x5_1).f2,(rd_T53 y454 x5_1).f3,(rd_T53 y454 x5_1).f4,wrap64 ((wrap64 ((wrap64 ((wrap64 ((wrap64 (x1_1 + 1)) + 1)) + 1)) + 1)) + 1),(rd_T53 y454 x5_1).f6⟩:S53)) (k53_mkM _ _ _ (⟨(rd_T53 y454 x5_1).f0,(rd_T53 y454 x5_1).f1,(rd_T53 y454 x5_1).f2,(rd_T53 y454 x5_1).f3,(rd_T53 y454 x5_1).f4,wrap64 ((wrap64 ((wrap64 ((wrap64 ((wrap64 (x1_1 + 1)) + 1)) + 1)) + 1)) + 1),(rd_T53 y454 x5_1).f6⟩:S53) ) (fun _ hk => hk);have hx24_5:=hcc24 5 _ rfl;(try simp only [show (k53).sz = 7 from rfl,Nat.mul_one,Nat.add_zero] at hx24_5);have hf24_5:=hfr24 5;(try simp only [show (k53).sz = 7 from rfl,Nat.mul_one,Nat.add_zero] at hf24_5);clear hcl24 hcc24 hfr24 hM24)|((with_reducible refine gate_store (t:=3) (p:=51) rfl ?_);refine store_event (t:=3) (p:=51) (v:=?vo_w25) (w1:=(w23.setCell ⟨go5,(x5_1:Int).toNat * 7 + 5,none⟩ (.int .i64 (wrap64 ((wrap64 ((wrap64 ((wrap64 ((wrap64 (x1_1 + 1)) + 1)) + 1)) + 1)) + 1))))) ?hg ?ho ?hn ?hr ?_;(case ho => rfl);(case hg => rfl);(case hn => rfl);(case hr => first|(go_simp;done)|(go_simp;rfl));intro w25 hw;have hg:w23.grownBy w25 (some go5):=(by rw [hw];exact HP24.2);have hp_:Kd.R k53 53 w25 w0.heap.size (fun k_ => (P0_ k_ ∨ w.heap.size≤k_)) (.slice (some ⟨go5,0,none⟩) x0_1.length co13) y455:=(by rw [hw,Ny455.out];exact HP24.1);clear HP24;replace HB:=aMk ((by rw [hw];exact below_set (HB.out) GB5.out:Below w0.heap.size w0 w25));replace HK:=aMk (Kept.of_grown (S:=(fun k_ => P0_ k_)) hg (by repeat (first|(with_reducible first|exact HK.out|apply Kept.alloc|apply Kept.drewN|apply Kept.drew)|exact HK.out)) (fun k_ e_ => (HO_0.out.1 k_ e_)));replace HO_0:=aMk (hp_);clear hg hw hp_)|((with_reducible refine gate_callee (f:=89) rfl ?_);refine gLs 57 Try.func89 #[.int .i64 (wrap64 ((wrap64 ((wrap64 ((wrap64 ((wrap64 ((wrap64 (x1_1 + 1)) + 1)) + 1)) + 1)) + 1)) + 1))] ?_;(with_reducible refine (laws_markText.calls k1 (wrap64 ((wrap64 ((wrap64 ((wrap64 ((wrap64 ((wrap64 (x1_1 + 1)) + 1)) + 1)) + 1)) + 1)) + 1)) t456 _ A11.out).mono ?_);rintro e w26 ⟨rfl,hb⟩;refine ⟨_,rfl,?_⟩;replace HO_0:=aMk (Kd.R_below (kR (HO_0.out)) hb);replace HK:=aMk (Kept.below (S:=(fun k_ => P0_ k_)) (by repeat (first|(with_reducible first|exact HK.out|apply Kept.alloc|apply Kept.drewN|apply Kept.drew)|exact HK.out)) hb);replace HB:=aMk (bSt hb);have p12:0≤(x5_1:Int):=of_decide_eq_true (by first|(with_reducible assumption) | assumption);have q12:(x5_1:Int) < ((x0_1.length:Int):Int):=of_decide_eq_true (by first|(with_reducible assumption) | assumption);obtain ⟨ce12,hcl12,hM12,hcc12,hfr12⟩:=Kd.R_elem HO_0.out z53 (x5_1:Int) p12 q12;obtain rfl:=k53_openM hM12;have hx12_0:w26.cell? ⟨go5,(x5_1:Int).toNat * 7,none⟩ = some (.int .i64 ((rd_T53 y455 x5_1).f0)):=hcc12 0 _ rfl;have hx12_1:w26.cell? ⟨go5,(x5_1:Int).toNat * 7 + 1,none⟩ = some (.int .i64 ((rd_T53 y455 x5_1).f1)):=hcc12 1 _ rfl;have hx12_2:w26.cell? ⟨go5,(x5_1:Int).toNat * 7 + 2,none⟩ = some (.int .i64 ((rd_T53 y455 x5_1).f2)):=hcc12 2 _ rfl;have hx12_3:w26.cell? ⟨go5,(x5_1:Int).toNat * 7 + 3,none⟩ = some (.int .i64 ((rd_T53 y455 x5_1).f3)):=hcc12 3 _ rfl;have hx12_4:w26.cell? ⟨go5,(x5_1:Int).toNat * 7 + 4,none⟩ = some (.int .i64 ((rd_T53 y455 x5_1).f4)):=hcc12 4 _ rfl;have hx12_5:w26.cell? ⟨go5,(x5_1:Int).toNat * 7 + 5,none⟩ = some (.int .i64 ((rd_T53 y455 x5_1).f5)):=hcc12 5 _ rfl;have hx12_6:w26.cell? ⟨go5,(x5_1:Int).toNat * 7 + 6,none⟩ = some (.string ((rd_T53 y455 x5_1).f6)):=hcc12 6 _ rfl;have hf12_0:w26.frozen? ⟨go5,(x5_1:Int).toNat * 7,none⟩ = false:=hfr12 0;have hf12_1:w26.frozen? ⟨go5,(x5_1:Int).toNat * 7 + 1,none⟩ = false:=hfr12 1;have hf12_2:w26.frozen? ⟨go5,(x5_1:Int).toNat * 7 + 2,none⟩ = false:=hfr12 2;have hf12_3:w26.frozen? ⟨go5,(x5_1:Int).toNat * 7 + 3,none⟩ = false:=hfr12 3;have hf12_4:w26.frozen? ⟨go5,(x5_1:Int).toNat * 7 + 4,none⟩ = false:=hfr12 4;have hf12_5:w26.frozen? ⟨go5,(x5_1:Int).toNat * 7 + 5,none⟩ = false:=hfr12 5;have hf12_6:w26.frozen? ⟨go5,(x5_1:Int).toNat * 7 + 6,none⟩ = false:=hfr12 6;clear hcl12 hcc12 hfr12 hM12;replace p12:=eq_true p12;replace q12:=eq_true q12;have HX27:=aMk (show Kd.R k53 53 w26 w0.heap.size (fun k_ => (P0_ k_ ∨ w.heap.size≤k_)) (.slice (some ⟨go5,0,none⟩) x0_1.length co13) y455 from (kR (HO_0.out)));obtain ⟨ce27,hcl27,hM27,hcc27,hfr27⟩:=Kd.R_elem HX27.out z53 (x5_1:Int) (of_decide_eq_true (by first|(with_reducible assumption) | assumption)) (by have h_:(x5_1:Int) < ((x0_1.length:Int):Int):=of_decide_eq_true (by first|(with_reducible assumption) | assumption);first|exact h_|(have e_:=(Kd.R_reads' HO_0.out).1;omega) | simpa using h_);obtain rfl:=k53_openM hM27;have HP27:=Kd.R_seg HX27.out (x5_1:Int) (of_decide_eq_true (by first|(with_reducible assumption) | assumption)) (by have h_:(x5_1:Int) < ((x0_1.length:Int):Int):=of_decide_eq_true (by first|(with_reducible assumption) | assumption);first|exact h_|(have e_:=(Kd.R_reads' HO_0.out).1;omega) | simpa using h_) (seg:=[.string t456]) (j:=6) hcl27 hcc27 (show 7≤7 from by decide) (x':=(⟨(rd_T53 y455 x5_1).f0,(rd_T53 y455 x5_1).f1,(rd_T53 y455 x5_1).f2,(rd_T53 y455 x5_1).f3,(rd_T53 y455 x5_1).f4,(rd_T53 y455 x5_1).f5,t456⟩:S53)) (k53_mkM _ _ _ (⟨(rd_T53 y455 x5_1).f0,(rd_T53 y455 x5_1).f1,(rd_T53 y455 x5_1).f2,(rd_T53 y455 x5_1).f3,(rd_T53 y455 x5_1).f4,(rd_T53 y455 x5_1).f5,t456⟩:S53) ) (fun _ hk => hk);have hx27_6:=hcc27 6 _ rfl;(try simp only [show (k53).sz = 7 from rfl,Nat.mul_one,Nat.add_zero] at hx27_6);have hf27_6:=hfr27 6;(try simp only [show (k53).sz = 7 from rfl,Nat.mul_one,Nat.add_zero] at hf27_6);clear hcl27 hcc27 hfr27 hM27)|((with_reducible refine gate_store (t:=9) (p:=59) rfl ?_);refine store_event (t:=9) (p:=59) (v:=?vo_w28) (w1:=(w26.setCell ⟨go5,(x5_1:Int).toNat * 7 + 6,none⟩ (.string t456))) ?hg ?ho ?hn ?hr ?_;(case ho => rfl);(case hg => rfl);(case hn => rfl);(case hr => first|(go_simp;done)|(go_simp;rfl));intro w28 hw;have hg:w26.grownBy w28 (some go5):=(by rw [hw];exact HP27.2);have hp_:Kd.R k53 53 w28 w0.heap.size (fun k_ => (P0_ k_ ∨ w.heap.size≤k_)) (.slice (some ⟨go5,0,none⟩) x0_1.length co13) y457:=(by rw [hw,Ny457.out];exact HP27.1);clear HP27;replace HB:=aMk ((by rw [hw];exact below_set (HB.out) GB5.out:Below w0.heap.size w0 w28));replace HK:=aMk (Kept.of_grown (S:=(fun k_ => P0_ k_)) hg (by repeat (first|(with_reducible first|exact HK.out|apply Kept.alloc|apply Kept.drewN|apply Kept.drew)|exact HK.out)) (fun k_ e_ => (HO_0.out.1 k_ e_)));replace HO_0:=aMk (hp_);clear hg hw hp_))
     go_roundg k1
     case measure => have:=HK1.out;omega
     case rel => exact ⟨(y457),(wrap64 ((wrap64 ((wrap64 ((wrap64 ((wrap64 ((wrap64 ((wrap64 (x1_1 + 1)) + 1)) + 1)) + 1)) + 1)) + 1)) + 1)),(wrap64 (x5_1 + 1)),rfS,rfS,H',⟨by have:=HK1.out;omega⟩,⟨kR (HO_0.out)⟩,⟨by repeat (first|(with_reducible first|exact HK.out|apply Kept.alloc|apply Kept.drewN|apply Kept.drew)|exact HK.out)⟩,⟨bW⟩⟩
    ·rw [if_neg c4] at H
     exact absurd H (by simp)
   ·rw [if_neg c3] at H
    have c3b0:decide (x5_1 < (x0_1.length:Int)) = false:=decide_eq_false c3
    clear c3
    simp only [Option.some.injEq,Prod.mk.injEq] at H
    obtain ⟨rfl,rfl⟩:=H
    obtain ⟨Ao29,co29,eo29⟩:=Kd.R_slice HO_0.out
    subst eo29
    go_wp2
    go_ret
    exact ⟨eRf,kR (HO_0.out),bW,by repeat (first|(with_reducible first|exact HK.out|apply Kept.alloc|apply Kept.drewN|apply Kept.drew)|exact HK.out)⟩
end
section
/-! ### laws_heldSegmentS: function 40 -/
def laws_heldSegmentS.l0:Nat→List (S53)→Int→Int→Option (Int)
 | 0,_,_,_ => none
 | k + 1,x0,x1,x5 => if x5 < (x0.length:Int) then (if 0≤x5 then (if ((rd_T53 x0 x5).f0) = x1 then (if ((rd_T53 x0 x5).f1) = (wrap64 (x1 + 1)) then (if ((rd_T53 x0 x5).f2) = (wrap64 ((wrap64 (x1 + 1)) + 1)) then (if ((rd_T53 x0 x5).f3) = (wrap64 ((wrap64 ((wrap64 (x1 + 1)) + 1)) + 1)) then (if ((rd_T53 x0 x5).f4) = (wrap64 ((wrap64 ((wrap64 ((wrap64 (x1 + 1)) + 1)) + 1)) + 1)) then (if ((rd_T53 x0 x5).f5) = (wrap64 ((wrap64 ((wrap64 ((wrap64 ((wrap64 (x1 + 1)) + 1)) + 1)) + 1)) + 1)) then ((laws_markText.f k (wrap64 ((wrap64 ((wrap64 ((wrap64 ((wrap64 ((wrap64 (x1 + 1)) + 1)) + 1)) + 1)) + 1)) + 1))).bind fun t465 => (if ((rd_T53 x0 x5).f6).toList = t465.toList then (laws_heldSegmentS.l0 k x0 (wrap64 ((wrap64 ((wrap64 ((wrap64 ((wrap64 ((wrap64 ((wrap64 (x1 + 1)) + 1)) + 1)) + 1)) + 1)) + 1)) + 1)) (wrap64 (x5 + 1))) else (some (-1)))) else (some (-1))) else (some (-1))) else (some (-1))) else (some (-1))) else (some (-1))) else (some (-1))) else (none)) else (some x1)
def laws_heldSegmentS.f (k:Nat) (l0:List (S53)) (a1:Int):Option (Int):=laws_heldSegmentS.l0 k l0 a1 0
theorem laws_heldSegmentS.mono_l:∀ k,(∀ y0 y1 y2,LeO (laws_heldSegmentS.l0 k y0 y1 y2) (laws_heldSegmentS.l0 (k + 1) y0 y1 y2))
 | 0 => fun _ _ _ r h => by simp [laws_heldSegmentS.l0] at h
 | k + 1 => by
  have ih0:=laws_heldSegmentS.mono_l k
  ·intro y0 y1 y2
   unfold laws_heldSegmentS.l0
   repeat' first
   | (with_reducible exact ih0 _ _ _)
   | (with_reducible exact laws_markText.mono ..)
   | (with_reducible exact LeO.refl _)
   | (with_reducible exact LeO.none _)
   | (with_reducible refine LeO.ite ?_ ?_)
   | (with_reducible refine LeO.bind ?_ (fun _ => ?_))
   | exact ih0 _ _ _
   | exact laws_markText.mono ..
   | exact LeO.none _
   | refine LeO.ite ?_ ?_
   | refine LeO.bind ?_ (fun _ => ?_)
theorem laws_heldSegmentS.mono:∀ a0 a1 k,LeO (laws_heldSegmentS.f k a0 a1) (laws_heldSegmentS.f (k + 1) a0 a1):=by
 intro a0 a1 k
 have ih0:=laws_heldSegmentS.mono_l k
 unfold laws_heldSegmentS.f
 repeat' first
   | (with_reducible exact ih0 _ _ _)
   | (with_reducible exact laws_markText.mono ..)
   | (with_reducible exact LeO.refl _)
   | (with_reducible exact LeO.none _)
   | (with_reducible refine LeO.ite ?_ ?_)
   | (with_reducible refine LeO.bind ?_ (fun _ => ?_))
   | exact ih0 _ _ _
   | exact laws_markText.mono ..
   | exact LeO.none _
   | refine LeO.ite ?_ ?_
   | refine LeO.bind ?_ (fun _ => ?_)
def laws_heldSegmentS.T22:Bool × List (List Nat × List Nat):=(true,[([],[]),([],[]),([0,1],[0,1]),([2],[2]),([3],[3]),([],[]),([5],[5]),([4,6],[4,6])])
def laws_heldSegmentS.B22:List Nat:=[0,0,3,7,15,0,32,127]
theorem laws_heldSegmentS.tab22:rtab .any (opsOf Try.f40 22) = laws_heldSegmentS.T22:=by kernel_rfl
theorem laws_heldSegmentS.bits22:waitsOk laws_heldSegmentS.T22.2 laws_heldSegmentS.B22 = true:=by kernel_rfl
set_option maxHeartbeats 8000000 in
set_option maxRecDepth 100000 in
theorem laws_heldSegmentS.calls (k:Nat) (A0:Option Addr) (c0:Nat) (l0:List (S53)) (a1 r:Int) (w:World) (hr0:Kd.C k53 w A0 l0.length l0) (hc0:l0.length≤c0) (h:laws_heldSegmentS.f k l0 a1 = some r) :
  Calls Try.prog 40 #[.slice A0 l0.length c0,.int .i64 a1] w fun e w' => e = .returned (.int .i64 r)∧Below w.heap.size w w':=by
 have HR0:=aMk hr0
 have HC0:=aMk hc0
 clear hr0 hc0
 have HB:=aMk (Below.refl w.heap.size w)
 have H:=h
 unfold laws_heldSegmentS.f at H
 clear h
 have H':=aMk H
 clear H
 go_enter Try.func40,Try.ntmps40
 go_wp2
 go_loopg [1,5] k (fun kq v1 v5 w' => ∃ (x1_1 x5_1:Int),v1 = .int .i64 x1_1∧v5 = .int .i64 x5_1∧Aside0 (laws_heldSegmentS.l0 kq l0 x1_1 x5_1 = some r)∧Aside0 (kq≤k)∧Aside0 (Below w.heap.size w w'))
 case atStart => exact ⟨(a1),(0),rfS,rfS,H',⟨Nat.le_refl _⟩,⟨bW⟩⟩
 case round =>
  clear H'
  obtain ⟨x1_1,x5_1,rfl,rfl,HA,HK1,HB⟩:=hrel
  cases gk with
  | zero => exact absurd HA.out (by simp [laws_heldSegmentS.l0])
  | succ k1 =>
   have H:=HA.out
   clear HA
   simp only [laws_heldSegmentS.l0] at H
   by_cases c3:x5_1 < (l0.length:Int)
   ·rw [if_pos c3] at H
    have c3b0:decide (x5_1 < (l0.length:Int)) = true:=decide_eq_true c3
    clear c3
    by_cases c4:0≤x5_1
    ·rw [if_pos c4] at H
     have c4b0:decide (0≤x5_1) = true:=decide_eq_true c4
     clear c4
     by_cases c5:((rd_T53 l0 x5_1).f0) = x1_1
     ·rw [if_pos c5] at H
      have c5b0:(((rd_T53 l0 x5_1).f0) == x1_1) = true:=beq_iff_eq.mpr c5
      have c5b1:(((rd_T53 l0 x5_1).f0) != x1_1) = false:=bne_eq_false_iff_eq.mpr c5
      clear c5
      by_cases c6:((rd_T53 l0 x5_1).f1) = (wrap64 (x1_1 + 1))
      ·rw [if_pos c6] at H
       have c6b0:(((rd_T53 l0 x5_1).f1) == (wrap64 (x1_1 + 1))) = true:=beq_iff_eq.mpr c6
       have c6b1:(((rd_T53 l0 x5_1).f1) != (wrap64 (x1_1 + 1))) = false:=bne_eq_false_iff_eq.mpr c6
       clear c6
       by_cases c7:((rd_T53 l0 x5_1).f2) = (wrap64 ((wrap64 (x1_1 + 1)) + 1))
       ·rw [if_pos c7] at H
        have c7b0:(((rd_T53 l0 x5_1).f2) == (wrap64 ((wrap64 (x1_1 + 1)) + 1))) = true:=beq_iff_eq.mpr c7
        have c7b1:(((rd_T53 l0 x5_1).f2) != (wrap64 ((wrap64 (x1_1 + 1)) + 1))) = false:=bne_eq_false_iff_eq.mpr c7
        clear c7
        by_cases c8:((rd_T53 l0 x5_1).f3) = (wrap64 ((wrap64 ((wrap64 (x1_1 + 1)) + 1)) + 1))
        ·rw [if_pos c8] at H
         have c8b0:(((rd_T53 l0 x5_1).f3) == (wrap64 ((wrap64 ((wrap64 (x1_1 + 1)) + 1)) + 1))) = true:=beq_iff_eq.mpr c8
         have c8b1:(((rd_T53 l0 x5_1).f3) != (wrap64 ((wrap64 ((wrap64 (x1_1 + 1)) + 1)) + 1))) = false:=bne_eq_false_iff_eq.mpr c8
         clear c8
         by_cases c9:((rd_T53 l0 x5_1).f4) = (wrap64 ((wrap64 ((wrap64 ((wrap64 (x1_1 + 1)) + 1)) + 1)) + 1))
         ·rw [if_pos c9] at H
          have c9b0:(((rd_T53 l0 x5_1).f4) == (wrap64 ((wrap64 ((wrap64 ((wrap64 (x1_1 + 1)) + 1)) + 1)) + 1))) = true:=beq_iff_eq.mpr c9
          have c9b1:(((rd_T53 l0 x5_1).f4) != (wrap64 ((wrap64 ((wrap64 ((wrap64 (x1_1 + 1)) + 1)) + 1)) + 1))) = false:=bne_eq_false_iff_eq.mpr c9
          clear c9
          by_cases c10:((rd_T53 l0 x5_1).f5) = (wrap64 ((wrap64 ((wrap64 ((wrap64 ((wrap64 (x1_1 + 1)) + 1)) + 1)) + 1)) + 1))
          ·rw [if_pos c10] at H
           have c10b0:(((rd_T53 l0 x5_1).f5) == (wrap64 ((wrap64 ((wrap64 ((wrap64 ((wrap64 (x1_1 + 1)) + 1)) + 1)) + 1)) + 1))) = true:=beq_iff_eq.mpr c10
           have c10b1:(((rd_T53 l0 x5_1).f5) != (wrap64 ((wrap64 ((wrap64 ((wrap64 ((wrap64 (x1_1 + 1)) + 1)) + 1)) + 1)) + 1))) = false:=bne_eq_false_iff_eq.mpr c10
           clear c10
           replace H:=Option.bind_eq_some_iff.mp H
           obtain ⟨t465,A110,H⟩:=H
           try dsimp only at H
           have A11:=aMk A110
           clear A110
           by_cases c12:((rd_T53 l0 x5_1).f6).toList = t465.toList
           ·rw [if_pos c12] at H
            have c12b0:(((rd_T53 l0 x5_1).f6).toList == t465.toList) = true:=beq_iff_eq.mpr c12
            have c12b1:(((rd_T53 l0 x5_1).f6).toList != t465.toList) = false:=bne_eq_false_iff_eq.mpr c12
            clear c12
            have H':=aMk H
            clear H
            have p458:0≤(x5_1:Int):=of_decide_eq_true (by first|(with_reducible assumption) | assumption)
            have q458:x5_1 < (l0.length:Int):=of_decide_eq_true (by first|(with_reducible assumption) | assumption)
            obtain ⟨ad458,e458,hx458_0,hx458_1,hx458_2,hx458_3,hx458_4,hx458_5,hx458_6⟩:=at_T53 HR0.out x5_1 p458 q458
            cases e458
            replace hx458_0:=bXc HB.out hx458_0
            replace hx458_1:=bXc HB.out hx458_1
            replace hx458_2:=bXc HB.out hx458_2
            replace hx458_3:=bXc HB.out hx458_3
            replace hx458_4:=bXc HB.out hx458_4
            replace hx458_5:=bXc HB.out hx458_5
            replace hx458_6:=bXc HB.out hx458_6
            replace p458:=eq_true p458
            replace q458:=eq_true q458
            have p459:0≤(x5_1:Int):=of_decide_eq_true (by first|(with_reducible assumption) | assumption)
            have q459:x5_1 < (l0.length:Int):=of_decide_eq_true (by first|(with_reducible assumption) | assumption)
            obtain ⟨ad459,e459,hx459_0,hx459_1,hx459_2,hx459_3,hx459_4,hx459_5,hx459_6⟩:=at_T53 HR0.out x5_1 p459 q459
            obtain rfl:ad458 = ad459:=(by injection e459)
            replace hx459_0:=bXc HB.out hx459_0
            replace hx459_1:=bXc HB.out hx459_1
            replace hx459_2:=bXc HB.out hx459_2
            replace hx459_3:=bXc HB.out hx459_3
            replace hx459_4:=bXc HB.out hx459_4
            replace hx459_5:=bXc HB.out hx459_5
            replace hx459_6:=bXc HB.out hx459_6
            replace p459:=eq_true p459
            replace q459:=eq_true q459
            have p460:0≤(x5_1:Int):=of_decide_eq_true (by first|(with_reducible assumption) | assumption)
            have q460:x5_1 < (l0.length:Int):=of_decide_eq_true (by first|(with_reducible assumption) | assumption)
            obtain ⟨ad460,e460,hx460_0,hx460_1,hx460_2,hx460_3,hx460_4,hx460_5,hx460_6⟩:=at_T53 HR0.out x5_1 p460 q460
            obtain rfl:ad458 = ad460:=(by injection e460)
            replace hx460_0:=bXc HB.out hx460_0
            replace hx460_1:=bXc HB.out hx460_1
            replace hx460_2:=bXc HB.out hx460_2
            replace hx460_3:=bXc HB.out hx460_3
            replace hx460_4:=bXc HB.out hx460_4
            replace hx460_5:=bXc HB.out hx460_5
            replace hx460_6:=bXc HB.out hx460_6
            replace p460:=eq_true p460
            replace q460:=eq_true q460
            have p461:0≤(x5_1:Int):=of_decide_eq_true (by first|(with_reducible assumption) | assumption)
            have q461:x5_1 < (l0.length:Int):=of_decide_eq_true (by first|(with_reducible assumption) | assumption)
            obtain ⟨ad461,e461,hx461_0,hx461_1,hx461_2,hx461_3,hx461_4,hx461_5,hx461_6⟩:=at_T53 HR0.out x5_1 p461 q461
            obtain rfl:ad458 = ad461:=(by injection e461)
            replace hx461_0:=bXc HB.out hx461_0
            replace hx461_1:=bXc HB.out hx461_1
            replace hx461_2:=bXc HB.out hx461_2
            replace hx461_3:=bXc HB.out hx461_3
            replace hx461_4:=bXc HB.out hx461_4
            replace hx461_5:=bXc HB.out hx461_5
            replace hx461_6:=bXc HB.out hx461_6
            replace p461:=eq_true p461
            replace q461:=eq_true q461
            have p462:0≤(x5_1:Int):=of_decide_eq_true (by first|(with_reducible assumption) | assumption)
            have q462:x5_1 < (l0.length:Int):=of_decide_eq_true (by first|(with_reducible assumption) | assumption)
            obtain ⟨ad462,e462,hx462_0,hx462_1,hx462_2,hx462_3,hx462_4,hx462_5,hx462_6⟩:=at_T53 HR0.out x5_1 p462 q462
            obtain rfl:ad458 = ad462:=(by injection e462)
            replace hx462_0:=bXc HB.out hx462_0
            replace hx462_1:=bXc HB.out hx462_1
            replace hx462_2:=bXc HB.out hx462_2
            replace hx462_3:=bXc HB.out hx462_3
            replace hx462_4:=bXc HB.out hx462_4
            replace hx462_5:=bXc HB.out hx462_5
            replace hx462_6:=bXc HB.out hx462_6
            replace p462:=eq_true p462
            replace q462:=eq_true q462
            have p463:0≤(x5_1:Int):=of_decide_eq_true (by first|(with_reducible assumption) | assumption)
            have q463:x5_1 < (l0.length:Int):=of_decide_eq_true (by first|(with_reducible assumption) | assumption)
            obtain ⟨ad463,e463,hx463_0,hx463_1,hx463_2,hx463_3,hx463_4,hx463_5,hx463_6⟩:=at_T53 HR0.out x5_1 p463 q463
            obtain rfl:ad458 = ad463:=(by injection e463)
            replace hx463_0:=bXc HB.out hx463_0
            replace hx463_1:=bXc HB.out hx463_1
            replace hx463_2:=bXc HB.out hx463_2
            replace hx463_3:=bXc HB.out hx463_3
            replace hx463_4:=bXc HB.out hx463_4
            replace hx463_5:=bXc HB.out hx463_5
            replace hx463_6:=bXc HB.out hx463_6
            replace p463:=eq_true p463
            replace q463:=eq_true q463
            try go_wp2
            replace HB:=aMk (bw1 HB.out)
            have p464:0≤(x5_1:Int):=of_decide_eq_true (by first|(with_reducible assumption) | assumption)
            have q464:x5_1 < (l0.length:Int):=of_decide_eq_true (by first|(with_reducible assumption) | assumption)
            obtain ⟨ad464,e464,hx464_0,hx464_1,hx464_2,hx464_3,hx464_4,hx464_5,hx464_6⟩:=at_T53 HR0.out x5_1 p464 q464
            have hw464_6:=hx464_6
            have hw464_5:=hx464_5
            have hw464_4:=hx464_4
            have hw464_3:=hx464_3
            have hw464_2:=hx464_2
            have hw464_1:=hx464_1
            have hw464_0:=hx464_0
            obtain rfl:ad458 = ad464:=(by injection e464)
            replace hx464_0:=bXc HB.out hx464_0
            replace hx464_1:=bXc HB.out hx464_1
            replace hx464_2:=bXc HB.out hx464_2
            replace hx464_3:=bXc HB.out hx464_3
            replace hx464_4:=bXc HB.out hx464_4
            replace hx464_5:=bXc HB.out hx464_5
            replace hx464_6:=bXc HB.out hx464_6
            replace p464:=eq_true p464
            replace q464:=eq_true q464
            refine start_ (n:=8) (S:=fun w' => w'.cell? (ad458.add ((x5_1).toNat * 7)) = some (.int .i64 ((rd_T53 l0 x5_1).f0))∧w'.cell? ⟨(ad458.add ((x5_1).toNat * 7)).block,(ad458.add ((x5_1).toNat * 7)).off + 1,none⟩ = some (.int .i64 ((rd_T53 l0 x5_1).f1))∧w'.cell? ⟨(ad458.add ((x5_1).toNat * 7)).block,(ad458.add ((x5_1).toNat * 7)).off + 2,none⟩ = some (.int .i64 ((rd_T53 l0 x5_1).f2))∧w'.cell? ⟨(ad458.add ((x5_1).toNat * 7)).block,(ad458.add ((x5_1).toNat * 7)).off + 3,none⟩ = some (.int .i64 ((rd_T53 l0 x5_1).f3))∧w'.cell? ⟨(ad458.add ((x5_1).toNat * 7)).block,(ad458.add ((x5_1).toNat * 7)).off + 4,none⟩ = some (.int .i64 ((rd_T53 l0 x5_1).f4))∧w'.cell? ⟨(ad458.add ((x5_1).toNat * 7)).block,(ad458.add ((x5_1).toNat * 7)).off + 5,none⟩ = some (.int .i64 ((rd_T53 l0 x5_1).f5))∧w'.cell? ⟨(ad458.add ((x5_1).toNat * 7)).block,(ad458.add ((x5_1).toNat * 7)).off + 6,none⟩ = some (.string ((rd_T53 l0 x5_1).f6))) (ds:=[]) #[false,false,false,false,false,false,false,false] (by kernel_rfl) rfl rfl ⟨((HB.out.cell (wLt w _ hw464_0)).trans hw464_0),((HB.out.cell (wLt w _ hw464_1)).trans hw464_1),((HB.out.cell (wLt w _ hw464_2)).trans hw464_2),((HB.out.cell (wLt w _ hw464_3)).trans hw464_3),((HB.out.cell (wLt w _ hw464_4)).trans hw464_4),((HB.out.cell (wLt w _ hw464_5)).trans hw464_5),((HB.out.cell (wLt w _ hw464_6)).trans hw464_6)⟩ (fun hHeld => ?_);refine with_tabW laws_heldSegmentS.tab22 laws_heldSegmentS.bits22 (fun HT_ HW_ => ?_)
            generalize wr.drew = w13 at HB hx464_0 hx464_1 hx464_2 hx464_3 hx464_4 hx464_5 hx464_6 hHeld ⊢
            refine pU (i:=0) (N:=some 66) #[true,false,false,false,false,false,false,false] (any_of HT_.out (by kernel_rfl)) ?_
            refine pU (i:=1) (N:=some 67) #[true,true,false,false,false,false,false,false] (any_of HT_.out (by kernel_rfl)) ?_
            refine pU (i:=2) (N:=some 68) #[true,true,true,false,false,false,false,false] (any_of HT_.out (by kernel_rfl)) ?_
            refine pU (i:=3) (N:=some 69) #[true,true,true,true,false,false,false,false] (any_of HT_.out (by kernel_rfl)) ?_
            refine pU (i:=5) (N:=some 71) #[true,true,true,true,false,true,false,false] (any_of HT_.out (by kernel_rfl)) ?_
            refine tU7 (i:=4) (N:=some 70) #[true,true,true,true,true,true,false,false] (take_ofW HT_.out HW_.out (by kernel_rfl)) hHeld ?_
            refine one_ (i:=6) (N:=some 72) #[true,true,true,true,true,true,true,false] rfl rfl (one_of HT_.out (by kernel_rfl)) (by decide) (fun K hK => ?_)
            refine goes_ Try.func89 (by kernel_rfl) rfl #[.int .i64 (wrap64 ((wrap64 ((wrap64 ((wrap64 ((wrap64 ((wrap64 (x1_1 + 1)) + 1)) + 1)) + 1)) + 1)) + 1))] (by rfl) rfl rfl (by (try simp only [List.map_toArray,List.map_cons,List.map_nil]);first | done | rfl|(simp only [List.length_drop,List.length_take];rfl)) ?_
            with_reducible refine (laws_markText.calls k1 (wrap64 ((wrap64 ((wrap64 ((wrap64 ((wrap64 ((wrap64 (x1_1 + 1)) + 1)) + 1)) + 1)) + 1)) + 1)) t465 _ A11.out).mono ?_
            rintro e w14 ⟨rfl,hb⟩
            refine ⟨_,rfl,?_⟩
            replace HB:=aMk (bSt hb)
            (try clear hb)
            (try clear hb2)
            (try clear hk)
            (try clear hi)
            refine hK.out _ _ ⟨((HB.out.cell (wLt w _ hw464_0)).trans hw464_0),((HB.out.cell (wLt w _ hw464_1)).trans hw464_1),((HB.out.cell (wLt w _ hw464_2)).trans hw464_2),((HB.out.cell (wLt w _ hw464_3)).trans hw464_3),((HB.out.cell (wLt w _ hw464_4)).trans hw464_4),((HB.out.cell (wLt w _ hw464_5)).trans hw464_5),((HB.out.cell (wLt w _ hw464_6)).trans hw464_6)⟩ (fun hHeld => ?_)
            clear hK K
            refine norm_ (a':=?_) ?_ ?_
            rotate_left
            ·show Act.put _ (some 72) _ = _
             simp only [Act.put,List.setIfInBounds_toArray,List.set_cons_zero,List.set_cons_succ,i64_w,i32_w]
             rfl
            refine pU (i:=7) (N:=some 73) #[true,true,true,true,true,true,true,true] (any_of HT_.out (by kernel_rfl)) ?_
            refine done_ (done_of HT_.out (by kernel_rfl)) ?_
            try go_wp2
            go_roundg k1
            case measure => have:=HK1.out;omega
            case rel => exact ⟨(wrap64 ((wrap64 ((wrap64 ((wrap64 ((wrap64 ((wrap64 ((wrap64 (x1_1 + 1)) + 1)) + 1)) + 1)) + 1)) + 1)) + 1)),(wrap64 (x5_1 + 1)),rfS,rfS,H',⟨by have:=HK1.out;omega⟩,⟨bW⟩⟩
           ·rw [if_neg c12] at H
            have c12b0:(((rd_T53 l0 x5_1).f6).toList == t465.toList) = false:=beq_eq_false_iff_ne.mpr c12
            have c12b1:(((rd_T53 l0 x5_1).f6).toList != t465.toList) = true:=bne_iff_ne.mpr c12
            obtain rfl:=Option.some.inj H
            have p458:0≤(x5_1:Int):=of_decide_eq_true (by first|(with_reducible assumption) | assumption)
            have q458:x5_1 < (l0.length:Int):=of_decide_eq_true (by first|(with_reducible assumption) | assumption)
            obtain ⟨ad458,e458,hx458_0,hx458_1,hx458_2,hx458_3,hx458_4,hx458_5,hx458_6⟩:=at_T53 HR0.out x5_1 p458 q458
            cases e458
            replace hx458_0:=bXc HB.out hx458_0
            replace hx458_1:=bXc HB.out hx458_1
            replace hx458_2:=bXc HB.out hx458_2
            replace hx458_3:=bXc HB.out hx458_3
            replace hx458_4:=bXc HB.out hx458_4
            replace hx458_5:=bXc HB.out hx458_5
            replace hx458_6:=bXc HB.out hx458_6
            replace p458:=eq_true p458
            replace q458:=eq_true q458
            have p459:0≤(x5_1:Int):=of_decide_eq_true (by first|(with_reducible assumption) | assumption)
            have q459:x5_1 < (l0.length:Int):=of_decide_eq_true (by first|(with_reducible assumption) | assumption)
            obtain ⟨ad459,e459,hx459_0,hx459_1,hx459_2,hx459_3,hx459_4,hx459_5,hx459_6⟩:=at_T53 HR0.out x5_1 p459 q459
            obtain rfl:ad458 = ad459:=(by injection e459)
            replace hx459_0:=bXc HB.out hx459_0
            replace hx459_1:=bXc HB.out hx459_1
            replace hx459_2:=bXc HB.out hx459_2
            replace hx459_3:=bXc HB.out hx459_3
            replace hx459_4:=bXc HB.out hx459_4
            replace hx459_5:=bXc HB.out hx459_5
            replace hx459_6:=bXc HB.out hx459_6
            replace p459:=eq_true p459
            replace q459:=eq_true q459
            have p460:0≤(x5_1:Int):=of_decide_eq_true (by first|(with_reducible assumption) | assumption)
            have q460:x5_1 < (l0.length:Int):=of_decide_eq_true (by first|(with_reducible assumption) | assumption)
            obtain ⟨ad460,e460,hx460_0,hx460_1,hx460_2,hx460_3,hx460_4,hx460_5,hx460_6⟩:=at_T53 HR0.out x5_1 p460 q460
            obtain rfl:ad458 = ad460:=(by injection e460)
            replace hx460_0:=bXc HB.out hx460_0
            replace hx460_1:=bXc HB.out hx460_1
            replace hx460_2:=bXc HB.out hx460_2
            replace hx460_3:=bXc HB.out hx460_3
            replace hx460_4:=bXc HB.out hx460_4
            replace hx460_5:=bXc HB.out hx460_5
            replace hx460_6:=bXc HB.out hx460_6
            replace p460:=eq_true p460
            replace q460:=eq_true q460
            have p461:0≤(x5_1:Int):=of_decide_eq_true (by first|(with_reducible assumption) | assumption)
            have q461:x5_1 < (l0.length:Int):=of_decide_eq_true (by first|(with_reducible assumption) | assumption)
            obtain ⟨ad461,e461,hx461_0,hx461_1,hx461_2,hx461_3,hx461_4,hx461_5,hx461_6⟩:=at_T53 HR0.out x5_1 p461 q461
            obtain rfl:ad458 = ad461:=(by injection e461)
            replace hx461_0:=bXc HB.out hx461_0
            replace hx461_1:=bXc HB.out hx461_1
            replace hx461_2:=bXc HB.out hx461_2
            replace hx461_3:=bXc HB.out hx461_3
            replace hx461_4:=bXc HB.out hx461_4
            replace hx461_5:=bXc HB.out hx461_5
            replace hx461_6:=bXc HB.out hx461_6
            replace p461:=eq_true p461
            replace q461:=eq_true q461
            have p462:0≤(x5_1:Int):=of_decide_eq_true (by first|(with_reducible assumption) | assumption)
            have q462:x5_1 < (l0.length:Int):=of_decide_eq_true (by first|(with_reducible assumption) | assumption)
            obtain ⟨ad462,e462,hx462_0,hx462_1,hx462_2,hx462_3,hx462_4,hx462_5,hx462_6⟩:=at_T53 HR0.out x5_1 p462 q462
            obtain rfl:ad458 = ad462:=(by injection e462)
            replace hx462_0:=bXc HB.out hx462_0
            replace hx462_1:=bXc HB.out hx462_1
            replace hx462_2:=bXc HB.out hx462_2
            replace hx462_3:=bXc HB.out hx462_3
            replace hx462_4:=bXc HB.out hx462_4
            replace hx462_5:=bXc HB.out hx462_5
            replace hx462_6:=bXc HB.out hx462_6
            replace p462:=eq_true p462
            replace q462:=eq_true q462
            have p463:0≤(x5_1:Int):=of_decide_eq_true (by first|(with_reducible assumption) | assumption)
            have q463:x5_1 < (l0.length:Int):=of_decide_eq_true (by first|(with_reducible assumption) | assumption)
            obtain ⟨ad463,e463,hx463_0,hx463_1,hx463_2,hx463_3,hx463_4,hx463_5,hx463_6⟩:=at_T53 HR0.out x5_1 p463 q463
            obtain rfl:ad458 = ad463:=(by injection e463)
            replace hx463_0:=bXc HB.out hx463_0
            replace hx463_1:=bXc HB.out hx463_1
            replace hx463_2:=bXc HB.out hx463_2
            replace hx463_3:=bXc HB.out hx463_3
            replace hx463_4:=bXc HB.out hx463_4
            replace hx463_5:=bXc HB.out hx463_5
            replace hx463_6:=bXc HB.out hx463_6
            replace p463:=eq_true p463
            replace q463:=eq_true q463
            try go_wp2
            replace HB:=aMk (bw1 HB.out)
            have p464:0≤(x5_1:Int):=of_decide_eq_true (by first|(with_reducible assumption) | assumption)
            have q464:x5_1 < (l0.length:Int):=of_decide_eq_true (by first|(with_reducible assumption) | assumption)
            obtain ⟨ad464,e464,hx464_0,hx464_1,hx464_2,hx464_3,hx464_4,hx464_5,hx464_6⟩:=at_T53 HR0.out x5_1 p464 q464
            have hw464_6:=hx464_6
            have hw464_5:=hx464_5
            have hw464_4:=hx464_4
            have hw464_3:=hx464_3
            have hw464_2:=hx464_2
            have hw464_1:=hx464_1
            have hw464_0:=hx464_0
            obtain rfl:ad458 = ad464:=(by injection e464)
            replace hx464_0:=bXc HB.out hx464_0
            replace hx464_1:=bXc HB.out hx464_1
            replace hx464_2:=bXc HB.out hx464_2
            replace hx464_3:=bXc HB.out hx464_3
            replace hx464_4:=bXc HB.out hx464_4
            replace hx464_5:=bXc HB.out hx464_5
            replace hx464_6:=bXc HB.out hx464_6
            replace p464:=eq_true p464
            replace q464:=eq_true q464
            refine start_ (n:=8) (S:=fun w' => w'.cell? (ad458.add ((x5_1).toNat * 7)) = some (.int .i64 ((rd_T53 l0 x5_1).f0))∧w'.cell? ⟨(ad458.add ((x5_1).toNat * 7)).block,(ad458.add ((x5_1).toNat * 7)).off + 1,none⟩ = some (.int .i64 ((rd_T53 l0 x5_1).f1))∧w'.cell? ⟨(ad458.add ((x5_1).toNat * 7)).block,(ad458.add ((x5_1).toNat * 7)).off + 2,none⟩ = some (.int .i64 ((rd_T53 l0 x5_1).f2))∧w'.cell? ⟨(ad458.add ((x5_1).toNat * 7)).block,(ad458.add ((x5_1).toNat * 7)).off + 3,none⟩ = some (.int .i64 ((rd_T53 l0 x5_1).f3))∧w'.cell? ⟨(ad458.add ((x5_1).toNat * 7)).block,(ad458.add ((x5_1).toNat * 7)).off + 4,none⟩ = some (.int .i64 ((rd_T53 l0 x5_1).f4))∧w'.cell? ⟨(ad458.add ((x5_1).toNat * 7)).block,(ad458.add ((x5_1).toNat * 7)).off + 5,none⟩ = some (.int .i64 ((rd_T53 l0 x5_1).f5))∧w'.cell? ⟨(ad458.add ((x5_1).toNat * 7)).block,(ad458.add ((x5_1).toNat * 7)).off + 6,none⟩ = some (.string ((rd_T53 l0 x5_1).f6))) (ds:=[]) #[false,false,false,false,false,false,false,false] (by kernel_rfl) rfl rfl ⟨((HB.out.cell (wLt w _ hw464_0)).trans hw464_0),((HB.out.cell (wLt w _ hw464_1)).trans hw464_1),((HB.out.cell (wLt w _ hw464_2)).trans hw464_2),((HB.out.cell (wLt w _ hw464_3)).trans hw464_3),((HB.out.cell (wLt w _ hw464_4)).trans hw464_4),((HB.out.cell (wLt w _ hw464_5)).trans hw464_5),((HB.out.cell (wLt w _ hw464_6)).trans hw464_6)⟩ (fun hHeld => ?_);refine with_tabW laws_heldSegmentS.tab22 laws_heldSegmentS.bits22 (fun HT_ HW_ => ?_)
            generalize wr.drew = w15 at HB hx464_0 hx464_1 hx464_2 hx464_3 hx464_4 hx464_5 hx464_6 hHeld ⊢
            refine pU (i:=0) (N:=some 66) #[true,false,false,false,false,false,false,false] (any_of HT_.out (by kernel_rfl)) ?_
            refine pU (i:=1) (N:=some 67) #[true,true,false,false,false,false,false,false] (any_of HT_.out (by kernel_rfl)) ?_
            refine pU (i:=2) (N:=some 68) #[true,true,true,false,false,false,false,false] (any_of HT_.out (by kernel_rfl)) ?_
            refine pU (i:=3) (N:=some 69) #[true,true,true,true,false,false,false,false] (any_of HT_.out (by kernel_rfl)) ?_
            refine pU (i:=5) (N:=some 71) #[true,true,true,true,false,true,false,false] (any_of HT_.out (by kernel_rfl)) ?_
            refine tU7 (i:=4) (N:=some 70) #[true,true,true,true,true,true,false,false] (take_ofW HT_.out HW_.out (by kernel_rfl)) hHeld ?_
            refine one_ (i:=6) (N:=some 72) #[true,true,true,true,true,true,true,false] rfl rfl (one_of HT_.out (by kernel_rfl)) (by decide) (fun K hK => ?_)
            refine goes_ Try.func89 (by kernel_rfl) rfl #[.int .i64 (wrap64 ((wrap64 ((wrap64 ((wrap64 ((wrap64 ((wrap64 (x1_1 + 1)) + 1)) + 1)) + 1)) + 1)) + 1))] (by rfl) rfl rfl (by (try simp only [List.map_toArray,List.map_cons,List.map_nil]);first | done | rfl|(simp only [List.length_drop,List.length_take];rfl)) ?_
            with_reducible refine (laws_markText.calls k1 (wrap64 ((wrap64 ((wrap64 ((wrap64 ((wrap64 ((wrap64 (x1_1 + 1)) + 1)) + 1)) + 1)) + 1)) + 1)) t465 _ A11.out).mono ?_
            rintro e w16 ⟨rfl,hb⟩
            refine ⟨_,rfl,?_⟩
            replace HB:=aMk (bSt hb)
            (try clear hb)
            (try clear hb2)
            (try clear hk)
            (try clear hi)
            refine hK.out _ _ ⟨((HB.out.cell (wLt w _ hw464_0)).trans hw464_0),((HB.out.cell (wLt w _ hw464_1)).trans hw464_1),((HB.out.cell (wLt w _ hw464_2)).trans hw464_2),((HB.out.cell (wLt w _ hw464_3)).trans hw464_3),((HB.out.cell (wLt w _ hw464_4)).trans hw464_4),((HB.out.cell (wLt w _ hw464_5)).trans hw464_5),((HB.out.cell (wLt w _ hw464_6)).trans hw464_6)⟩ (fun hHeld => ?_)
            clear hK K
            refine norm_ (a':=?_) ?_ ?_
            rotate_left
            ·show Act.put _ (some 72) _ = _
             simp only [Act.put,List.setIfInBounds_toArray,List.set_cons_zero,List.set_cons_succ,i64_w,i32_w]
             rfl
            refine pU (i:=7) (N:=some 73) #[true,true,true,true,true,true,true,true] (any_of HT_.out (by kernel_rfl)) ?_
            refine done_ (done_of HT_.out (by kernel_rfl)) ?_
            try go_wp2
            go_ret
            exact ⟨eRf,bW⟩
          ·rw [if_neg c10] at H
           have c10b0:(((rd_T53 l0 x5_1).f5) == (wrap64 ((wrap64 ((wrap64 ((wrap64 ((wrap64 (x1_1 + 1)) + 1)) + 1)) + 1)) + 1))) = false:=beq_eq_false_iff_ne.mpr c10
           have c10b1:(((rd_T53 l0 x5_1).f5) != (wrap64 ((wrap64 ((wrap64 ((wrap64 ((wrap64 (x1_1 + 1)) + 1)) + 1)) + 1)) + 1))) = true:=bne_iff_ne.mpr c10
           obtain rfl:=Option.some.inj H
           have p458:0≤(x5_1:Int):=of_decide_eq_true (by first|(with_reducible assumption) | assumption)
           have q458:x5_1 < (l0.length:Int):=of_decide_eq_true (by first|(with_reducible assumption) | assumption)
           obtain ⟨ad458,e458,hx458_0,hx458_1,hx458_2,hx458_3,hx458_4,hx458_5,hx458_6⟩:=at_T53 HR0.out x5_1 p458 q458
           cases e458
           replace hx458_0:=bXc HB.out hx458_0
           replace hx458_1:=bXc HB.out hx458_1
           replace hx458_2:=bXc HB.out hx458_2
           replace hx458_3:=bXc HB.out hx458_3
           replace hx458_4:=bXc HB.out hx458_4
           replace hx458_5:=bXc HB.out hx458_5
           replace hx458_6:=bXc HB.out hx458_6
           replace p458:=eq_true p458
           replace q458:=eq_true q458
           have p459:0≤(x5_1:Int):=of_decide_eq_true (by first|(with_reducible assumption) | assumption)
           have q459:x5_1 < (l0.length:Int):=of_decide_eq_true (by first|(with_reducible assumption) | assumption)
           obtain ⟨ad459,e459,hx459_0,hx459_1,hx459_2,hx459_3,hx459_4,hx459_5,hx459_6⟩:=at_T53 HR0.out x5_1 p459 q459
           obtain rfl:ad458 = ad459:=(by injection e459)
           replace hx459_0:=bXc HB.out hx459_0
           replace hx459_1:=bXc HB.out hx459_1
           replace hx459_2:=bXc HB.out hx459_2
           replace hx459_3:=bXc HB.out hx459_3
           replace hx459_4:=bXc HB.out hx459_4
           replace hx459_5:=bXc HB.out hx459_5
           replace hx459_6:=bXc HB.out hx459_6
           replace p459:=eq_true p459
           replace q459:=eq_true q459
           have p460:0≤(x5_1:Int):=of_decide_eq_true (by first|(with_reducible assumption) | assumption)
           have q460:x5_1 < (l0.length:Int):=of_decide_eq_true (by first|(with_reducible assumption) | assumption)
           obtain ⟨ad460,e460,hx460_0,hx460_1,hx460_2,hx460_3,hx460_4,hx460_5,hx460_6⟩:=at_T53 HR0.out x5_1 p460 q460
           obtain rfl:ad458 = ad460:=(by injection e460)
           replace hx460_0:=bXc HB.out hx460_0
           replace hx460_1:=bXc HB.out hx460_1
           replace hx460_2:=bXc HB.out hx460_2
           replace hx460_3:=bXc HB.out hx460_3
           replace hx460_4:=bXc HB.out hx460_4
           replace hx460_5:=bXc HB.out hx460_5
           replace hx460_6:=bXc HB.out hx460_6
           replace p460:=eq_true p460
           replace q460:=eq_true q460
           have p461:0≤(x5_1:Int):=of_decide_eq_true (by first|(with_reducible assumption) | assumption)
           have q461:x5_1 < (l0.length:Int):=of_decide_eq_true (by first|(with_reducible assumption) | assumption)
           obtain ⟨ad461,e461,hx461_0,hx461_1,hx461_2,hx461_3,hx461_4,hx461_5,hx461_6⟩:=at_T53 HR0.out x5_1 p461 q461
           obtain rfl:ad458 = ad461:=(by injection e461)
           replace hx461_0:=bXc HB.out hx461_0
           replace hx461_1:=bXc HB.out hx461_1
           replace hx461_2:=bXc HB.out hx461_2
           replace hx461_3:=bXc HB.out hx461_3
           replace hx461_4:=bXc HB.out hx461_4
           replace hx461_5:=bXc HB.out hx461_5
           replace hx461_6:=bXc HB.out hx461_6
           replace p461:=eq_true p461
           replace q461:=eq_true q461
           have p462:0≤(x5_1:Int):=of_decide_eq_true (by first|(with_reducible assumption) | assumption)
           have q462:x5_1 < (l0.length:Int):=of_decide_eq_true (by first|(with_reducible assumption) | assumption)
           obtain ⟨ad462,e462,hx462_0,hx462_1,hx462_2,hx462_3,hx462_4,hx462_5,hx462_6⟩:=at_T53 HR0.out x5_1 p462 q462
           obtain rfl:ad458 = ad462:=(by injection e462)
           replace hx462_0:=bXc HB.out hx462_0
           replace hx462_1:=bXc HB.out hx462_1
           replace hx462_2:=bXc HB.out hx462_2
           replace hx462_3:=bXc HB.out hx462_3
           replace hx462_4:=bXc HB.out hx462_4
           replace hx462_5:=bXc HB.out hx462_5
           replace hx462_6:=bXc HB.out hx462_6
           replace p462:=eq_true p462
           replace q462:=eq_true q462
           have p463:0≤(x5_1:Int):=of_decide_eq_true (by first|(with_reducible assumption) | assumption)
           have q463:x5_1 < (l0.length:Int):=of_decide_eq_true (by first|(with_reducible assumption) | assumption)
           obtain ⟨ad463,e463,hx463_0,hx463_1,hx463_2,hx463_3,hx463_4,hx463_5,hx463_6⟩:=at_T53 HR0.out x5_1 p463 q463
           obtain rfl:ad458 = ad463:=(by injection e463)
           replace hx463_0:=bXc HB.out hx463_0
           replace hx463_1:=bXc HB.out hx463_1
           replace hx463_2:=bXc HB.out hx463_2
           replace hx463_3:=bXc HB.out hx463_3
           replace hx463_4:=bXc HB.out hx463_4
           replace hx463_5:=bXc HB.out hx463_5
           replace hx463_6:=bXc HB.out hx463_6
           replace p463:=eq_true p463
           replace q463:=eq_true q463
           go_wp2
           go_ret
           exact ⟨eRf,bW⟩
         ·rw [if_neg c9] at H
          have c9b0:(((rd_T53 l0 x5_1).f4) == (wrap64 ((wrap64 ((wrap64 ((wrap64 (x1_1 + 1)) + 1)) + 1)) + 1))) = false:=beq_eq_false_iff_ne.mpr c9
          have c9b1:(((rd_T53 l0 x5_1).f4) != (wrap64 ((wrap64 ((wrap64 ((wrap64 (x1_1 + 1)) + 1)) + 1)) + 1))) = true:=bne_iff_ne.mpr c9
          obtain rfl:=Option.some.inj H
          have p458:0≤(x5_1:Int):=of_decide_eq_true (by first|(with_reducible assumption) | assumption)
          have q458:x5_1 < (l0.length:Int):=of_decide_eq_true (by first|(with_reducible assumption) | assumption)
          obtain ⟨ad458,e458,hx458_0,hx458_1,hx458_2,hx458_3,hx458_4,hx458_5,hx458_6⟩:=at_T53 HR0.out x5_1 p458 q458
          cases e458
          replace hx458_0:=bXc HB.out hx458_0
          replace hx458_1:=bXc HB.out hx458_1
          replace hx458_2:=bXc HB.out hx458_2
          replace hx458_3:=bXc HB.out hx458_3
          replace hx458_4:=bXc HB.out hx458_4
          replace hx458_5:=bXc HB.out hx458_5
          replace hx458_6:=bXc HB.out hx458_6
          replace p458:=eq_true p458
          replace q458:=eq_true q458
          have p459:0≤(x5_1:Int):=of_decide_eq_true (by first|(with_reducible assumption) | assumption)
          have q459:x5_1 < (l0.length:Int):=of_decide_eq_true (by first|(with_reducible assumption) | assumption)
          obtain ⟨ad459,e459,hx459_0,hx459_1,hx459_2,hx459_3,hx459_4,hx459_5,hx459_6⟩:=at_T53 HR0.out x5_1 p459 q459
          obtain rfl:ad458 = ad459:=(by injection e459)
          replace hx459_0:=bXc HB.out hx459_0
          replace hx459_1:=bXc HB.out hx459_1
          replace hx459_2:=bXc HB.out hx459_2
          replace hx459_3:=bXc HB.out hx459_3
          replace hx459_4:=bXc HB.out hx459_4
          replace hx459_5:=bXc HB.out hx459_5
          replace hx459_6:=bXc HB.out hx459_6
          replace p459:=eq_true p459
          replace q459:=eq_true q459
          have p460:0≤(x5_1:Int):=of_decide_eq_true (by first|(with_reducible assumption) | assumption)
          have q460:x5_1 < (l0.length:Int):=of_decide_eq_true (by first|(with_reducible assumption) | assumption)
          obtain ⟨ad460,e460,hx460_0,hx460_1,hx460_2,hx460_3,hx460_4,hx460_5,hx460_6⟩:=at_T53 HR0.out x5_1 p460 q460
          obtain rfl:ad458 = ad460:=(by injection e460)
          replace hx460_0:=bXc HB.out hx460_0
          replace hx460_1:=bXc HB.out hx460_1
          replace hx460_2:=bXc HB.out hx460_2
          replace hx460_3:=bXc HB.out hx460_3
          replace hx460_4:=bXc HB.out hx460_4
          replace hx460_5:=bXc HB.out hx460_5
          replace hx460_6:=bXc HB.out hx460_6
          replace p460:=eq_true p460
          replace q460:=eq_true q460
          have p461:0≤(x5_1:Int):=of_decide_eq_true (by first|(with_reducible assumption) | assumption)
          have q461:x5_1 < (l0.length:Int):=of_decide_eq_true (by first|(with_reducible assumption) | assumption)
          obtain ⟨ad461,e461,hx461_0,hx461_1,hx461_2,hx461_3,hx461_4,hx461_5,hx461_6⟩:=at_T53 HR0.out x5_1 p461 q461
          obtain rfl:ad458 = ad461:=(by injection e461)
          replace hx461_0:=bXc HB.out hx461_0
          replace hx461_1:=bXc HB.out hx461_1
          replace hx461_2:=bXc HB.out hx461_2
          replace hx461_3:=bXc HB.out hx461_3
          replace hx461_4:=bXc HB.out hx461_4
          replace hx461_5:=bXc HB.out hx461_5
          replace hx461_6:=bXc HB.out hx461_6
          replace p461:=eq_true p461
          replace q461:=eq_true q461
          have p462:0≤(x5_1:Int):=of_decide_eq_true (by first|(with_reducible assumption) | assumption)
          have q462:x5_1 < (l0.length:Int):=of_decide_eq_true (by first|(with_reducible assumption) | assumption)
          obtain ⟨ad462,e462,hx462_0,hx462_1,hx462_2,hx462_3,hx462_4,hx462_5,hx462_6⟩:=at_T53 HR0.out x5_1 p462 q462
          obtain rfl:ad458 = ad462:=(by injection e462)
          replace hx462_0:=bXc HB.out hx462_0
          replace hx462_1:=bXc HB.out hx462_1
          replace hx462_2:=bXc HB.out hx462_2
          replace hx462_3:=bXc HB.out hx462_3
          replace hx462_4:=bXc HB.out hx462_4
          replace hx462_5:=bXc HB.out hx462_5
          replace hx462_6:=bXc HB.out hx462_6
          replace p462:=eq_true p462
          replace q462:=eq_true q462
          go_wp2
          go_ret
          exact ⟨eRf,bW⟩
        ·rw [if_neg c8] at H
         have c8b0:(((rd_T53 l0 x5_1).f3) == (wrap64 ((wrap64 ((wrap64 (x1_1 + 1)) + 1)) + 1))) = false:=beq_eq_false_iff_ne.mpr c8
         have c8b1:(((rd_T53 l0 x5_1).f3) != (wrap64 ((wrap64 ((wrap64 (x1_1 + 1)) + 1)) + 1))) = true:=bne_iff_ne.mpr c8
         obtain rfl:=Option.some.inj H
         have p458:0≤(x5_1:Int):=of_decide_eq_true (by first|(with_reducible assumption) | assumption)
         have q458:x5_1 < (l0.length:Int):=of_decide_eq_true (by first|(with_reducible assumption) | assumption)
         obtain ⟨ad458,e458,hx458_0,hx458_1,hx458_2,hx458_3,hx458_4,hx458_5,hx458_6⟩:=at_T53 HR0.out x5_1 p458 q458
         cases e458
         replace hx458_0:=bXc HB.out hx458_0
         replace hx458_1:=bXc HB.out hx458_1
         replace hx458_2:=bXc HB.out hx458_2
         replace hx458_3:=bXc HB.out hx458_3
         replace hx458_4:=bXc HB.out hx458_4
         replace hx458_5:=bXc HB.out hx458_5
         replace hx458_6:=bXc HB.out hx458_6
         replace p458:=eq_true p458
         replace q458:=eq_true q458
         have p459:0≤(x5_1:Int):=of_decide_eq_true (by first|(with_reducible assumption) | assumption)
         have q459:x5_1 < (l0.length:Int):=of_decide_eq_true (by first|(with_reducible assumption) | assumption)
         obtain ⟨ad459,e459,hx459_0,hx459_1,hx459_2,hx459_3,hx459_4,hx459_5,hx459_6⟩:=at_T53 HR0.out x5_1 p459 q459
         obtain rfl:ad458 = ad459:=(by injection e459)
         replace hx459_0:=bXc HB.out hx459_0
         replace hx459_1:=bXc HB.out hx459_1
         replace hx459_2:=bXc HB.out hx459_2
         replace hx459_3:=bXc HB.out hx459_3
         replace hx459_4:=bXc HB.out hx459_4
         replace hx459_5:=bXc HB.out hx459_5
         replace hx459_6:=bXc HB.out hx459_6
         replace p459:=eq_true p459
         replace q459:=eq_true q459
         have p460:0≤(x5_1:Int):=of_decide_eq_true (by first|(with_reducible assumption) | assumption)
         have q460:x5_1 < (l0.length:Int):=of_decide_eq_true (by first|(with_reducible assumption) | assumption)
         obtain ⟨ad460,e460,hx460_0,hx460_1,hx460_2,hx460_3,hx460_4,hx460_5,hx460_6⟩:=at_T53 HR0.out x5_1 p460 q460
         obtain rfl:ad458 = ad460:=(by injection e460)
         replace hx460_0:=bXc HB.out hx460_0
         replace hx460_1:=bXc HB.out hx460_1
         replace hx460_2:=bXc HB.out hx460_2
         replace hx460_3:=bXc HB.out hx460_3
         replace hx460_4:=bXc HB.out hx460_4
         replace hx460_5:=bXc HB.out hx460_5
         replace hx460_6:=bXc HB.out hx460_6
         replace p460:=eq_true p460
         replace q460:=eq_true q460
         have p461:0≤(x5_1:Int):=of_decide_eq_true (by first|(with_reducible assumption) | assumption)
         have q461:x5_1 < (l0.length:Int):=of_decide_eq_true (by first|(with_reducible assumption) | assumption)
         obtain ⟨ad461,e461,hx461_0,hx461_1,hx461_2,hx461_3,hx461_4,hx461_5,hx461_6⟩:=at_T53 HR0.out x5_1 p461 q461
         obtain rfl:ad458 = ad461:=(by injection e461)
         replace hx461_0:=bXc HB.out hx461_0
         replace hx461_1:=bXc HB.out hx461_1
         replace hx461_2:=bXc HB.out hx461_2
         replace hx461_3:=bXc HB.out hx461_3
         replace hx461_4:=bXc HB.out hx461_4
         replace hx461_5:=bXc HB.out hx461_5
         replace hx461_6:=bXc HB.out hx461_6
         replace p461:=eq_true p461
         replace q461:=eq_true q461
         go_wp2
         go_ret
         exact ⟨eRf,bW⟩
       ·rw [if_neg c7] at H
        have c7b0:(((rd_T53 l0 x5_1).f2) == (wrap64 ((wrap64 (x1_1 + 1)) + 1))) = false:=beq_eq_false_iff_ne.mpr c7
        have c7b1:(((rd_T53 l0 x5_1).f2) != (wrap64 ((wrap64 (x1_1 + 1)) + 1))) = true:=bne_iff_ne.mpr c7
        obtain rfl:=Option.some.inj H
        have p458:0≤(x5_1:Int):=of_decide_eq_true (by first|(with_reducible assumption) | assumption)
        have q458:x5_1 < (l0.length:Int):=of_decide_eq_true (by first|(with_reducible assumption) | assumption)
        obtain ⟨ad458,e458,hx458_0,hx458_1,hx458_2,hx458_3,hx458_4,hx458_5,hx458_6⟩:=at_T53 HR0.out x5_1 p458 q458
        cases e458
        replace hx458_0:=bXc HB.out hx458_0
        replace hx458_1:=bXc HB.out hx458_1
        replace hx458_2:=bXc HB.out hx458_2
        replace hx458_3:=bXc HB.out hx458_3
        replace hx458_4:=bXc HB.out hx458_4
        replace hx458_5:=bXc HB.out hx458_5
        replace hx458_6:=bXc HB.out hx458_6
        replace p458:=eq_true p458
        replace q458:=eq_true q458
        have p459:0≤(x5_1:Int):=of_decide_eq_true (by first|(with_reducible assumption) | assumption)
        have q459:x5_1 < (l0.length:Int):=of_decide_eq_true (by first|(with_reducible assumption) | assumption)
        obtain ⟨ad459,e459,hx459_0,hx459_1,hx459_2,hx459_3,hx459_4,hx459_5,hx459_6⟩:=at_T53 HR0.out x5_1 p459 q459
        obtain rfl:ad458 = ad459:=(by injection e459)
        replace hx459_0:=bXc HB.out hx459_0
        replace hx459_1:=bXc HB.out hx459_1
        replace hx459_2:=bXc HB.out hx459_2
        replace hx459_3:=bXc HB.out hx459_3
        replace hx459_4:=bXc HB.out hx459_4
        replace hx459_5:=bXc HB.out hx459_5
        replace hx459_6:=bXc HB.out hx459_6
        replace p459:=eq_true p459
        replace q459:=eq_true q459
        have p460:0≤(x5_1:Int):=of_decide_eq_true (by first|(with_reducible assumption) | assumption)
        have q460:x5_1 < (l0.length:Int):=of_decide_eq_true (by first|(with_reducible assumption) | assumption)
        obtain ⟨ad460,e460,hx460_0,hx460_1,hx460_2,hx460_3,hx460_4,hx460_5,hx460_6⟩:=at_T53 HR0.out x5_1 p460 q460
        obtain rfl:ad458 = ad460:=(by injection e460)
        replace hx460_0:=bXc HB.out hx460_0
        replace hx460_1:=bXc HB.out hx460_1
        replace hx460_2:=bXc HB.out hx460_2
        replace hx460_3:=bXc HB.out hx460_3
        replace hx460_4:=bXc HB.out hx460_4
        replace hx460_5:=bXc HB.out hx460_5
        replace hx460_6:=bXc HB.out hx460_6
        replace p460:=eq_true p460
        replace q460:=eq_true q460
        go_wp2
        go_ret
        exact ⟨eRf,bW⟩
      ·rw [if_neg c6] at H
       have c6b0:(((rd_T53 l0 x5_1).f1) == (wrap64 (x1_1 + 1))) = false:=beq_eq_false_iff_ne.mpr c6
       have c6b1:(((rd_T53 l0 x5_1).f1) != (wrap64 (x1_1 + 1))) = true:=bne_iff_ne.mpr c6
       obtain rfl:=Option.some.inj H
       have p458:0≤(x5_1:Int):=of_decide_eq_true (by first|(with_reducible assumption) | assumption)
       have q458:x5_1 < (l0.length:Int):=of_decide_eq_true (by first|(with_reducible assumption) | assumption)
       obtain ⟨ad458,e458,hx458_0,hx458_1,hx458_2,hx458_3,hx458_4,hx458_5,hx458_6⟩:=at_T53 HR0.out x5_1 p458 q458
       cases e458
       replace hx458_0:=bXc HB.out hx458_0
       replace hx458_1:=bXc HB.out hx458_1
       replace hx458_2:=bXc HB.out hx458_2
       replace hx458_3:=bXc HB.out hx458_3
       replace hx458_4:=bXc HB.out hx458_4
       replace hx458_5:=bXc HB.out hx458_5
       replace hx458_6:=bXc HB.out hx458_6
       replace p458:=eq_true p458
       replace q458:=eq_true q458
       have p459:0≤(x5_1:Int):=of_decide_eq_true (by first|(with_reducible assumption) | assumption)
       have q459:x5_1 < (l0.length:Int):=of_decide_eq_true (by first|(with_reducible assumption) | assumption)
       obtain ⟨ad459,e459,hx459_0,hx459_1,hx459_2,hx459_3,hx459_4,hx459_5,hx459_6⟩:=at_T53 HR0.out x5_1 p459 q459
       obtain rfl:ad458 = ad459:=(by injection e459)
       replace hx459_0:=bXc HB.out hx459_0
       replace hx459_1:=bXc HB.out hx459_1
       replace hx459_2:=bXc HB.out hx459_2
       replace hx459_3:=bXc HB.out hx459_3
       replace hx459_4:=bXc HB.out hx459_4
       replace hx459_5:=bXc HB.out hx459_5
       replace hx459_6:=bXc HB.out hx459_6
       replace p459:=eq_true p459
       replace q459:=eq_true q459
       go_wp2
       go_ret
       exact ⟨eRf,bW⟩
     ·rw [if_neg c5] at H
      have c5b0:(((rd_T53 l0 x5_1).f0) == x1_1) = false:=beq_eq_false_iff_ne.mpr c5
      have c5b1:(((rd_T53 l0 x5_1).f0) != x1_1) = true:=bne_iff_ne.mpr c5
      obtain rfl:=Option.some.inj H
      have p458:0≤(x5_1:Int):=of_decide_eq_true (by first|(with_reducible assumption) | assumption)
      have q458:x5_1 < (l0.length:Int):=of_decide_eq_true (by first|(with_reducible assumption) | assumption)
      obtain ⟨ad458,e458,hx458_0,hx458_1,hx458_2,hx458_3,hx458_4,hx458_5,hx458_6⟩:=at_T53 HR0.out x5_1 p458 q458
      cases e458
      replace hx458_0:=bXc HB.out hx458_0
      replace hx458_1:=bXc HB.out hx458_1
      replace hx458_2:=bXc HB.out hx458_2
      replace hx458_3:=bXc HB.out hx458_3
      replace hx458_4:=bXc HB.out hx458_4
      replace hx458_5:=bXc HB.out hx458_5
      replace hx458_6:=bXc HB.out hx458_6
      replace p458:=eq_true p458
      replace q458:=eq_true q458
      go_wp2
      go_ret
      exact ⟨eRf,bW⟩
    ·rw [if_neg c4] at H
     exact absurd H (by simp)
   ·rw [if_neg c3] at H
    have c3b0:decide (x5_1 < (l0.length:Int)) = false:=decide_eq_false c3
    clear c3
    obtain rfl:=Option.some.inj H
    go_wp2
    go_ret
    exact ⟨eRf,bW⟩
end
section
/-! ### spec_l10Reply: function 111 -/
def spec_l10Reply.f (a0_0:ByteArray) (a0_1 a0_2:Int) (a0_3 a0_4:Int) (a0_5 a0_6 a0_7:Int) (a0_8 a0_9:ByteArray) (a0_10:Bool) (a1 a2:Int) (a3:ByteArray):Option (Int × Int × Int × Int × Int × Int × ByteArray):=some (80,a0_2,a1,a0_7,a2,1000,a3)
set_option maxHeartbeats 8000000 in
set_option maxRecDepth 100000 in
theorem spec_l10Reply.calls (a0_0:ByteArray) (a0_1 a0_2:Int) (a0_3 a0_4:Int) (a0_5 a0_6 a0_7:Int) (a0_8 a0_9:ByteArray) (a0_10:Bool) (a1 a2:Int) (a3:ByteArray) (r1 r2:Int) (r3 r4:Int) (r5 r6:Int) (r7:ByteArray) (w:World) (h:spec_l10Reply.f a0_0 a0_1 a0_2 a0_3 a0_4 a0_5 a0_6 a0_7 a0_8 a0_9 a0_10 a1 a2 a3 = some (r1,r2,r3,r4,r5,r6,r7)) :
  Calls Try.prog 111 #[.agg #[.string a0_0,.int .i64 a0_1,.int .i64 a0_2,.int .i64 a0_3,.int .i64 a0_4,.int .i64 a0_5,.int .i64 a0_6,.int .i64 a0_7,.string a0_8,.string a0_9,.bool a0_10],.int .i64 a1,.int .i64 a2,.string a3] w fun e w' => e = .returned (.agg #[.int .i64 r1,.int .i64 r2,.int .i64 r3,.int .i64 r4,.int .i64 r5,.int .i64 r6,.string r7])∧Below w.heap.size w w':=by
 have hu34:=Try.underlying34
 have hu53:=Try.underlying53
 have HB:=aMk (Below.refl w.heap.size w)
 have H:=h
 unfold spec_l10Reply.f at H
 clear h
 simp only [Option.some.injEq,Prod.mk.injEq] at H
 obtain ⟨rfl,rfl,rfl,rfl,rfl,rfl,rfl⟩:=H
 go_enter Try.func111,Try.ntmps111
 go_wp2_with (first|((with_reducible refine gate_dst (N:=4) rfl ?_);refine bxE (N:=4) (cs:=#[.string a0_0,.int .i64 a0_1,.int .i64 a0_2,.int .i64 a0_3,.int .i64 a0_4,.int .i64 a0_5,.int .i64 a0_6,.int .i64 a0_7,.string a0_8,.string a0_9,.bool a0_10]) (t:=34) ?_;intro gb340 hg w5 hbox hb;have BK340:=aMk (hbox);have GW340:=aMk (bZ hg);have GE340:=aMk (bZ hg);replace HB:=aMk (bSt hb);clear hb hbox hg)|((with_reducible refine gate_dst (N:=8) rfl ?_);refine bxE (N:=8) (cs:=#[.int .i64 0,.int .i64 0,.int .i64 0,.int .i64 0,.int .i64 0,.int .i64 0,.string (⟨#[]⟩:ByteArray)]) (t:=53) ?_;intro gb341 hg w6 hbox hb;have BK341:=aMk (hbox);have GW341:=aMk (bG bW hg);have GE341:=aMk (bG bW hg);replace HB:=aMk (bU hb);have NB340_341:=aMk ((bkL BK340.out hg:gb340 ≠ gb341));have NB341_340:=aMk ((bkG BK340.out hg:gb341 ≠ gb340));replace BK340:=aMk (bkB BK340.out hb);clear hb hbox hg;have hnb7:=NB340_341.out;have hnc7:=NB341_340.out;obtain ⟨Z8_0,Z8_1,Z8_2,Z8_3,Z8_4,Z8_5,Z8_6,Z8_7,Z8_8,Z8_9,Z8_10,Y8_0,Y8_1,Y8_2,Y8_3,Y8_4,Y8_5,Y8_6,Y8_7,Y8_8,Y8_9,Y8_10⟩:=bC11 BK340.out;obtain ⟨Z9_0,Z9_1,Z9_2,Z9_3,Z9_4,Z9_5,Z9_6,Y9_0,Y9_1,Y9_2,Y9_3,Y9_4,Y9_5,Y9_6⟩:=bC7 BK341.out))
 refine bodyPost_ret (results_cell_row rfl _ _ gb341 53 #[.int .i64 80,.int .i64 a0_2,.int .i64 a1,.int .i64 a0_7,.int .i64 a2,.int .i64 1000,.string a3] (0,0) _ rfl (by refine pB ?_;refine blk_put (cs:=#[.int .i64 80,.int .i64 a0_2,.int .i64 a1,.int .i64 a0_7,.int .i64 a2,.int .i64 1000,.string (⟨#[]⟩:ByteArray)]) ?_ 6 _ rfl;refine pB ?_;refine blk_put (cs:=#[.int .i64 80,.int .i64 a0_2,.int .i64 a1,.int .i64 a0_7,.int .i64 a2,.int .i64 0,.string (⟨#[]⟩:ByteArray)]) ?_ 5 _ rfl;refine pB ?_;refine blk_put (cs:=#[.int .i64 80,.int .i64 a0_2,.int .i64 a1,.int .i64 a0_7,.int .i64 0,.int .i64 0,.string (⟨#[]⟩:ByteArray)]) ?_ 4 _ rfl;refine pB ?_;refine blk_put (cs:=#[.int .i64 80,.int .i64 a0_2,.int .i64 a1,.int .i64 0,.int .i64 0,.int .i64 0,.string (⟨#[]⟩:ByteArray)]) ?_ 3 _ rfl;refine pB ?_;refine blk_put (cs:=#[.int .i64 80,.int .i64 a0_2,.int .i64 0,.int .i64 0,.int .i64 0,.int .i64 0,.string (⟨#[]⟩:ByteArray)]) ?_ 2 _ rfl;refine pB ?_;refine blk_put (cs:=#[.int .i64 80,.int .i64 0,.int .i64 0,.int .i64 0,.int .i64 0,.int .i64 0,.string (⟨#[]⟩:ByteArray)]) ?_ 1 _ rfl;refine pB ?_;refine blk_put (cs:=#[.int .i64 0,.int .i64 0,.int .i64 0,.int .i64 0,.int .i64 0,.int .i64 0,.string (⟨#[]⟩:ByteArray)]) ?_ 0 _ rfl;refine pB ?_;exact BK341.out) Try.underlying53 rfl (by kernel_rfl)) rfl ?_
 exact ⟨eRf,bW⟩
end
section
/-! ### spec_l10Seq: function 70 -/
def spec_l10Seq.f (a0:Int):Option (Int):=some (Go.bits .and .i64 a0 4294967295)
set_option maxHeartbeats 8000000 in
set_option maxRecDepth 100000 in
theorem spec_l10Seq.calls (a0 r:Int) (w:World) (h:spec_l10Seq.f a0 = some r) :
  Calls Try.prog 70 #[.int .i64 a0] w fun e w' => e = .returned (.int .i64 r)∧Drawn0 w w':=by
 have H:=h
 unfold spec_l10Seq.f at H
 clear h
 obtain rfl:=Option.some.inj H
 go_enter Try.func70,Try.ntmps70
 go_wp2
 go_ret
 exact ⟨by first | rfl|(simp;done)|(simp [*];done)|(simp [ne_nil_b];done)|(simp [ne_nil_b, *];done),by repeat (first|exact Drawn0.refl _|apply Drawn0.step)⟩
end
section
/-! ### spec_l01Bit: function 106 -/
def spec_l01Bit.f (a0:Bool):Option (Int):=if a0 = true then (some 1) else (some 0)
set_option maxHeartbeats 8000000 in
set_option maxRecDepth 100000 in
theorem spec_l01Bit.calls (a0:Bool) (r:Int) (w:World) (h:spec_l01Bit.f a0 = some r) :
  Calls Try.prog 106 #[.bool a0] w fun e w' => e = .returned (.int .i64 r)∧Drawn0 w w':=by
 have H:=h
 unfold spec_l01Bit.f at H
 clear h
 by_cases c2:a0 = true
 ·subst c2
  have H1:=H
  rw [if_pos rfl] at H1
  clear H
  have H:=H1
  clear H1
  obtain rfl:=Option.some.inj H
  go_enter Try.func106,Try.ntmps106
  go_wp2
  go_ret
  exact ⟨by first | rfl|(simp;done)|(simp [*];done)|(simp [ne_nil_b];done)|(simp [ne_nil_b, *];done),by repeat (first|exact Drawn0.refl _|apply Drawn0.step)⟩
 ·replace c2:=Bool.eq_false_iff.mpr c2
  subst c2
  have H1:=H
  rw [if_neg (show ¬ (false = true) by decide)] at H1
  clear H
  have H:=H1
  clear H1
  obtain rfl:=Option.some.inj H
  go_enter Try.func106,Try.ntmps106
  go_wp2
  go_ret
  exact ⟨by first | rfl|(simp;done)|(simp [*];done)|(simp [ne_nil_b];done)|(simp [ne_nil_b, *];done),by repeat (first|exact Drawn0.refl _|apply Drawn0.step)⟩
end
section
/-! ### spec_l10Sent: function 71 -/
def spec_l10Sent.f (a0_0:ByteArray) (a0_1 a0_2:Int) (a0_3 a0_4:Int) (a0_5 a0_6 a0_7:Int) (a0_8 a0_9:ByteArray) (a0_10:Bool):Option (Int):=(spec_l01Bit.f a0_10).bind fun t150 => ((spec_l01Bit.f (a0_4 == 1)).bind fun t151 => (some (wrap64 ((wrap64 ((a0_9.size:Int) + t150)) + t151))))
set_option maxHeartbeats 8000000 in
set_option maxRecDepth 100000 in
theorem spec_l10Sent.calls (a0_0:ByteArray) (a0_1 a0_2:Int) (a0_3 a0_4:Int) (a0_5 a0_6 a0_7:Int) (a0_8 a0_9:ByteArray) (a0_10:Bool) (r:Int) (w:World) (h:spec_l10Sent.f a0_0 a0_1 a0_2 a0_3 a0_4 a0_5 a0_6 a0_7 a0_8 a0_9 a0_10 = some r) :
  Calls Try.prog 71 #[.agg #[.string a0_0,.int .i64 a0_1,.int .i64 a0_2,.int .i64 a0_3,.int .i64 a0_4,.int .i64 a0_5,.int .i64 a0_6,.int .i64 a0_7,.string a0_8,.string a0_9,.bool a0_10]] w fun e w' => e = .returned (.int .i64 r)∧Below w.heap.size w w':=by
 have hu34:=Try.underlying34
 have HB:=aMk (Below.refl w.heap.size w)
 have H:=h
 unfold spec_l10Sent.f at H
 clear h
 replace H:=Option.bind_eq_some_iff.mp H
 obtain ⟨t150,A20,H⟩:=H
 try dsimp only at H
 have A2:=aMk A20
 clear A20
 replace H:=Option.bind_eq_some_iff.mp H
 obtain ⟨t151,A30,H⟩:=H
 try dsimp only at H
 have A3:=aMk A30
 clear A30
 obtain rfl:=Option.some.inj H
 go_enter Try.func71,Try.ntmps71
 go_wp2_with (first|((with_reducible refine gate_dst (N:=1) rfl ?_);refine bxE (N:=1) (cs:=#[.string a0_0,.int .i64 a0_1,.int .i64 a0_2,.int .i64 a0_3,.int .i64 a0_4,.int .i64 a0_5,.int .i64 a0_6,.int .i64 a0_7,.string a0_8,.string a0_9,.bool a0_10]) (t:=34) ?_;intro gb149 hg w4 hbox hb;have BK149:=aMk (hbox);have GW149:=aMk (bZ hg);have GE149:=aMk (bZ hg);replace HB:=aMk (bSt hb);clear hb hbox hg;obtain ⟨Z5_0,Z5_1,Z5_2,Z5_3,Z5_4,Z5_5,Z5_6,Z5_7,Z5_8,Z5_9,Z5_10,Y5_0,Y5_1,Y5_2,Y5_3,Y5_4,Y5_5,Y5_6,Y5_7,Y5_8,Y5_9,Y5_10⟩:=bC11 BK149.out)|(go_at_call 106;(with_reducible refine (spec_l01Bit.calls a0_10 t150 _ A2.out).mono ?_);rintro e w' ⟨rfl,⟨nd,rfl⟩⟩;(try first|exact ⟨rfl,_,World.drewN_drewN _ _ _⟩|exact ⟨rfl,_,Eq.trans (World.drewN_drewN _ _ _) (congrArg (World.drewN _) (Nat.add_assoc _ _ _))⟩))|(go_at_call 106;(with_reducible refine (spec_l01Bit.calls (a0_4 == 1) t151 _ A3.out).mono ?_);rintro e w' ⟨rfl,⟨nd,rfl⟩⟩;(try first|exact ⟨rfl,_,World.drewN_drewN _ _ _⟩|exact ⟨rfl,_,Eq.trans (World.drewN_drewN _ _ _) (congrArg (World.drewN _) (Nat.add_assoc _ _ _))⟩)))
 repeat (go_quiet (first|((with_reducible refine gate_dst (N:=1) rfl ?_);refine bxE (N:=1) (cs:=#[.string a0_0,.int .i64 a0_1,.int .i64 a0_2,.int .i64 a0_3,.int .i64 a0_4,.int .i64 a0_5,.int .i64 a0_6,.int .i64 a0_7,.string a0_8,.string a0_9,.bool a0_10]) (t:=34) ?_;intro gb149 hg w4 hbox hb;have BK149:=aMk (hbox);have GW149:=aMk (bZ hg);have GE149:=aMk (bZ hg);replace HB:=aMk (bSt hb);clear hb hbox hg;obtain ⟨Z5_0,Z5_1,Z5_2,Z5_3,Z5_4,Z5_5,Z5_6,Z5_7,Z5_8,Z5_9,Z5_10,Y5_0,Y5_1,Y5_2,Y5_3,Y5_4,Y5_5,Y5_6,Y5_7,Y5_8,Y5_9,Y5_10⟩:=bC11 BK149.out)|(go_at_call 106;(with_reducible refine (spec_l01Bit.calls a0_10 t150 _ A2.out).mono ?_);rintro e w' ⟨rfl,⟨nd,rfl⟩⟩;(try first|exact ⟨rfl,_,World.drewN_drewN _ _ _⟩|exact ⟨rfl,_,Eq.trans (World.drewN_drewN _ _ _) (congrArg (World.drewN _) (Nat.add_assoc _ _ _))⟩))|(go_at_call 106;(with_reducible refine (spec_l01Bit.calls (a0_4 == 1) t151 _ A3.out).mono ?_);rintro e w' ⟨rfl,⟨nd,rfl⟩⟩;(try first|exact ⟨rfl,_,World.drewN_drewN _ _ _⟩|exact ⟨rfl,_,Eq.trans (World.drewN_drewN _ _ _) (congrArg (World.drewN _) (Nat.add_assoc _ _ _))⟩)));try go_wp2_with (first|((with_reducible refine gate_dst (N:=1) rfl ?_);refine bxE (N:=1) (cs:=#[.string a0_0,.int .i64 a0_1,.int .i64 a0_2,.int .i64 a0_3,.int .i64 a0_4,.int .i64 a0_5,.int .i64 a0_6,.int .i64 a0_7,.string a0_8,.string a0_9,.bool a0_10]) (t:=34) ?_;intro gb149 hg w4 hbox hb;have BK149:=aMk (hbox);have GW149:=aMk (bZ hg);have GE149:=aMk (bZ hg);replace HB:=aMk (bSt hb);clear hb hbox hg;obtain ⟨Z5_0,Z5_1,Z5_2,Z5_3,Z5_4,Z5_5,Z5_6,Z5_7,Z5_8,Z5_9,Z5_10,Y5_0,Y5_1,Y5_2,Y5_3,Y5_4,Y5_5,Y5_6,Y5_7,Y5_8,Y5_9,Y5_10⟩:=bC11 BK149.out)|(go_at_call 106;(with_reducible refine (spec_l01Bit.calls a0_10 t150 _ A2.out).mono ?_);rintro e w' ⟨rfl,⟨nd,rfl⟩⟩;(try first|exact ⟨rfl,_,World.drewN_drewN _ _ _⟩|exact ⟨rfl,_,Eq.trans (World.drewN_drewN _ _ _) (congrArg (World.drewN _) (Nat.add_assoc _ _ _))⟩))|(go_at_call 106;(with_reducible refine (spec_l01Bit.calls (a0_4 == 1) t151 _ A3.out).mono ?_);rintro e w' ⟨rfl,⟨nd,rfl⟩⟩;(try first|exact ⟨rfl,_,World.drewN_drewN _ _ _⟩|exact ⟨rfl,_,Eq.trans (World.drewN_drewN _ _ _) (congrArg (World.drewN _) (Nat.add_assoc _ _ _))⟩))))
 go_ret
 exact ⟨eRf,bW⟩
end
section
/-! ### spec_l10Acked: function 120 -/
def spec_l10Acked.j0:Nat→Int→Int→Bool→ByteArray→Int→Int→Int→Int→Int→Int→Int→ByteArray→ByteArray→Bool→Option (ByteArray × Int × Int × Int × Int × Int × Int × Int × ByteArray × ByteArray × Bool)
 | 0,_,_,_,_,_,_,_,_,_,_,_,_,_,_ => none
 | k + 1,x1,x5,x18,x1140000,x1140001,x1140002,x1140003,x1140004,x1140005,x1140006,x1140007,x1140008,x1140009,x1140010 => if x18 = true then (some (x1140000,x1140001,x1140002,x1140003,x1140004,x1140005,x1140006,x1140007,x1140008,x1140009,x1140010)) else (if x1140004 = 1 then (some (x1140000,x1140001,x1140002,x1140003,2,x1,x1140006,x1140007,x1140008,x1140009,x1140010)) else (if x5 > (x1140009.size:Int) then (if x1140004 = 3 then (some (x1140000,x1140001,x1140002,x1140003,4,x1,x1140006,x1140007,x1140008,(⟨#[]⟩:ByteArray),false)) else (some (x1140000,x1140001,x1140002,x1140003,x1140004,x1,x1140006,x1140007,x1140008,(⟨#[]⟩:ByteArray),false))) else (if 0≤x5 then (if x5≤(x1140009.size:Int) then (some (x1140000,x1140001,x1140002,x1140003,x1140004,x1,x1140006,x1140007,x1140008,x1140009.extract (x5:Int).toNat x1140009.size,x1140010)) else (none)) else (none))))
def spec_l10Acked.f (k:Nat) (a0_0:ByteArray) (a0_1 a0_2:Int) (a0_3 a0_4:Int) (a0_5 a0_6 a0_7:Int) (a0_8 a0_9:ByteArray) (a0_10:Bool) (a1:Int):Option (ByteArray × Int × Int × Int × Int × Int × Int × Int × ByteArray × ByteArray × Bool):=(spec_l10Seq.f (wrap64 (a1 - a0_5))).bind fun t1141 => (if t1141 = 0 then (spec_l10Acked.j0 k a1 t1141 true a0_0 a0_1 a0_2 a0_3 a0_4 a0_5 a0_6 a0_7 a0_8 a0_9 a0_10) else ((spec_l10Sent.f a0_0 a0_1 a0_2 a0_3 a0_4 a0_5 a0_6 a0_7 a0_8 a0_9 a0_10).bind fun t1142 => (spec_l10Acked.j0 k a1 t1141 (decide (t1141 > t1142)) a0_0 a0_1 a0_2 a0_3 a0_4 a0_5 a0_6 a0_7 a0_8 a0_9 a0_10)))
theorem spec_l10Acked.mono_l:∀ k,(∀ y0 y1 y2 y3 y4 y5 y6 y7 y8 y9 y10 y11 y12 y13,LeO (spec_l10Acked.j0 k y0 y1 y2 y3 y4 y5 y6 y7 y8 y9 y10 y11 y12 y13) (spec_l10Acked.j0 (k + 1) y0 y1 y2 y3 y4 y5 y6 y7 y8 y9 y10 y11 y12 y13))
 | 0 => fun _ _ _ _ _ _ _ _ _ _ _ _ _ _ r h => by simp [spec_l10Acked.j0] at h
 | k + 1 => by
  have ih0:=spec_l10Acked.mono_l k
  ·intro y0 y1 y2 y3 y4 y5 y6 y7 y8 y9 y10 y11 y12 y13
   unfold spec_l10Acked.j0
   repeat' first
   | (with_reducible exact ih0 _ _ _ _ _ _ _ _ _ _ _ _ _ _)
   | (with_reducible exact LeO.refl _)
   | (with_reducible exact LeO.none _)
   | (with_reducible refine LeO.ite ?_ ?_)
   | (with_reducible refine LeO.bind ?_ (fun _ => ?_))
   | exact ih0 _ _ _ _ _ _ _ _ _ _ _ _ _ _
   | exact LeO.none _
   | refine LeO.ite ?_ ?_
   | refine LeO.bind ?_ (fun _ => ?_)
theorem spec_l10Acked.mono:∀ a0 a1 a2 a3 a4 a5 a6 a7 a8 a9 a10 a11 k,LeO (spec_l10Acked.f k a0 a1 a2 a3 a4 a5 a6 a7 a8 a9 a10 a11) (spec_l10Acked.f (k + 1) a0 a1 a2 a3 a4 a5 a6 a7 a8 a9 a10 a11):=by
 intro a0 a1 a2 a3 a4 a5 a6 a7 a8 a9 a10 a11 k
 have ih0:=spec_l10Acked.mono_l k
 unfold spec_l10Acked.f
 repeat' first
   | (with_reducible exact ih0 _ _ _ _ _ _ _ _ _ _ _ _ _ _)
   | (with_reducible exact LeO.refl _)
   | (with_reducible exact LeO.none _)
   | (with_reducible refine LeO.ite ?_ ?_)
   | (with_reducible refine LeO.bind ?_ (fun _ => ?_))
   | exact ih0 _ _ _ _ _ _ _ _ _ _ _ _ _ _
   | exact LeO.none _
   | refine LeO.ite ?_ ?_
   | refine LeO.bind ?_ (fun _ => ?_)
set_option maxHeartbeats 8000000 in
set_option maxRecDepth 100000 in
theorem spec_l10Acked.calls (k:Nat) (a0_0:ByteArray) (a0_1 a0_2:Int) (a0_3 a0_4:Int) (a0_5 a0_6 a0_7:Int) (a0_8 a0_9:ByteArray) (a0_10:Bool) (a1:Int) (r1:ByteArray) (r2 r3:Int) (r4 r5:Int) (r6 r7 r8:Int) (r9 r10:ByteArray) (r11:Bool) (w:World) (h:spec_l10Acked.f k a0_0 a0_1 a0_2 a0_3 a0_4 a0_5 a0_6 a0_7 a0_8 a0_9 a0_10 a1 = some (r1,r2,r3,r4,r5,r6,r7,r8,r9,r10,r11)) :
  Calls Try.prog 120 #[.agg #[.string a0_0,.int .i64 a0_1,.int .i64 a0_2,.int .i64 a0_3,.int .i64 a0_4,.int .i64 a0_5,.int .i64 a0_6,.int .i64 a0_7,.string a0_8,.string a0_9,.bool a0_10],.int .i64 a1] w fun e w' => e = .returned (.agg #[.string r1,.int .i64 r2,.int .i64 r3,.int .i64 r4,.int .i64 r5,.int .i64 r6,.int .i64 r7,.int .i64 r8,.string r9,.string r10,.bool r11])∧Below w.heap.size w w':=by
 have hu34:=Try.underlying34
 have HB:=aMk (Below.refl w.heap.size w)
 have H:=h
 unfold spec_l10Acked.f at H
 clear h
 replace H:=Option.bind_eq_some_iff.mp H
 obtain ⟨t1141,A30,H⟩:=H
 try dsimp only at H
 have A3:=aMk A30
 clear A30
 have HC4:=aMk H
 clear H
 go_enter Try.func120,Try.ntmps120
 go_upto_region 2 with (first|((with_reducible refine gate_dst (N:=2) rfl ?_);refine bxE (N:=2) (cs:=#[.string a0_0,.int .i64 a0_1,.int .i64 a0_2,.int .i64 a0_3,.int .i64 a0_4,.int .i64 a0_5,.int .i64 a0_6,.int .i64 a0_7,.string a0_8,.string a0_9,.bool a0_10]) (t:=34) ?_;intro gb1139 hg w5 hbox hb;have BK1139:=aMk (hbox);have GW1139:=aMk (bZ hg);have GE1139:=aMk (bZ hg);replace HB:=aMk (bSt hb);clear hb hbox hg)|((with_reducible refine gate_dst (N:=4) rfl ?_);refine bxE (N:=4) (cs:=#[.string (⟨#[]⟩:ByteArray),.int .i64 0,.int .i64 0,.int .i64 0,.int .i64 0,.int .i64 0,.int .i64 0,.int .i64 0,.string (⟨#[]⟩:ByteArray),.string (⟨#[]⟩:ByteArray),.bool false]) (t:=34) ?_;intro gb1140 hg w6 hbox hb;have BK1140:=aMk (hbox);have GW1140:=aMk (bG bW hg);have GE1140:=aMk (bG bW hg);replace HB:=aMk (bU hb);have NB1139_1140:=aMk ((bkL BK1139.out hg:gb1139 ≠ gb1140));have NB1140_1139:=aMk ((bkG BK1139.out hg:gb1140 ≠ gb1139));replace BK1139:=aMk (bkB BK1139.out hb);clear hb hbox hg;have hnb7:=NB1139_1140.out;have hnc7:=NB1140_1139.out;obtain ⟨Z8_0,Z8_1,Z8_2,Z8_3,Z8_4,Z8_5,Z8_6,Z8_7,Z8_8,Z8_9,Z8_10,Y8_0,Y8_1,Y8_2,Y8_3,Y8_4,Y8_5,Y8_6,Y8_7,Y8_8,Y8_9,Y8_10⟩:=bC11 BK1139.out)|((with_reducible refine gate_callee (f:=70) rfl ?_);refine gLs 10 Try.func70 #[.int .i64 (wrap64 (a1 - a0_5))] ?_;(with_reducible refine (spec_l10Seq.calls (wrap64 (a1 - a0_5)) t1141 _ A3.out).mono ?_);rintro e w' ⟨rfl,⟨nd,rfl⟩⟩;refine ⟨_,rfl,?_⟩))
 (try simp only [Act.put,List.setIfInBounds_toArray,List.set_cons_zero,List.set_cons_succ])
 go_cut [18] (fun v18 wc => ∃ (kq:Nat) (x18_3:Bool),v18 = .bool x18_3∧Aside0 (spec_l10Acked.j0 kq a1 t1141 x18_3 a0_0 a0_1 a0_2 a0_3 a0_4 a0_5 a0_6 a0_7 a0_8 a0_9 a0_10 = some (r1,r2,r3,r4,r5,r6,r7,r8,r9,r10,r11))∧Aside0 (kq≤k)∧Aside0 (wc.heap[gb1139]? = some (.cells #[.string a0_0,.int .i64 a0_1,.int .i64 a0_2,.int .i64 a0_3,.int .i64 a0_4,.int .i64 a0_5,.int .i64 a0_6,.int .i64 a0_7,.string a0_8,.string a0_9,.bool a0_10] 34 (0,0)))∧Aside0 (wc.heap[gb1140]? = some (.cells #[.string (⟨#[]⟩:ByteArray),.int .i64 0,.int .i64 0,.int .i64 0,.int .i64 0,.int .i64 0,.int .i64 0,.int .i64 0,.string (⟨#[]⟩:ByteArray),.string (⟨#[]⟩:ByteArray),.bool false] 34 (0,0)))∧Aside0 (Below w.heap.size w wc))
 case first =>
  have H:=HC4.out
  clear HC4
  by_cases c9:t1141 = 0
  ·rw [if_pos c9] at H
   have c9b0:(t1141 == 0) = true:=beq_iff_eq.mpr c9
   have c9b1:(t1141 != 0) = false:=bne_eq_false_iff_eq.mpr c9
   clear c9
   (first|rw [c9b0]|(simp only [i64_w,i32_w];rw [c9b0]) | skip)
   have H':=aMk H
   clear H
   go_wp2
   go_meet
   case rel => exact ⟨_,(true),rfS,H',⟨by first | omega|exact Nat.le_refl _⟩,⟨by refine pB ?_;exact BK1139.out⟩,⟨by refine pB ?_;exact BK1140.out⟩,⟨bW⟩⟩
  ·rw [if_neg c9] at H
   have c9b0:(t1141 == 0) = false:=beq_eq_false_iff_ne.mpr c9
   have c9b1:(t1141 != 0) = true:=bne_iff_ne.mpr c9
   (first|rw [c9b0]|(simp only [i64_w,i32_w];rw [c9b0]) | skip)
   replace H:=Option.bind_eq_some_iff.mp H
   obtain ⟨t1142,A100,H⟩:=H
   try dsimp only at H
   have A10:=aMk A100
   clear A100
   have H':=aMk H
   clear H
   have hnb11:=NB1139_1140.out
   have hnc11:=NB1140_1139.out
   obtain ⟨Z12_0,Z12_1,Z12_2,Z12_3,Z12_4,Z12_5,Z12_6,Z12_7,Z12_8,Z12_9,Z12_10,Y12_0,Y12_1,Y12_2,Y12_3,Y12_4,Y12_5,Y12_6,Y12_7,Y12_8,Y12_9,Y12_10⟩:=bC11 BK1139.out
   go_wp2_with (first|(go_at_call 71;(with_reducible refine (spec_l10Sent.calls a0_0 a0_1 a0_2 a0_3 a0_4 a0_5 a0_6 a0_7 a0_8 a0_9 a0_10 t1142 _ A10.out).mono ?_);rintro e w13 ⟨rfl,hb⟩;replace BK1139:=aMk (bkB BK1139.out hb);replace BK1140:=aMk (bkB BK1140.out hb);replace HB:=aMk (bU hb)))
   go_meet
   case rel => exact ⟨_,(decide (t1141 > t1142)),rfS,H',⟨by first | omega|exact Nat.le_refl _⟩,⟨by refine pB ?_;exact BK1139.out⟩,⟨by refine pB ?_;exact BK1140.out⟩,⟨bW⟩⟩
 case rest =>
  clear HC4
  try clear Z12_0 Z12_1 Z12_10 Z12_2 Z12_3 Z12_4 Z12_5 Z12_6 Z12_7 Z12_8 Z12_9
  try clear Z8_0 Z8_1 Z8_10 Z8_2 Z8_3 Z8_4 Z8_5 Z8_6 Z8_7 Z8_8 Z8_9
  try clear Y12_0 Y12_1 Y12_10 Y12_2 Y12_3 Y12_4 Y12_5 Y12_6 Y12_7 Y12_8 Y12_9
  try clear Y8_0 Y8_1 Y8_10 Y8_2 Y8_3 Y8_4 Y8_5 Y8_6 Y8_7 Y8_8 Y8_9
  obtain ⟨kq,x18_3,rfl,HA,HJ3,BK1139,BK1140,HB⟩:=hcut
  cases kq with
  | zero => exact absurd HA.out (by simp [spec_l10Acked.j0])
  | succ kj3 =>
   have H:=HA.out
   clear HA
   simp only [spec_l10Acked.j0] at H
   by_cases c14:x18_3 = true
   ·subst c14
    have H1:=H
    rw [if_pos rfl] at H1
    clear H
    have H:=H1
    clear H1
    simp only [Option.some.injEq,Prod.mk.injEq] at H
    obtain ⟨rfl,rfl,rfl,rfl,rfl,rfl,rfl,rfl,rfl,rfl,rfl⟩:=H
    have hnb15:=NB1139_1140.out
    have hnc15:=NB1140_1139.out
    obtain ⟨Z16_0,Z16_1,Z16_2,Z16_3,Z16_4,Z16_5,Z16_6,Z16_7,Z16_8,Z16_9,Z16_10,Y16_0,Y16_1,Y16_2,Y16_3,Y16_4,Y16_5,Y16_6,Y16_7,Y16_8,Y16_9,Y16_10⟩:=bC11 BK1139.out
    obtain ⟨Z17_0,Z17_1,Z17_2,Z17_3,Z17_4,Z17_5,Z17_6,Z17_7,Z17_8,Z17_9,Z17_10,Y17_0,Y17_1,Y17_2,Y17_3,Y17_4,Y17_5,Y17_6,Y17_7,Y17_8,Y17_9,Y17_10⟩:=bC11 BK1140.out
    go_wp2
    refine bodyPost_ret (results_cell_row rfl _ _ gb1140 34 #[.string a0_0,.int .i64 a0_1,.int .i64 a0_2,.int .i64 a0_3,.int .i64 a0_4,.int .i64 a0_5,.int .i64 a0_6,.int .i64 a0_7,.string a0_8,.string a0_9,.bool a0_10] (0,0) _ rfl (by refine pB ?_;refine blk_put (cs:=#[.string a0_0,.int .i64 a0_1,.int .i64 a0_2,.int .i64 a0_3,.int .i64 a0_4,.int .i64 a0_5,.int .i64 a0_6,.int .i64 a0_7,.string a0_8,.string a0_9,.bool false]) ?_ 10 _ rfl;refine pB ?_;refine blk_put (cs:=#[.string a0_0,.int .i64 a0_1,.int .i64 a0_2,.int .i64 a0_3,.int .i64 a0_4,.int .i64 a0_5,.int .i64 a0_6,.int .i64 a0_7,.string a0_8,.string (⟨#[]⟩:ByteArray),.bool false]) ?_ 9 _ rfl;refine pB ?_;refine blk_put (cs:=#[.string a0_0,.int .i64 a0_1,.int .i64 a0_2,.int .i64 a0_3,.int .i64 a0_4,.int .i64 a0_5,.int .i64 a0_6,.int .i64 a0_7,.string (⟨#[]⟩:ByteArray),.string (⟨#[]⟩:ByteArray),.bool false]) ?_ 8 _ rfl;refine pB ?_;refine blk_put (cs:=#[.string a0_0,.int .i64 a0_1,.int .i64 a0_2,.int .i64 a0_3,.int .i64 a0_4,.int .i64 a0_5,.int .i64 a0_6,.int .i64 0,.string (⟨#[]⟩:ByteArray),.string (⟨#[]⟩:ByteArray),.bool false]) ?_ 7 _ rfl;refine pB ?_;refine blk_put (cs:=#[.string a0_0,.int .i64 a0_1,.int .i64 a0_2,.int .i64 a0_3,.int .i64 a0_4,.int .i64 a0_5,.int .i64 0,.int .i64 0,.string (⟨#[]⟩:ByteArray),.string (⟨#[]⟩:ByteArray),.bool false]) ?_ 6 _ rfl;refine pB ?_;refine blk_put (cs:=#[.string a0_0,.int .i64 a0_1,.int .i64 a0_2,.int .i64 a0_3,.int .i64 a0_4,.int .i64 0,.int .i64 0,.int .i64 0,.string (⟨#[]⟩:ByteArray),.string (⟨#[]⟩:ByteArray),.bool false]) ?_ 5 _ rfl;refine pB ?_;refine blk_put (cs:=#[.string a0_0,.int .i64 a0_1,.int .i64 a0_2,.int .i64 a0_3,.int .i64 0,.int .i64 0,.int .i64 0,.int .i64 0,.string (⟨#[]⟩:ByteArray),.string (⟨#[]⟩:ByteArray),.bool false]) ?_ 4 _ rfl;refine pB ?_;refine blk_put (cs:=#[.string a0_0,.int .i64 a0_1,.int .i64 a0_2,.int .i64 0,.int .i64 0,.int .i64 0,.int .i64 0,.int .i64 0,.string (⟨#[]⟩:ByteArray),.string (⟨#[]⟩:ByteArray),.bool false]) ?_ 3 _ rfl;refine pB ?_;refine blk_put (cs:=#[.string a0_0,.int .i64 a0_1,.int .i64 0,.int .i64 0,.int .i64 0,.int .i64 0,.int .i64 0,.int .i64 0,.string (⟨#[]⟩:ByteArray),.string (⟨#[]⟩:ByteArray),.bool false]) ?_ 2 _ rfl;refine pB ?_;refine blk_put (cs:=#[.string a0_0,.int .i64 0,.int .i64 0,.int .i64 0,.int .i64 0,.int .i64 0,.int .i64 0,.int .i64 0,.string (⟨#[]⟩:ByteArray),.string (⟨#[]⟩:ByteArray),.bool false]) ?_ 1 _ rfl;refine pB ?_;refine blk_put (cs:=#[.string (⟨#[]⟩:ByteArray),.int .i64 0,.int .i64 0,.int .i64 0,.int .i64 0,.int .i64 0,.int .i64 0,.int .i64 0,.string (⟨#[]⟩:ByteArray),.string (⟨#[]⟩:ByteArray),.bool false]) ?_ 0 _ rfl;refine pB ?_;exact BK1140.out) Try.underlying34 rfl (by kernel_rfl)) rfl ?_
    exact ⟨eRf,bW⟩
   ·replace c14:=Bool.eq_false_iff.mpr c14
    subst c14
    have H1:=H
    rw [if_neg (show ¬ (false = true) by decide)] at H1
    clear H
    have H:=H1
    clear H1
    by_cases c18:a0_4 = 1
    ·rw [if_pos c18] at H
     have c18b0:(a0_4 == 1) = true:=beq_iff_eq.mpr c18
     have c18b1:(a0_4 != 1) = false:=bne_eq_false_iff_eq.mpr c18
     clear c18
     simp only [Option.some.injEq,Prod.mk.injEq] at H
     obtain ⟨rfl,rfl,rfl,rfl,rfl,rfl,rfl,rfl,rfl,rfl,rfl⟩:=H
     have hnb19:=NB1139_1140.out
     have hnc19:=NB1140_1139.out
     obtain ⟨Z20_0,Z20_1,Z20_2,Z20_3,Z20_4,Z20_5,Z20_6,Z20_7,Z20_8,Z20_9,Z20_10,Y20_0,Y20_1,Y20_2,Y20_3,Y20_4,Y20_5,Y20_6,Y20_7,Y20_8,Y20_9,Y20_10⟩:=bC11 BK1139.out
     obtain ⟨Z21_0,Z21_1,Z21_2,Z21_3,Z21_4,Z21_5,Z21_6,Z21_7,Z21_8,Z21_9,Z21_10,Y21_0,Y21_1,Y21_2,Y21_3,Y21_4,Y21_5,Y21_6,Y21_7,Y21_8,Y21_9,Y21_10⟩:=bC11 BK1140.out
     go_wp2
     refine bodyPost_ret (results_cell_row rfl _ _ gb1140 34 #[.string a0_0,.int .i64 a0_1,.int .i64 a0_2,.int .i64 a0_3,.int .i64 2,.int .i64 a1,.int .i64 a0_6,.int .i64 a0_7,.string a0_8,.string a0_9,.bool a0_10] (0,0) _ rfl (by refine pB ?_;refine blk_put (cs:=#[.string a0_0,.int .i64 a0_1,.int .i64 a0_2,.int .i64 a0_3,.int .i64 2,.int .i64 a1,.int .i64 a0_6,.int .i64 a0_7,.string a0_8,.string a0_9,.bool false]) ?_ 10 _ rfl;refine pB ?_;refine blk_put (cs:=#[.string a0_0,.int .i64 a0_1,.int .i64 a0_2,.int .i64 a0_3,.int .i64 2,.int .i64 a1,.int .i64 a0_6,.int .i64 a0_7,.string a0_8,.string (⟨#[]⟩:ByteArray),.bool false]) ?_ 9 _ rfl;refine pB ?_;refine blk_put (cs:=#[.string a0_0,.int .i64 a0_1,.int .i64 a0_2,.int .i64 a0_3,.int .i64 2,.int .i64 a1,.int .i64 a0_6,.int .i64 a0_7,.string (⟨#[]⟩:ByteArray),.string (⟨#[]⟩:ByteArray),.bool false]) ?_ 8 _ rfl;refine pB ?_;refine blk_put (cs:=#[.string a0_0,.int .i64 a0_1,.int .i64 a0_2,.int .i64 a0_3,.int .i64 2,.int .i64 a1,.int .i64 a0_6,.int .i64 0,.string (⟨#[]⟩:ByteArray),.string (⟨#[]⟩:ByteArray),.bool false]) ?_ 7 _ rfl;refine pB ?_;refine blk_put (cs:=#[.string a0_0,.int .i64 a0_1,.int .i64 a0_2,.int .i64 a0_3,.int .i64 2,.int .i64 a1,.int .i64 0,.int .i64 0,.string (⟨#[]⟩:ByteArray),.string (⟨#[]⟩:ByteArray),.bool false]) ?_ 6 _ rfl;refine pB ?_;refine blk_put (cs:=#[.string a0_0,.int .i64 a0_1,.int .i64 a0_2,.int .i64 a0_3,.int .i64 2,.int .i64 0,.int .i64 0,.int .i64 0,.string (⟨#[]⟩:ByteArray),.string (⟨#[]⟩:ByteArray),.bool false]) ?_ 5 _ rfl;refine pB ?_;refine blk_put (cs:=#[.string a0_0,.int .i64 a0_1,.int .i64 a0_2,.int .i64 a0_3,.int .i64 0,.int .i64 0,.int .i64 0,.int .i64 0,.string (⟨#[]⟩:ByteArray),.string (⟨#[]⟩:ByteArray),.bool false]) ?_ 4 _ rfl;refine pB ?_;refine blk_put (cs:=#[.string a0_0,.int .i64 a0_1,.int .i64 a0_2,.int .i64 0,.int .i64 0,.int .i64 0,.int .i64 0,.int .i64 0,.string (⟨#[]⟩:ByteArray),.string (⟨#[]⟩:ByteArray),.bool false]) ?_ 3 _ rfl;refine pB ?_;refine blk_put (cs:=#[.string a0_0,.int .i64 a0_1,.int .i64 0,.int .i64 0,.int .i64 0,.int .i64 0,.int .i64 0,.int .i64 0,.string (⟨#[]⟩:ByteArray),.string (⟨#[]⟩:ByteArray),.bool false]) ?_ 2 _ rfl;refine pB ?_;refine blk_put (cs:=#[.string a0_0,.int .i64 0,.int .i64 0,.int .i64 0,.int .i64 0,.int .i64 0,.int .i64 0,.int .i64 0,.string (⟨#[]⟩:ByteArray),.string (⟨#[]⟩:ByteArray),.bool false]) ?_ 1 _ rfl;refine pB ?_;refine blk_put (cs:=#[.string (⟨#[]⟩:ByteArray),.int .i64 0,.int .i64 0,.int .i64 0,.int .i64 0,.int .i64 0,.int .i64 0,.int .i64 0,.string (⟨#[]⟩:ByteArray),.string (⟨#[]⟩:ByteArray),.bool false]) ?_ 0 _ rfl;refine pB ?_;refine blk_far ?_ NB1140_1139.out _;refine pB ?_;refine blk_far ?_ NB1140_1139.out _;refine pB ?_;exact BK1140.out) Try.underlying34 rfl (by kernel_rfl)) rfl ?_
     exact ⟨eRf,bW⟩
    ·rw [if_neg c18] at H
     have c18b0:(a0_4 == 1) = false:=beq_eq_false_iff_ne.mpr c18
     have c18b1:(a0_4 != 1) = true:=bne_iff_ne.mpr c18
     by_cases c22:t1141 > (a0_9.size:Int)
     ·rw [if_pos c22] at H
      have c22b0:decide ((a0_9.size:Int) < t1141) = true:=decide_eq_true c22
      clear c22
      by_cases c23:a0_4 = 3
      ·rw [if_pos c23] at H
       have c23b0:(a0_4 == 3) = true:=beq_iff_eq.mpr c23
       have c23b1:(a0_4 != 3) = false:=bne_eq_false_iff_eq.mpr c23
       clear c23
       simp only [Option.some.injEq,Prod.mk.injEq] at H
       obtain ⟨rfl,rfl,rfl,rfl,rfl,rfl,rfl,rfl,rfl,rfl,rfl⟩:=H
       have hnb24:=NB1139_1140.out
       have hnc24:=NB1140_1139.out
       obtain ⟨Z25_0,Z25_1,Z25_2,Z25_3,Z25_4,Z25_5,Z25_6,Z25_7,Z25_8,Z25_9,Z25_10,Y25_0,Y25_1,Y25_2,Y25_3,Y25_4,Y25_5,Y25_6,Y25_7,Y25_8,Y25_9,Y25_10⟩:=bC11 BK1139.out
       obtain ⟨Z26_0,Z26_1,Z26_2,Z26_3,Z26_4,Z26_5,Z26_6,Z26_7,Z26_8,Z26_9,Z26_10,Y26_0,Y26_1,Y26_2,Y26_3,Y26_4,Y26_5,Y26_6,Y26_7,Y26_8,Y26_9,Y26_10⟩:=bC11 BK1140.out
       go_wp2
       refine bodyPost_ret (results_cell_row rfl _ _ gb1140 34 #[.string a0_0,.int .i64 a0_1,.int .i64 a0_2,.int .i64 a0_3,.int .i64 4,.int .i64 a1,.int .i64 a0_6,.int .i64 a0_7,.string a0_8,.string (⟨#[]⟩:ByteArray),.bool false] (0,0) _ rfl (by refine pB ?_;refine blk_put (cs:=#[.string a0_0,.int .i64 a0_1,.int .i64 a0_2,.int .i64 a0_3,.int .i64 4,.int .i64 a1,.int .i64 a0_6,.int .i64 a0_7,.string a0_8,.string (⟨#[]⟩:ByteArray),.bool false]) ?_ 10 _ rfl;refine pB ?_;refine blk_put (cs:=#[.string a0_0,.int .i64 a0_1,.int .i64 a0_2,.int .i64 a0_3,.int .i64 4,.int .i64 a1,.int .i64 a0_6,.int .i64 a0_7,.string a0_8,.string (⟨#[]⟩:ByteArray),.bool false]) ?_ 9 _ rfl;refine pB ?_;refine blk_put (cs:=#[.string a0_0,.int .i64 a0_1,.int .i64 a0_2,.int .i64 a0_3,.int .i64 4,.int .i64 a1,.int .i64 a0_6,.int .i64 a0_7,.string (⟨#[]⟩:ByteArray),.string (⟨#[]⟩:ByteArray),.bool false]) ?_ 8 _ rfl;refine pB ?_;refine blk_put (cs:=#[.string a0_0,.int .i64 a0_1,.int .i64 a0_2,.int .i64 a0_3,.int .i64 4,.int .i64 a1,.int .i64 a0_6,.int .i64 0,.string (⟨#[]⟩:ByteArray),.string (⟨#[]⟩:ByteArray),.bool false]) ?_ 7 _ rfl;refine pB ?_;refine blk_put (cs:=#[.string a0_0,.int .i64 a0_1,.int .i64 a0_2,.int .i64 a0_3,.int .i64 4,.int .i64 a1,.int .i64 0,.int .i64 0,.string (⟨#[]⟩:ByteArray),.string (⟨#[]⟩:ByteArray),.bool false]) ?_ 6 _ rfl;refine pB ?_;refine blk_put (cs:=#[.string a0_0,.int .i64 a0_1,.int .i64 a0_2,.int .i64 a0_3,.int .i64 4,.int .i64 0,.int .i64 0,.int .i64 0,.string (⟨#[]⟩:ByteArray),.string (⟨#[]⟩:ByteArray),.bool false]) ?_ 5 _ rfl;refine pB ?_;refine blk_put (cs:=#[.string a0_0,.int .i64 a0_1,.int .i64 a0_2,.int .i64 a0_3,.int .i64 0,.int .i64 0,.int .i64 0,.int .i64 0,.string (⟨#[]⟩:ByteArray),.string (⟨#[]⟩:ByteArray),.bool false]) ?_ 4 _ rfl;refine pB ?_;refine blk_put (cs:=#[.string a0_0,.int .i64 a0_1,.int .i64 a0_2,.int .i64 0,.int .i64 0,.int .i64 0,.int .i64 0,.int .i64 0,.string (⟨#[]⟩:ByteArray),.string (⟨#[]⟩:ByteArray),.bool false]) ?_ 3 _ rfl;refine pB ?_;refine blk_put (cs:=#[.string a0_0,.int .i64 a0_1,.int .i64 0,.int .i64 0,.int .i64 0,.int .i64 0,.int .i64 0,.int .i64 0,.string (⟨#[]⟩:ByteArray),.string (⟨#[]⟩:ByteArray),.bool false]) ?_ 2 _ rfl;refine pB ?_;refine blk_put (cs:=#[.string a0_0,.int .i64 0,.int .i64 0,.int .i64 0,.int .i64 0,.int .i64 0,.int .i64 0,.int .i64 0,.string (⟨#[]⟩:ByteArray),.string (⟨#[]⟩:ByteArray),.bool false]) ?_ 1 _ rfl;refine pB ?_;refine blk_put (cs:=#[.string (⟨#[]⟩:ByteArray),.int .i64 0,.int .i64 0,.int .i64 0,.int .i64 0,.int .i64 0,.int .i64 0,.int .i64 0,.string (⟨#[]⟩:ByteArray),.string (⟨#[]⟩:ByteArray),.bool false]) ?_ 0 _ rfl;refine pB ?_;refine blk_far ?_ NB1140_1139.out _;refine pB ?_;refine blk_far ?_ NB1140_1139.out _;refine pB ?_;refine blk_far ?_ NB1140_1139.out _;refine pB ?_;refine blk_far ?_ NB1140_1139.out _;refine pB ?_;exact BK1140.out) Try.underlying34 rfl (by kernel_rfl)) rfl ?_
       exact ⟨eRf,bW⟩
      ·rw [if_neg c23] at H
       have c23b0:(a0_4 == 3) = false:=beq_eq_false_iff_ne.mpr c23
       have c23b1:(a0_4 != 3) = true:=bne_iff_ne.mpr c23
       simp only [Option.some.injEq,Prod.mk.injEq] at H
       obtain ⟨rfl,rfl,rfl,rfl,rfl,rfl,rfl,rfl,rfl,rfl,rfl⟩:=H
       have hnb27:=NB1139_1140.out
       have hnc27:=NB1140_1139.out
       obtain ⟨Z28_0,Z28_1,Z28_2,Z28_3,Z28_4,Z28_5,Z28_6,Z28_7,Z28_8,Z28_9,Z28_10,Y28_0,Y28_1,Y28_2,Y28_3,Y28_4,Y28_5,Y28_6,Y28_7,Y28_8,Y28_9,Y28_10⟩:=bC11 BK1139.out
       obtain ⟨Z29_0,Z29_1,Z29_2,Z29_3,Z29_4,Z29_5,Z29_6,Z29_7,Z29_8,Z29_9,Z29_10,Y29_0,Y29_1,Y29_2,Y29_3,Y29_4,Y29_5,Y29_6,Y29_7,Y29_8,Y29_9,Y29_10⟩:=bC11 BK1140.out
       go_wp2
       refine bodyPost_ret (results_cell_row rfl _ _ gb1140 34 #[.string a0_0,.int .i64 a0_1,.int .i64 a0_2,.int .i64 a0_3,.int .i64 a0_4,.int .i64 a1,.int .i64 a0_6,.int .i64 a0_7,.string a0_8,.string (⟨#[]⟩:ByteArray),.bool false] (0,0) _ rfl (by refine pB ?_;refine blk_put (cs:=#[.string a0_0,.int .i64 a0_1,.int .i64 a0_2,.int .i64 a0_3,.int .i64 a0_4,.int .i64 a1,.int .i64 a0_6,.int .i64 a0_7,.string a0_8,.string (⟨#[]⟩:ByteArray),.bool false]) ?_ 10 _ rfl;refine pB ?_;refine blk_put (cs:=#[.string a0_0,.int .i64 a0_1,.int .i64 a0_2,.int .i64 a0_3,.int .i64 a0_4,.int .i64 a1,.int .i64 a0_6,.int .i64 a0_7,.string a0_8,.string (⟨#[]⟩:ByteArray),.bool false]) ?_ 9 _ rfl;refine pB ?_;refine blk_put (cs:=#[.string a0_0,.int .i64 a0_1,.int .i64 a0_2,.int .i64 a0_3,.int .i64 a0_4,.int .i64 a1,.int .i64 a0_6,.int .i64 a0_7,.string (⟨#[]⟩:ByteArray),.string (⟨#[]⟩:ByteArray),.bool false]) ?_ 8 _ rfl;refine pB ?_;refine blk_put (cs:=#[.string a0_0,.int .i64 a0_1,.int .i64 a0_2,.int .i64 a0_3,.int .i64 a0_4,.int .i64 a1,.int .i64 a0_6,.int .i64 0,.string (⟨#[]⟩:ByteArray),.string (⟨#[]⟩:ByteArray),.bool false]) ?_ 7 _ rfl;refine pB ?_;refine blk_put (cs:=#[.string a0_0,.int .i64 a0_1,.int .i64 a0_2,.int .i64 a0_3,.int .i64 a0_4,.int .i64 a1,.int .i64 0,.int .i64 0,.string (⟨#[]⟩:ByteArray),.string (⟨#[]⟩:ByteArray),.bool false]) ?_ 6 _ rfl;refine pB ?_;refine blk_put (cs:=#[.string a0_0,.int .i64 a0_1,.int .i64 a0_2,.int .i64 a0_3,.int .i64 a0_4,.int .i64 0,.int .i64 0,.int .i64 0,.string (⟨#[]⟩:ByteArray),.string (⟨#[]⟩:ByteArray),.bool false]) ?_ 5 _ rfl;refine pB ?_;refine blk_put (cs:=#[.string a0_0,.int .i64 a0_1,.int .i64 a0_2,.int .i64 a0_3,.int .i64 0,.int .i64 0,.int .i64 0,.int .i64 0,.string (⟨#[]⟩:ByteArray),.string (⟨#[]⟩:ByteArray),.bool false]) ?_ 4 _ rfl;refine pB ?_;refine blk_put (cs:=#[.string a0_0,.int .i64 a0_1,.int .i64 a0_2,.int .i64 0,.int .i64 0,.int .i64 0,.int .i64 0,.int .i64 0,.string (⟨#[]⟩:ByteArray),.string (⟨#[]⟩:ByteArray),.bool false]) ?_ 3 _ rfl;refine pB ?_;refine blk_put (cs:=#[.string a0_0,.int .i64 a0_1,.int .i64 0,.int .i64 0,.int .i64 0,.int .i64 0,.int .i64 0,.int .i64 0,.string (⟨#[]⟩:ByteArray),.string (⟨#[]⟩:ByteArray),.bool false]) ?_ 2 _ rfl;refine pB ?_;refine blk_put (cs:=#[.string a0_0,.int .i64 0,.int .i64 0,.int .i64 0,.int .i64 0,.int .i64 0,.int .i64 0,.int .i64 0,.string (⟨#[]⟩:ByteArray),.string (⟨#[]⟩:ByteArray),.bool false]) ?_ 1 _ rfl;refine pB ?_;refine blk_put (cs:=#[.string (⟨#[]⟩:ByteArray),.int .i64 0,.int .i64 0,.int .i64 0,.int .i64 0,.int .i64 0,.int .i64 0,.int .i64 0,.string (⟨#[]⟩:ByteArray),.string (⟨#[]⟩:ByteArray),.bool false]) ?_ 0 _ rfl;refine pB ?_;refine blk_far ?_ NB1140_1139.out _;refine pB ?_;refine blk_far ?_ NB1140_1139.out _;refine pB ?_;refine blk_far ?_ NB1140_1139.out _;refine pB ?_;exact BK1140.out) Try.underlying34 rfl (by kernel_rfl)) rfl ?_
       exact ⟨eRf,bW⟩
     ·rw [if_neg c22] at H
      have c22b0:decide ((a0_9.size:Int) < t1141) = false:=decide_eq_false c22
      clear c22
      by_cases c30:0≤t1141
      ·rw [if_pos c30] at H
       have c30b0:=eq_true c30
       have c30b1:decide (0≤t1141) = true:=decide_eq_true c30
       clear c30
       by_cases c31:t1141≤(a0_9.size:Int)
       ·rw [if_pos c31] at H
        have c31b0:=eq_true c31
        have c31b1:decide (t1141≤(a0_9.size:Int)) = true:=decide_eq_true c31
        clear c31
        simp only [Option.some.injEq,Prod.mk.injEq] at H
        obtain ⟨rfl,rfl,rfl,rfl,rfl,rfl,rfl,rfl,rfl,rfl,rfl⟩:=H
        have hnb32:=NB1139_1140.out
        have hnc32:=NB1140_1139.out
        obtain ⟨Z33_0,Z33_1,Z33_2,Z33_3,Z33_4,Z33_5,Z33_6,Z33_7,Z33_8,Z33_9,Z33_10,Y33_0,Y33_1,Y33_2,Y33_3,Y33_4,Y33_5,Y33_6,Y33_7,Y33_8,Y33_9,Y33_10⟩:=bC11 BK1139.out
        obtain ⟨Z34_0,Z34_1,Z34_2,Z34_3,Z34_4,Z34_5,Z34_6,Z34_7,Z34_8,Z34_9,Z34_10,Y34_0,Y34_1,Y34_2,Y34_3,Y34_4,Y34_5,Y34_6,Y34_7,Y34_8,Y34_9,Y34_10⟩:=bC11 BK1140.out
        go_wp2
        refine bodyPost_ret (results_cell_row rfl _ _ gb1140 34 #[.string a0_0,.int .i64 a0_1,.int .i64 a0_2,.int .i64 a0_3,.int .i64 a0_4,.int .i64 a1,.int .i64 a0_6,.int .i64 a0_7,.string a0_8,.string (a0_9.extract (t1141:Int).toNat a0_9.size),.bool a0_10] (0,0) _ rfl (by refine pB ?_;refine blk_put (cs:=#[.string a0_0,.int .i64 a0_1,.int .i64 a0_2,.int .i64 a0_3,.int .i64 a0_4,.int .i64 a1,.int .i64 a0_6,.int .i64 a0_7,.string a0_8,.string (a0_9.extract (t1141:Int).toNat a0_9.size),.bool false]) ?_ 10 _ rfl;refine pB ?_;refine blk_put (cs:=#[.string a0_0,.int .i64 a0_1,.int .i64 a0_2,.int .i64 a0_3,.int .i64 a0_4,.int .i64 a1,.int .i64 a0_6,.int .i64 a0_7,.string a0_8,.string (⟨#[]⟩:ByteArray),.bool false]) ?_ 9 _ rfl;refine pB ?_;refine blk_put (cs:=#[.string a0_0,.int .i64 a0_1,.int .i64 a0_2,.int .i64 a0_3,.int .i64 a0_4,.int .i64 a1,.int .i64 a0_6,.int .i64 a0_7,.string (⟨#[]⟩:ByteArray),.string (⟨#[]⟩:ByteArray),.bool false]) ?_ 8 _ rfl;refine pB ?_;refine blk_put (cs:=#[.string a0_0,.int .i64 a0_1,.int .i64 a0_2,.int .i64 a0_3,.int .i64 a0_4,.int .i64 a1,.int .i64 a0_6,.int .i64 0,.string (⟨#[]⟩:ByteArray),.string (⟨#[]⟩:ByteArray),.bool false]) ?_ 7 _ rfl;refine pB ?_;refine blk_put (cs:=#[.string a0_0,.int .i64 a0_1,.int .i64 a0_2,.int .i64 a0_3,.int .i64 a0_4,.int .i64 a1,.int .i64 0,.int .i64 0,.string (⟨#[]⟩:ByteArray),.string (⟨#[]⟩:ByteArray),.bool false]) ?_ 6 _ rfl;refine pB ?_;refine blk_put (cs:=#[.string a0_0,.int .i64 a0_1,.int .i64 a0_2,.int .i64 a0_3,.int .i64 a0_4,.int .i64 0,.int .i64 0,.int .i64 0,.string (⟨#[]⟩:ByteArray),.string (⟨#[]⟩:ByteArray),.bool false]) ?_ 5 _ rfl;refine pB ?_;refine blk_put (cs:=#[.string a0_0,.int .i64 a0_1,.int .i64 a0_2,.int .i64 a0_3,.int .i64 0,.int .i64 0,.int .i64 0,.int .i64 0,.string (⟨#[]⟩:ByteArray),.string (⟨#[]⟩:ByteArray),.bool false]) ?_ 4 _ rfl;refine pB ?_;refine blk_put (cs:=#[.string a0_0,.int .i64 a0_1,.int .i64 a0_2,.int .i64 0,.int .i64 0,.int .i64 0,.int .i64 0,.int .i64 0,.string (⟨#[]⟩:ByteArray),.string (⟨#[]⟩:ByteArray),.bool false]) ?_ 3 _ rfl;refine pB ?_;refine blk_put (cs:=#[.string a0_0,.int .i64 a0_1,.int .i64 0,.int .i64 0,.int .i64 0,.int .i64 0,.int .i64 0,.int .i64 0,.string (⟨#[]⟩:ByteArray),.string (⟨#[]⟩:ByteArray),.bool false]) ?_ 2 _ rfl;refine pB ?_;refine blk_put (cs:=#[.string a0_0,.int .i64 0,.int .i64 0,.int .i64 0,.int .i64 0,.int .i64 0,.int .i64 0,.int .i64 0,.string (⟨#[]⟩:ByteArray),.string (⟨#[]⟩:ByteArray),.bool false]) ?_ 1 _ rfl;refine pB ?_;refine blk_put (cs:=#[.string (⟨#[]⟩:ByteArray),.int .i64 0,.int .i64 0,.int .i64 0,.int .i64 0,.int .i64 0,.int .i64 0,.int .i64 0,.string (⟨#[]⟩:ByteArray),.string (⟨#[]⟩:ByteArray),.bool false]) ?_ 0 _ rfl;refine pB ?_;refine blk_far ?_ NB1140_1139.out _;refine pB ?_;refine blk_far ?_ NB1140_1139.out _;refine pB ?_;exact BK1140.out) Try.underlying34 rfl (by kernel_rfl)) rfl ?_
        exact ⟨eRf,bW⟩
       ·rw [if_neg c31] at H
        exact absurd H (by simp)
      ·rw [if_neg c30] at H
       exact absurd H (by simp)
end
end Go.Proofs.Ytlpkldomoniegaa.X
