/- Texts that the row of FnOrder stands on: functions of the program and of the reference, each as a Lean function with the same answers, and the plain lemmas. Conditions: none beside those that each theorem names. -/
import Derived.Test.YtcakbenoaclbkaaCFnOrder0
namespace Go.Proofs.Ytcakbenoaclbkaa.X
open Go.RowKit Go.Proofs.YtcakbenoaclbkaaW.PrintWords Go.Proofs.YtcakbenoaclbkaaW.PrintLast Go.Proofs.YtcakbenoaclbkaaW.PrintMore
attribute [local go_sem] max2_int min2_int max_two min_two max_three min_three max_four min_four   -- for this text's walks alone
set_option linter.unusedVariables false
set_option linter.unusedSimpArgs false
open Go.Proofs.YtcakbenoaclbkaaW.PrintWords renaming blk_drewN -> bDn
open Go.Proofs.YtcakbenoaclbkaaW.PrintWords renaming blk_drew -> bDr
open Go.Proofs.YtcakbenoaclbkaaW.PrintWords renaming blk_alloc -> bAl
open Go.Proofs.YtcakbenoaclbkaaW.PrintWords renaming blk_frozen -> bFr
open Go.Proofs.YtcakbenoaclbkaaW.PrintWords renaming blk_cell -> bCe
open Go.Proofs.YtcakbenoaclbkaaW.PrintWords.Aside0 renaming mk -> aMk
open Go.World renaming block_lt_of_cell? -> wLt
open Go.Proofs.YtcakbenoaclbkaaW.PrintWords renaming pw_below_drewN -> bwN
open Go.Proofs.YtcakbenoaclbkaaW.PrintWords renaming below_drew1 -> bw1
open Go.Proofs.YtcakbenoaclbkaaW.PrintWords renaming below_alloc -> bwA
section
theorem pU {P : Program} {ops : Array Oper} {Q : Exit → Act → World → Prop} {md : Region.Mode} {S : World → Prop} {ds : List Nat} {i : Nat} {N : Option Tmp} {oi : Oper} {v : Value} {fuel : Nat} {l : Array Bool} {a a' : Act} {w : World} (l' : Array Bool) (hc : anyB md ops l l' i = true) (h : wpAnyLast P md ops Q S ds fuel l' a' w) (hi : ops[i]? = some oi:=by rfl) (hN : oi.dst = N:=by rfl) (hQ : ∀ c a w,Q (.panic c) (a.put oi.dst v) w → Q (.panic c) a w:=by exact fun _ _ _ h => h) (hy : Yields P ops oi v a:=by exact Or.inl ⟨by rfl,by intro w';go_simp;with_reducible rfl⟩) (ha : a.put N v = a':=by simp only [Act.put,List.setIfInBounds_toArray,List.set_cons_zero,List.set_cons_succ,i64_w,i32_w];rfl) : wpAnyLast P md ops Q S ds (fuel + 1) l a w:=pure_ l' hi hN hc hQ hy ha h
theorem tU10 {P : Program} {ops : Array Oper} {Q : Exit → Act → World → Prop} {md : Region.Mode} {S : World → Prop} {ds : List Nat} {i : Nat} {N : Option Tmp} {oi : Oper} {v : Value} {fuel : Nat} {l : Array Bool} {a a' : Act} {w : World} (l' : Array Bool) (hc : takeB md ops ds l l' i = true) (hS : S w) (h : wpAnyLast P md ops Q S ds fuel l' a' w) (hi : ops[i]? = some oi:=by rfl) (hN : oi.dst = N:=by rfl) (hQ : ∀ c a w,Q (.panic c) (a.put oi.dst v) w → Q (.panic c) a w:=by exact fun _ _ _ h => h) (hy : YieldsIf P ops S oi v a:=by exact Or.inl ⟨by rfl,by rintro w' ⟨s0,s1,s2,s3,s4,s5,s6,s7,s8,s9⟩;go_simp;with_reducible rfl⟩) (ha : a.put N v = a':=by simp only [Act.put,List.setIfInBounds_toArray,List.set_cons_zero,List.set_cons_succ,i64_w,i32_w];rfl) : wpAnyLast P md ops Q S ds (fuel + 1) l a w:=take_ l' hi hN hc hQ hy hS ha h
theorem tU2 {P : Program} {ops : Array Oper} {Q : Exit → Act → World → Prop} {md : Region.Mode} {S : World → Prop} {ds : List Nat} {i : Nat} {N : Option Tmp} {oi : Oper} {v : Value} {fuel : Nat} {l : Array Bool} {a a' : Act} {w : World} (l' : Array Bool) (hc : takeB md ops ds l l' i = true) (hS : S w) (h : wpAnyLast P md ops Q S ds fuel l' a' w) (hi : ops[i]? = some oi:=by rfl) (hN : oi.dst = N:=by rfl) (hQ : ∀ c a w,Q (.panic c) (a.put oi.dst v) w → Q (.panic c) a w:=by exact fun _ _ _ h => h) (hy : YieldsIf P ops S oi v a:=by exact Or.inl ⟨by rfl,by rintro w' ⟨s0,s1⟩;go_simp;with_reducible rfl⟩) (ha : a.put N v = a':=by simp only [Act.put,List.setIfInBounds_toArray,List.set_cons_zero,List.set_cons_succ,i64_w,i32_w];rfl) : wpAnyLast P md ops Q S ds (fuel + 1) l a w:=take_ l' hi hN hc hQ hy hS ha h
theorem tU4 {P : Program} {ops : Array Oper} {Q : Exit → Act → World → Prop} {md : Region.Mode} {S : World → Prop} {ds : List Nat} {i : Nat} {N : Option Tmp} {oi : Oper} {v : Value} {fuel : Nat} {l : Array Bool} {a a' : Act} {w : World} (l' : Array Bool) (hc : takeB md ops ds l l' i = true) (hS : S w) (h : wpAnyLast P md ops Q S ds fuel l' a' w) (hi : ops[i]? = some oi:=by rfl) (hN : oi.dst = N:=by rfl) (hQ : ∀ c a w,Q (.panic c) (a.put oi.dst v) w → Q (.panic c) a w:=by exact fun _ _ _ h => h) (hy : YieldsIf P ops S oi v a:=by exact Or.inl ⟨by rfl,by rintro w' ⟨s0,s1,s2,s3⟩;go_simp;with_reducible rfl⟩) (ha : a.put N v = a':=by simp only [Act.put,List.setIfInBounds_toArray,List.set_cons_zero,List.set_cons_succ,i64_w,i32_w];rfl) : wpAnyLast P md ops Q S ds (fuel + 1) l a w:=take_ l' hi hN hc hQ hy hS ha h
theorem tU5 {P : Program} {ops : Array Oper} {Q : Exit → Act → World → Prop} {md : Region.Mode} {S : World → Prop} {ds : List Nat} {i : Nat} {N : Option Tmp} {oi : Oper} {v : Value} {fuel : Nat} {l : Array Bool} {a a' : Act} {w : World} (l' : Array Bool) (hc : takeB md ops ds l l' i = true) (hS : S w) (h : wpAnyLast P md ops Q S ds fuel l' a' w) (hi : ops[i]? = some oi:=by rfl) (hN : oi.dst = N:=by rfl) (hQ : ∀ c a w,Q (.panic c) (a.put oi.dst v) w → Q (.panic c) a w:=by exact fun _ _ _ h => h) (hy : YieldsIf P ops S oi v a:=by exact Or.inl ⟨by rfl,by rintro w' ⟨s0,s1,s2,s3,s4⟩;go_simp;with_reducible rfl⟩) (ha : a.put N v = a':=by simp only [Act.put,List.setIfInBounds_toArray,List.set_cons_zero,List.set_cons_succ,i64_w,i32_w];rfl) : wpAnyLast P md ops Q S ds (fuel + 1) l a w:=take_ l' hi hN hc hQ hy hS ha h
theorem tU8 {P : Program} {ops : Array Oper} {Q : Exit → Act → World → Prop} {md : Region.Mode} {S : World → Prop} {ds : List Nat} {i : Nat} {N : Option Tmp} {oi : Oper} {v : Value} {fuel : Nat} {l : Array Bool} {a a' : Act} {w : World} (l' : Array Bool) (hc : takeB md ops ds l l' i = true) (hS : S w) (h : wpAnyLast P md ops Q S ds fuel l' a' w) (hi : ops[i]? = some oi:=by rfl) (hN : oi.dst = N:=by rfl) (hQ : ∀ c a w,Q (.panic c) (a.put oi.dst v) w → Q (.panic c) a w:=by exact fun _ _ _ h => h) (hy : YieldsIf P ops S oi v a:=by exact Or.inl ⟨by rfl,by rintro w' ⟨s0,s1,s2,s3,s4,s5,s6,s7⟩;go_simp;with_reducible rfl⟩) (ha : a.put N v = a':=by simp only [Act.put,List.setIfInBounds_toArray,List.set_cons_zero,List.set_cons_succ,i64_w,i32_w];rfl) : wpAnyLast P md ops Q S ds (fuel + 1) l a w:=take_ l' hi hN hc hQ hy hS ha h
theorem pB {w W : World} {g : Nat} {o : Obj} (h : w.heap[g]? = some o) (hW : w.heap[g]? = some o → W.heap[g]? = some o:=by intro h;(with_reducible repeat (first|refine bDn ?_ _|refine bDr ?_|refine bAl ?_ _));exact h) : W.heap[g]? = some o:=hW h
theorem bkL {w W : World} {g x : Nat} {o : Obj} (h : w.heap[g]? = some o) (hg : x = W.heap.size) (hW : w.heap[g]? = some o → W.heap[g]? = some o:=by intro h;refine pB ?_;exact h) : g ≠ x:=by rw [hg];exact Nat.ne_of_lt (blk_lt (hW h))
theorem bkG {w W : World} {g x : Nat} {o : Obj} (h : w.heap[g]? = some o) (hg : x = W.heap.size) (hW : w.heap[g]? = some o → W.heap[g]? = some o:=by intro h;refine pB ?_;exact h) : x ≠ g:=by rw [hg];exact Nat.ne_of_gt (blk_lt (hW h))
theorem bkB {w W w1 : World} {g : Nat} {o : Obj} (h : w.heap[g]? = some o) (hb : Below W.heap.size W w1) (hW : w.heap[g]? = some o → W.heap[g]? = some o:=by intro h;refine pB ?_;exact h) : w1.heap[g]? = some o:=blk_below (hW h) hb
theorem bxE {ops : Array Oper} {Q : Exit → Act → World → Prop} {rest : List Oper} {o : Oper} {a : Act} {W : World} {N : Tmp} {cs : Array Value} {t : TypeId} (h : ∀ g,g = W.heap.size → ∀ w1,w1.heap[g]? = some (.cells cs t (0,0)) → Below W.heap.size W w1 → wpList Try.prog ops Q rest (a.put o.dst (.pointer (some ⟨g,0,none⟩))) w1) (hd : o.dst = some N:=by rfl) (hgd : o.guard = none:=by rfl) (hrun : (execOp a.eval o).run Try.prog W = .ok (.value (.pointer (some ⟨W.heap.size,0,none⟩))) (W.alloc (.cells cs t (0,0))):=by first|(go_simp;done)|(go_simp;rfl)) : wpList Try.prog ops Q (o :: rest) a W:=box_event hgd hd hrun h
theorem bXc {w W : World} {a : Addr} {v : Value} (hB : Below w.heap.size w W) (h : w.cell? a = some v) : W.cell? a = some v:=(hB.cell (wLt w _ h)).trans h
theorem eRf {e e' : Ending} (h : e = e':=by first | rfl|(simp [errW_none,errW_some] <;> rfl)|(simp [*,errW_none,errW_some] <;> rfl)) : e = e':=h
theorem gLs {ops : Array Oper} {Q : Exit → Act → World → Prop} {rest : List Oper} {oi : Oper} {a : Act} {w : World} (N : Tmp) {f : FuncId} {fn : Func} {as0 : Array Operand} {ts : Array TypeId} (hf : Try.prog.funcs[f]? = some fn) (args : Array Value) (hC : Calls Try.prog f args w fun e w' => ∃ v,e = Ending.returned v ∧ wpList Try.prog ops Q rest (a.put (some N) v) w') (h5 : oi.op = Op.call { callee:=Callee.value (Operand.func f),args:=as0,argTypes:=ts }:=by rfl) (h1 : oi.dst = some N:=by rfl) (h2 : oi.guard = none:=by rfl) (h3 : (fn.name == "runtime.NumGoroutine") = false:=by kernel_rfl) (h4 : fn.body.isSome = true:=by rfl) (h6 : Array.map a.eval as0 = args:=by (try simp only [List.map_toArray,List.map_cons,List.map_nil]);first | done | rfl|(simp only [List.length_drop,List.length_take];rfl)) : wpList Try.prog ops Q (oi :: rest) a w:=goesL_ (some N) h1 h2 hf h3 h4 args h5 h6 hC
theorem bSt {w W W1 : World} (hb : Below W.heap.size W W1) (h : Below w.heap.size w W:=by repeat (first|(with_reducible first|exact HB.out|apply bwA|apply bwN|apply bw1)|exact HB.out)) : Below w.heap.size w W1:=below_step h hb
theorem bSz {w W : World} (h : Below w.heap.size w W:=by repeat (first|(with_reducible first|exact HB.out|apply bwA|apply bwN|apply bw1)|exact HB.out)) : w.heap.size ≤ W.heap.size:=below_size h
theorem bC2 {w : World} {g : Nat} {t : TypeId} {v0 v1 : Value} (h : w.heap[g]? = some (.cells #[v0,v1] t (0,0))) : w.cell? ⟨g,0,none⟩ = some v0 ∧ w.cell? ⟨g,1,none⟩ = some v1 ∧ w.frozen? ⟨g,0,none⟩ = false ∧ w.frozen? ⟨g,1,none⟩ = false:=⟨(bCe h 0).trans rfl,(bCe h 1).trans rfl,bFr h 0,bFr h 1⟩
theorem bC4 {w : World} {g : Nat} {t : TypeId} {v0 v1 v2 v3 : Value} (h : w.heap[g]? = some (.cells #[v0,v1,v2,v3] t (0,0))) : w.cell? ⟨g,0,none⟩ = some v0 ∧ w.cell? ⟨g,1,none⟩ = some v1 ∧ w.cell? ⟨g,2,none⟩ = some v2 ∧ w.cell? ⟨g,3,none⟩ = some v3 ∧ w.frozen? ⟨g,0,none⟩ = false ∧ w.frozen? ⟨g,1,none⟩ = false ∧ w.frozen? ⟨g,2,none⟩ = false ∧ w.frozen? ⟨g,3,none⟩ = false:=⟨(bCe h 0).trans rfl,(bCe h 1).trans rfl,(bCe h 2).trans rfl,(bCe h 3).trans rfl,bFr h 0,bFr h 1,bFr h 2,bFr h 3⟩
def errW : Option Int → Value
 | none => .nilIface
 | some c => .iface 0 (.int .i64 c)
theorem errW_none : errW none = .nilIface:=rfl
theorem errW_some (c : Int) : errW (some c) = .iface 0 (.int .i64 c):=rfl

theorem ne_nil_b (l : List UInt8) : (l != []) = !l.isEmpty:=by cases l <;> rfl

theorem info3 : (Try.prog.info? 3).map (fun i => (i.zero,i.size,i.bytes)) = some (some (.int .i64 0),1,8):=by kernel_rfl
theorem info31 : (Try.prog.info? 31).map (fun i => (i.zero,i.size,i.bytes)) = some (some (.agg #[(.int .i64 0),(.int .i64 0)]),2,16):=by kernel_rfl
def rd_L1 (xs : List (List Int)) (i : Int) : (List Int):=xs.getD i.toNat ([] : List Int)
/-! #### struct type 31 -/
structure S31 where
 f0 : Int
 f1 : Int
def z31 : S31:=⟨(0 : Int),(0 : Int)⟩
def k31 : Kd S31:=Kd.iso (Kd.pair (Kd.int .i64) (Kd.int .i64)) (fun x : S31 => (x.f0,x.f1))
theorem k31_open {w : World} {x : S31} {cs : List Value} (h : k31.K w x cs) : cs = [.int .i64 x.f0,.int .i64 x.f1]:=by
 obtain ⟨_,_,rfl,rfl,rfl⟩:=h
 exact rfl
theorem k31_openM {w : World} {base : Nat} {ok : Nat → Prop} {x : S31} {cs : List Value} (h : k31.M w base ok x cs) : cs = [.int .i64 x.f0,.int .i64 x.f1]:=by
 obtain ⟨_,_,rfl,rfl,rfl⟩:=h
 exact rfl
theorem k31_mkM (w : World) (base : Nat) (ok : Nat → Prop) (x : S31)  : k31.M w base ok x [.int .i64 x.f0,.int .i64 x.f1]:=⟨[.int .i64 x.f0],[.int .i64 x.f1],rfl,rfl,rfl⟩
def rd_T31 (xs : List S31) (i : Int) : S31:=xs.getD i.toNat z31
theorem at_T31 {w : World} {A : Option Addr} {n : Nat} {xs : List S31} (h : Kd.C k31 w A n xs) (i : Int) (h0 : 0 ≤ i) (h1 : i < n) : ∃ ad ,A = some ad ∧ w.cell? (ad.add (i.toNat * 2)) = some (.int .i64 (rd_T31 xs i).f0) ∧ w.cell? ⟨(ad.add (i.toNat * 2)).block,(ad.add (i.toNat * 2)).off + 1,none⟩ = some (.int .i64 (rd_T31 xs i).f1):=by
 obtain ⟨ad,c,e,_,hK,hc0⟩:=Kd.C_get h z31 i h0 h1
 have hc : ∀ j u,c[j]? = some u → w.cell? (ad.add (i.toNat * 2 + j)) = some u:=hc0
 obtain rfl:=k31_open hK
 exact ⟨ad,e,hc 0 _ rfl,by rw [← add_field _ _ 1 (by omega)];exact hc 1 _ rfl⟩

def rd_L4 (xs : List (List Int)) (i : Int) : (List Int):=xs.getD i.toNat ([] : List Int)
/-! #### struct type 80 -/
structure S80 where
 f0 : (List Int)
 f1 : Int
 f2 : Int
def z80 : S80:=⟨([] : List Int),(0 : Int),(0 : Int)⟩
def k80 : Kd S80:=Kd.iso (Kd.pair (Kd.slice 5 (Kd.int .u8)) (Kd.pair (Kd.int .i64) (Kd.int .i64))) (fun x : S80 => (x.f0,x.f1,x.f2))
def rd_T80 (xs : List S80) (i : Int) : S80:=xs.getD i.toNat z80
/-! #### struct type 29 -/
structure S29 where
 f0 : Int
 f1 : Int
def z29 : S29:=⟨(0 : Int),(0 : Int)⟩
def k29 : Kd S29:=Kd.iso (Kd.pair (Kd.int .i64) (Kd.int .i64)) (fun x : S29 => (x.f0,x.f1))
def rd_T29 (xs : List S29) (i : Int) : S29:=xs.getD i.toNat z29
def rd_L7 (xs : List (List S31)) (i : Int) : (List S31):=xs.getD i.toNat ([] : List S31)
end
section
theorem eqA31 (d : Nat) (w : World) (x0 y0 : Int) (x1 y1 : Int) :
  (Op.equalIn (d + 2) 31 (.agg #[.int .i64 x0,.int .i64 x1]) (.agg #[.int .i64 y0,.int .i64 y1])).run Try.prog w = .ok (x0 == y0 && (x1 == y1)) w:=by
 refine eqA_of Try.underlying31 (by kernel_rfl) ?_
 refine eqf_cons (by rfl) (by go_simp;rfl) (by go_simp;rfl) (by go_simp) ?_
 exact eqf_last (by rfl) (by go_simp;rfl) (by go_simp;rfl) (by go_simp)
end
section
/-! ### impl_within: function 59 -/
def impl_within.f (a0 : Int) (a1 : Int) (a2 : Int) : Option (Bool):=if a0 ≥ a1 then (some (decide (a0 ≤ a2))) else (some false)
set_option maxHeartbeats 8000000 in
set_option maxRecDepth 100000 in
theorem impl_within.calls (a0 : Int) (a1 : Int) (a2 : Int) (r : Bool) (w : World) (h : impl_within.f a0 a1 a2 = some r) :
  Calls Try.prog 59 #[.int .i64 a0,.int .i64 a1,.int .i64 a2] w fun e w' => e = .returned (.bool r) ∧ Drawn0 w w':=by
 have H : (if a0 ≥ a1 then (some (decide (a0 ≤ a2))) else (some false)) = some r:=h
 clear h
 by_cases c4 : a0 ≥ a1
 ·rw [if_pos c4] at H
  have c4b0 : decide (a1 ≤ a0) = true:=decide_eq_true c4
  clear c4
  obtain rfl:=Option.some.inj H
  go_enter Try.func59,Try.ntmps59
  go_wp2
  go_ret
  exact ⟨by first | rfl|(simp;done)|(simp [*];done)|(simp [ne_nil_b];done)|(simp [ne_nil_b, *];done),by repeat (first|exact Drawn0.refl _|apply Drawn0.step)⟩
 ·rw [if_neg c4] at H
  have c4b0 : decide (a1 ≤ a0) = false:=decide_eq_false c4
  clear c4
  obtain rfl:=Option.some.inj H
  go_enter Try.func59,Try.ntmps59
  go_wp2
  go_ret
  exact ⟨by first | rfl|(simp;done)|(simp [*];done)|(simp [ne_nil_b];done)|(simp [ne_nil_b, *];done),by repeat (first|exact Drawn0.refl _|apply Drawn0.step)⟩
end
section
/-! ### impl_wordOK: function 43 -/
def impl_wordOK.f (a0_0 : Int) (a0_1 : Int) : Option (Bool):=(impl_within.f a0_0 0 4294967295).bind fun t170 => (if t170 = true then ((impl_within.f a0_1 0 4294967295).bind fun t171 => (some t171)) else (some false))
set_option maxHeartbeats 8000000 in
set_option maxRecDepth 100000 in
theorem impl_wordOK.calls (a0_0 : Int) (a0_1 : Int) (r : Bool) (w : World) (h : impl_wordOK.f a0_0 a0_1 = some r) :
  Calls Try.prog 43 #[.agg #[.int .i64 a0_0,.int .i64 a0_1]] w fun e w' => e = .returned (.bool r) ∧ Below w.heap.size w w':=by
 have hu31:=Try.underlying31
 have HB:=aMk (Below.refl w.heap.size w)
 have H : ((impl_within.f a0_0 0 4294967295).bind fun t170 => (if t170 = true then ((impl_within.f a0_1 0 4294967295).bind fun t171 => (some t171)) else (some false))) = some r:=h
 clear h
 replace H:=Option.bind_eq_some_iff.mp H
 obtain ⟨t170,A20,H⟩:=H
 replace H : (if t170 = true then ((impl_within.f a0_1 0 4294967295).bind fun t171 => (some t171)) else (some false)) = some r:=H
 have A2:=aMk A20
 clear A20
 by_cases c3 : t170 = true
 ·subst c3
  have H1 : ((impl_within.f a0_1 0 4294967295).bind fun t171 => (some t171)) = some r:=by rw [if_pos rfl] at H;exact H
  clear H
  have H:=H1
  clear H1
  replace H:=Option.bind_eq_some_iff.mp H
  obtain ⟨t171,A40,H⟩:=H
  replace H : (some t171) = some r:=H
  have A4:=aMk A40
  clear A40
  obtain rfl:=Option.some.inj H
  go_enter Try.func43,Try.ntmps43
  go_wp2_with (first|((with_reducible refine gate_dst (N:=1) rfl ?_);refine bxE (N:=1) (cs:=#[.int .i64 a0_0,.int .i64 a0_1]) (t:=31) ?_;intro gb169 hg w5 hbox hb;have n0_:=aMk (bSt hb);have n1_:=aMk (hbox);have n2_:=aMk ((by rw [hg];exact bSz : w.heap.size ≤ gb169));have n3_:=aMk ((by rw [hg];exact bSz : w.heap.size ≤ gb169));clear HB;have HB:=n0_;have BK169:=n1_;have GW169:=n2_;have GE169:=n3_;clear n0_ n1_ n2_ n3_;clear hb hbox hg;obtain ⟨hcz6_0,hcz6_1,hfz6_0,hfz6_1⟩:=bC2 BK169.out)|((with_reducible refine gate_callee (f:=59) rfl ?_);refine gLs 5 Try.func59 #[.int .i64 a0_0,.int .i64 0,.int .i64 4294967295] ?_;(with_reducible refine (impl_within.calls a0_0 0 4294967295 true _ A2.out).mono ?_);rintro e w' ⟨rfl,⟨nd,rfl⟩⟩;refine ⟨_,rfl,?_⟩)|(go_at_call 59;(with_reducible refine (impl_within.calls a0_1 0 4294967295 t171 _ A4.out).mono ?_);rintro e w' ⟨rfl,⟨nd,rfl⟩⟩))
  go_ret
  exact ⟨eRf,by repeat (first|(with_reducible first|exact HB.out|apply bwA|apply bwN|apply bw1|refine below_set ?_ GE169.out)|exact HB.out)⟩
 ·replace c3:=Bool.eq_false_iff.mpr c3
  subst c3
  have H1 : (some false) = some r:=by rw [if_neg (show ¬ (false = true) by decide)] at H;exact H
  clear H
  have H:=H1
  clear H1
  obtain rfl:=Option.some.inj H
  go_enter Try.func43,Try.ntmps43
  go_wp2_with (first|((with_reducible refine gate_dst (N:=1) rfl ?_);refine bxE (N:=1) (cs:=#[.int .i64 a0_0,.int .i64 a0_1]) (t:=31) ?_;intro gb169 hg w7 hbox hb;have n0_:=aMk (bSt hb);have n1_:=aMk (hbox);have n2_:=aMk ((by rw [hg];exact bSz : w.heap.size ≤ gb169));have n3_:=aMk ((by rw [hg];exact bSz : w.heap.size ≤ gb169));clear HB;have HB:=n0_;have BK169:=n1_;have GW169:=n2_;have GE169:=n3_;clear n0_ n1_ n2_ n3_;clear hb hbox hg;obtain ⟨hcz8_0,hcz8_1,hfz8_0,hfz8_1⟩:=bC2 BK169.out)|((with_reducible refine gate_callee (f:=59) rfl ?_);refine gLs 5 Try.func59 #[.int .i64 a0_0,.int .i64 0,.int .i64 4294967295] ?_;(with_reducible refine (impl_within.calls a0_0 0 4294967295 false _ A2.out).mono ?_);rintro e w' ⟨rfl,⟨nd,rfl⟩⟩;refine ⟨_,rfl,?_⟩))
  go_ret
  exact ⟨eRf,by repeat (first|(with_reducible first|exact HB.out|apply bwA|apply bwN|apply bw1|refine below_set ?_ GE169.out)|exact HB.out)⟩
end
section
/-! ### impl_Word_class_1: function 66 -/
def impl_Word_class_1.f (a0 : Int) (a1 : Int) (a2 : Bool) : Option (Int):=if a2 = true then (some a0) else (some a1)
set_option maxHeartbeats 8000000 in
set_option maxRecDepth 100000 in
theorem impl_Word_class_1.calls (q2 : Nat) (a0 : Int) (a1 : Int) (a2 : Bool) (r : Int) (w : World) (hq2 : w.cell? ⟨q2,0,none⟩ = some (.bool a2)) (h : impl_Word_class_1.f a0 a1 a2 = some r) :
  Calls Try.prog 66 #[.int .i64 a0,.int .i64 a1,.pointer (some ⟨q2,0,none⟩)] w fun e w' => e = .returned (.int .i64 r) ∧ Drawn0 w w':=by
 have HQ2:=aMk hq2
 clear hq2
 have H : (if a2 = true then (some a0) else (some a1)) = some r:=h
 clear h
 by_cases c4 : a2 = true
 ·subst c4
  have H1 : (some a0) = some r:=by rw [if_pos rfl] at H;exact H
  clear H
  have H:=H1
  clear H1
  obtain rfl:=Option.some.inj H
  have hcq2:=HQ2.out
  go_enter Try.func66,Try.ntmps66
  go_wp2
  go_ret
  exact ⟨by first | rfl|(simp;done)|(simp [*];done)|(simp [ne_nil_b];done)|(simp [ne_nil_b, *];done),by repeat (first|exact Drawn0.refl _|apply Drawn0.step)⟩
 ·replace c4:=Bool.eq_false_iff.mpr c4
  subst c4
  have H1 : (some a1) = some r:=by rw [if_neg (show ¬ (false = true) by decide)] at H;exact H
  clear H
  have H:=H1
  clear H1
  obtain rfl:=Option.some.inj H
  have hcq2:=HQ2.out
  go_enter Try.func66,Try.ntmps66
  go_wp2
  go_ret
  exact ⟨by first | rfl|(simp;done)|(simp [*];done)|(simp [ne_nil_b];done)|(simp [ne_nil_b, *];done),by repeat (first|exact Drawn0.refl _|apply Drawn0.step)⟩
end
section
/-! ### impl_Word_class: function 46 -/
-- USES 66
def impl_Word_class.f (a0_0 : Int) (a0_1 : Int) : Option (Int):=if Go.bits .and .i64 a0_0 2146435072 = 2146435072 then (if Go.bits .and .i64 a0_0 1048575 = 0 then (if a0_1 = 0 then impl_Word_class_1.f 1 6 (Go.bits .and .i64 a0_0 2147483648 != 0) else some 0) else some 0) else (if Go.bits .and .i64 a0_0 2146435072 = 0 then (if Go.bits .and .i64 a0_0 1048575 = 0 then (if a0_1 = 0 then impl_Word_class_1.f 3 4 (Go.bits .and .i64 a0_0 2147483648 != 0) else impl_Word_class_1.f 2 5 (Go.bits .and .i64 a0_0 2147483648 != 0)) else impl_Word_class_1.f 2 5 (Go.bits .and .i64 a0_0 2147483648 != 0)) else impl_Word_class_1.f 2 5 (Go.bits .and .i64 a0_0 2147483648 != 0))
set_option maxHeartbeats 8000000 in
set_option maxRecDepth 100000 in
theorem impl_Word_class.calls (a0_0 : Int) (a0_1 : Int) (r : Int) (w : World) (h : impl_Word_class.f a0_0 a0_1 = some r) :
  Calls Try.prog 46 #[.agg #[.int .i64 a0_0,.int .i64 a0_1]] w fun e w' => e = .returned (.int .i64 r) ∧ Below w.heap.size w w':=by
 have hu31:=Try.underlying31
 have HB:=aMk (Below.refl w.heap.size w)
 unfold impl_Word_class.f at h
 obtain ⟨jm,hjm⟩ : ∃ j_ : Bool,(Go.bits .and .i64 a0_0 2147483648 != 0) = j_:=⟨_,rfl⟩
 rw [hjm] at h
 obtain ⟨je,hje⟩ : ∃ j_ : Int,(Go.bits .and .i64 a0_0 2146435072) = j_:=⟨_,rfl⟩
 rw [hje] at h
 obtain ⟨jf,hjf⟩ : ∃ j_ : Int,(Go.bits .and .i64 a0_0 1048575) = j_:=⟨_,rfl⟩
 rw [hjf] at h
 by_cases c1 : je = 2146435072
 ·rw [if_pos c1] at h
  have c1b0 : (je == 2146435072) = true:=beq_iff_eq.mpr c1
  have c1b1 : (je != 2146435072) = false:=bne_eq_false_iff_eq.mpr c1
  clear c1
  by_cases c2 : jf = 0
  ·rw [if_pos c2] at h
   have c2b0 : (jf == 0) = true:=beq_iff_eq.mpr c2
   have c2b1 : (jf != 0) = false:=bne_eq_false_iff_eq.mpr c2
   clear c2
   by_cases c3 : a0_1 = 0
   ·rw [if_pos c3] at h
    have c3b0 : (a0_1 == 0) = true:=beq_iff_eq.mpr c3
    have c3b1 : (a0_1 != 0) = false:=bne_eq_false_iff_eq.mpr c3
    clear c3
    have HH:=aMk h
    clear h
    go_enter Try.func46,Try.ntmps46
    go_wp2_with (first|((with_reducible refine gate_dst (N:=1) rfl ?_);refine bxE (N:=1) (cs:=#[.int .i64 a0_0,.int .i64 a0_1]) (t:=31) ?_;intro gb1 hg w1 hbox hb;have n0_:=aMk (below_step HB.out hb);clear HB;have HB:=n0_;have BK1:=aMk hbox;clear n0_ hb hbox hg;obtain ⟨hcza_0,hcza_1,hfza_0,hfza_1⟩:=bC2 BK1.out)|((with_reducible refine gate_dst (N:=3) rfl ?_);refine bxE (N:=3) (cs:=#[.bool false]) (t:=4) ?_;intro gb3 hg w3 hbox hb;have NE:=aMk (show gb1 ≠ gb3 from (by rw [hg];exact Nat.ne_of_lt (blk_lt (g:=gb1) (o:=.cells #[.int .i64 a0_0,.int .i64 a0_1] 31 (0,0)) (by refine pB ?_;exact BK1.out))));have GE:=aMk (show w.heap.size ≤ gb3 from (by rw [hg];exact below_size (by repeat first|exact HB.out|apply bwA|apply bwN|apply bw1)));have n0_:=aMk (bSt hb);have n1_:=aMk (bkB BK1.out hb);clear HB BK1;have HB:=n0_;have BK1:=n1_;have BK3:=aMk hbox;clear n0_ n1_ hb hbox hg;have hcq : w3.cell? ⟨gb3,0,none⟩ = some (.bool false):=(bCe BK3.out 0).trans rfl;have hfq:=bFr BK3.out 0;obtain ⟨hczb_0,hczb_1,hfzb_0,hfzb_1⟩:=bC2 BK1.out)|((with_reducible refine gate_store (t:=4) (p:=3) rfl ?_);refine store_event (t:=4) (p:=3) (v:=?vo_) (w1:=(w3.setCell ⟨gb3,0,none⟩ (.bool jm))) ?hg ?ho ?hn ?hr ?_;(case ho => rfl);(case hg => rfl);(case hn => rfl);(case hr => first|(go_simp;done)|(go_simp;rfl));intro w4 hw;have n0_:=aMk (show Below w.heap.size w w4 from (by rw [hw];exact below_set HB.out GE.out));have n1_:=aMk (show w4.heap[gb1]? = some (.cells #[.int .i64 a0_0,.int .i64 a0_1] 31 (0,0)) from (by rw [hw];exact blk_far BK1.out NE.out _));have n2_:=aMk (show w4.heap[gb3]? = some (.cells #[.bool jm] 4 (0,0)) from (by rw [hw];simpa using blk_set BK3.out 0 (.bool jm)));clear HB BK1 BK3 hw;have HB:=n0_;have BK1:=n1_;have BK3:=n2_;clear n0_ n1_ n2_;obtain ⟨hczc_0,hczc_1,hfzc_0,hfzc_1⟩:=bC2 BK1.out)|(refine (impl_Word_class_1.calls gb3 1 6 jm r _ ((bCe BK3.out 0).trans rfl) HH.out).mono ?_;rintro e w' ⟨rfl,⟨nd,rfl⟩⟩))
    go_ret
    exact ⟨rfl,by repeat (first|(with_reducible first|exact HB.out|apply bwA|apply bwN|apply bw1)|exact HB.out)⟩
   ·rw [if_neg c3] at h
    have c3b0 : (a0_1 == 0) = false:=beq_eq_false_iff_ne.mpr c3
    have c3b1 : (a0_1 != 0) = true:=bne_iff_ne.mpr c3
    clear c3
    obtain rfl:=Option.some.inj h
    skip
    go_enter Try.func46,Try.ntmps46
    go_wp2_with (first|((with_reducible refine gate_dst (N:=1) rfl ?_);refine bxE (N:=1) (cs:=#[.int .i64 a0_0,.int .i64 a0_1]) (t:=31) ?_;intro gb1 hg w1 hbox hb;have n0_:=aMk (below_step HB.out hb);clear HB;have HB:=n0_;have BK1:=aMk hbox;clear n0_ hb hbox hg;obtain ⟨hcza_0,hcza_1,hfza_0,hfza_1⟩:=bC2 BK1.out)|((with_reducible refine gate_dst (N:=3) rfl ?_);refine bxE (N:=3) (cs:=#[.bool false]) (t:=4) ?_;intro gb3 hg w3 hbox hb;have NE:=aMk (show gb1 ≠ gb3 from (by rw [hg];exact Nat.ne_of_lt (blk_lt (g:=gb1) (o:=.cells #[.int .i64 a0_0,.int .i64 a0_1] 31 (0,0)) (by refine pB ?_;exact BK1.out))));have GE:=aMk (show w.heap.size ≤ gb3 from (by rw [hg];exact below_size (by repeat first|exact HB.out|apply bwA|apply bwN|apply bw1)));have n0_:=aMk (bSt hb);have n1_:=aMk (bkB BK1.out hb);clear HB BK1;have HB:=n0_;have BK1:=n1_;have BK3:=aMk hbox;clear n0_ n1_ hb hbox hg;have hcq : w3.cell? ⟨gb3,0,none⟩ = some (.bool false):=(bCe BK3.out 0).trans rfl;have hfq:=bFr BK3.out 0;obtain ⟨hczb_0,hczb_1,hfzb_0,hfzb_1⟩:=bC2 BK1.out)|((with_reducible refine gate_store (t:=4) (p:=3) rfl ?_);refine store_event (t:=4) (p:=3) (v:=?vo_) (w1:=(w3.setCell ⟨gb3,0,none⟩ (.bool jm))) ?hg ?ho ?hn ?hr ?_;(case ho => rfl);(case hg => rfl);(case hn => rfl);(case hr => first|(go_simp;done)|(go_simp;rfl));intro w4 hw;have n0_:=aMk (show Below w.heap.size w w4 from (by rw [hw];exact below_set HB.out GE.out));have n1_:=aMk (show w4.heap[gb1]? = some (.cells #[.int .i64 a0_0,.int .i64 a0_1] 31 (0,0)) from (by rw [hw];exact blk_far BK1.out NE.out _));have n2_:=aMk (show w4.heap[gb3]? = some (.cells #[.bool jm] 4 (0,0)) from (by rw [hw];simpa using blk_set BK3.out 0 (.bool jm)));clear HB BK1 BK3 hw;have HB:=n0_;have BK1:=n1_;have BK3:=n2_;clear n0_ n1_ n2_;obtain ⟨hczc_0,hczc_1,hfzc_0,hfzc_1⟩:=bC2 BK1.out))
    go_ret
    exact ⟨rfl,by repeat (first|(with_reducible first|exact HB.out|apply bwA|apply bwN|apply bw1)|exact HB.out)⟩
  ·rw [if_neg c2] at h
   have c2b0 : (jf == 0) = false:=beq_eq_false_iff_ne.mpr c2
   have c2b1 : (jf != 0) = true:=bne_iff_ne.mpr c2
   clear c2
   obtain rfl:=Option.some.inj h
   skip
   go_enter Try.func46,Try.ntmps46
   go_wp2_with (first|((with_reducible refine gate_dst (N:=1) rfl ?_);refine bxE (N:=1) (cs:=#[.int .i64 a0_0,.int .i64 a0_1]) (t:=31) ?_;intro gb1 hg w1 hbox hb;have n0_:=aMk (below_step HB.out hb);clear HB;have HB:=n0_;have BK1:=aMk hbox;clear n0_ hb hbox hg;obtain ⟨hcza_0,hcza_1,hfza_0,hfza_1⟩:=bC2 BK1.out)|((with_reducible refine gate_dst (N:=3) rfl ?_);refine bxE (N:=3) (cs:=#[.bool false]) (t:=4) ?_;intro gb3 hg w3 hbox hb;have NE:=aMk (show gb1 ≠ gb3 from (by rw [hg];exact Nat.ne_of_lt (blk_lt (g:=gb1) (o:=.cells #[.int .i64 a0_0,.int .i64 a0_1] 31 (0,0)) (by refine pB ?_;exact BK1.out))));have GE:=aMk (show w.heap.size ≤ gb3 from (by rw [hg];exact below_size (by repeat first|exact HB.out|apply bwA|apply bwN|apply bw1)));have n0_:=aMk (bSt hb);have n1_:=aMk (bkB BK1.out hb);clear HB BK1;have HB:=n0_;have BK1:=n1_;have BK3:=aMk hbox;clear n0_ n1_ hb hbox hg;have hcq : w3.cell? ⟨gb3,0,none⟩ = some (.bool false):=(bCe BK3.out 0).trans rfl;have hfq:=bFr BK3.out 0;obtain ⟨hczb_0,hczb_1,hfzb_0,hfzb_1⟩:=bC2 BK1.out)|((with_reducible refine gate_store (t:=4) (p:=3) rfl ?_);refine store_event (t:=4) (p:=3) (v:=?vo_) (w1:=(w3.setCell ⟨gb3,0,none⟩ (.bool jm))) ?hg ?ho ?hn ?hr ?_;(case ho => rfl);(case hg => rfl);(case hn => rfl);(case hr => first|(go_simp;done)|(go_simp;rfl));intro w4 hw;have n0_:=aMk (show Below w.heap.size w w4 from (by rw [hw];exact below_set HB.out GE.out));have n1_:=aMk (show w4.heap[gb1]? = some (.cells #[.int .i64 a0_0,.int .i64 a0_1] 31 (0,0)) from (by rw [hw];exact blk_far BK1.out NE.out _));have n2_:=aMk (show w4.heap[gb3]? = some (.cells #[.bool jm] 4 (0,0)) from (by rw [hw];simpa using blk_set BK3.out 0 (.bool jm)));clear HB BK1 BK3 hw;have HB:=n0_;have BK1:=n1_;have BK3:=n2_;clear n0_ n1_ n2_;obtain ⟨hczc_0,hczc_1,hfzc_0,hfzc_1⟩:=bC2 BK1.out))
   go_ret
   exact ⟨rfl,by repeat (first|(with_reducible first|exact HB.out|apply bwA|apply bwN|apply bw1)|exact HB.out)⟩
 ·rw [if_neg c1] at h
  have c1b0 : (je == 2146435072) = false:=beq_eq_false_iff_ne.mpr c1
  have c1b1 : (je != 2146435072) = true:=bne_iff_ne.mpr c1
  clear c1
  by_cases c4 : je = 0
  ·rw [if_pos c4] at h
   have c4b0 : (je == 0) = true:=beq_iff_eq.mpr c4
   have c4b1 : (je != 0) = false:=bne_eq_false_iff_eq.mpr c4
   clear c4
   by_cases c2 : jf = 0
   ·rw [if_pos c2] at h
    have c2b0 : (jf == 0) = true:=beq_iff_eq.mpr c2
    have c2b1 : (jf != 0) = false:=bne_eq_false_iff_eq.mpr c2
    clear c2
    by_cases c3 : a0_1 = 0
    ·rw [if_pos c3] at h
     have c3b0 : (a0_1 == 0) = true:=beq_iff_eq.mpr c3
     have c3b1 : (a0_1 != 0) = false:=bne_eq_false_iff_eq.mpr c3
     clear c3
     have HH:=aMk h
     clear h
     go_enter Try.func46,Try.ntmps46
     go_wp2_with (first|((with_reducible refine gate_dst (N:=1) rfl ?_);refine bxE (N:=1) (cs:=#[.int .i64 a0_0,.int .i64 a0_1]) (t:=31) ?_;intro gb1 hg w1 hbox hb;have n0_:=aMk (below_step HB.out hb);clear HB;have HB:=n0_;have BK1:=aMk hbox;clear n0_ hb hbox hg;obtain ⟨hcza_0,hcza_1,hfza_0,hfza_1⟩:=bC2 BK1.out)|((with_reducible refine gate_dst (N:=3) rfl ?_);refine bxE (N:=3) (cs:=#[.bool false]) (t:=4) ?_;intro gb3 hg w3 hbox hb;have NE:=aMk (show gb1 ≠ gb3 from (by rw [hg];exact Nat.ne_of_lt (blk_lt (g:=gb1) (o:=.cells #[.int .i64 a0_0,.int .i64 a0_1] 31 (0,0)) (by refine pB ?_;exact BK1.out))));have GE:=aMk (show w.heap.size ≤ gb3 from (by rw [hg];exact below_size (by repeat first|exact HB.out|apply bwA|apply bwN|apply bw1)));have n0_:=aMk (bSt hb);have n1_:=aMk (bkB BK1.out hb);clear HB BK1;have HB:=n0_;have BK1:=n1_;have BK3:=aMk hbox;clear n0_ n1_ hb hbox hg;have hcq : w3.cell? ⟨gb3,0,none⟩ = some (.bool false):=(bCe BK3.out 0).trans rfl;have hfq:=bFr BK3.out 0;obtain ⟨hczb_0,hczb_1,hfzb_0,hfzb_1⟩:=bC2 BK1.out)|((with_reducible refine gate_store (t:=4) (p:=3) rfl ?_);refine store_event (t:=4) (p:=3) (v:=?vo_) (w1:=(w3.setCell ⟨gb3,0,none⟩ (.bool jm))) ?hg ?ho ?hn ?hr ?_;(case ho => rfl);(case hg => rfl);(case hn => rfl);(case hr => first|(go_simp;done)|(go_simp;rfl));intro w4 hw;have n0_:=aMk (show Below w.heap.size w w4 from (by rw [hw];exact below_set HB.out GE.out));have n1_:=aMk (show w4.heap[gb1]? = some (.cells #[.int .i64 a0_0,.int .i64 a0_1] 31 (0,0)) from (by rw [hw];exact blk_far BK1.out NE.out _));have n2_:=aMk (show w4.heap[gb3]? = some (.cells #[.bool jm] 4 (0,0)) from (by rw [hw];simpa using blk_set BK3.out 0 (.bool jm)));clear HB BK1 BK3 hw;have HB:=n0_;have BK1:=n1_;have BK3:=n2_;clear n0_ n1_ n2_;obtain ⟨hczc_0,hczc_1,hfzc_0,hfzc_1⟩:=bC2 BK1.out)|(refine (impl_Word_class_1.calls gb3 3 4 jm r _ ((bCe BK3.out 0).trans rfl) HH.out).mono ?_;rintro e w' ⟨rfl,⟨nd,rfl⟩⟩))
     go_ret
     exact ⟨rfl,by repeat (first|(with_reducible first|exact HB.out|apply bwA|apply bwN|apply bw1)|exact HB.out)⟩
    ·rw [if_neg c3] at h
     have c3b0 : (a0_1 == 0) = false:=beq_eq_false_iff_ne.mpr c3
     have c3b1 : (a0_1 != 0) = true:=bne_iff_ne.mpr c3
     clear c3
     have HH:=aMk h
     clear h
     go_enter Try.func46,Try.ntmps46
     go_wp2_with (first|((with_reducible refine gate_dst (N:=1) rfl ?_);refine bxE (N:=1) (cs:=#[.int .i64 a0_0,.int .i64 a0_1]) (t:=31) ?_;intro gb1 hg w1 hbox hb;have n0_:=aMk (below_step HB.out hb);clear HB;have HB:=n0_;have BK1:=aMk hbox;clear n0_ hb hbox hg;obtain ⟨hcza_0,hcza_1,hfza_0,hfza_1⟩:=bC2 BK1.out)|((with_reducible refine gate_dst (N:=3) rfl ?_);refine bxE (N:=3) (cs:=#[.bool false]) (t:=4) ?_;intro gb3 hg w3 hbox hb;have NE:=aMk (show gb1 ≠ gb3 from (by rw [hg];exact Nat.ne_of_lt (blk_lt (g:=gb1) (o:=.cells #[.int .i64 a0_0,.int .i64 a0_1] 31 (0,0)) (by refine pB ?_;exact BK1.out))));have GE:=aMk (show w.heap.size ≤ gb3 from (by rw [hg];exact below_size (by repeat first|exact HB.out|apply bwA|apply bwN|apply bw1)));have n0_:=aMk (bSt hb);have n1_:=aMk (bkB BK1.out hb);clear HB BK1;have HB:=n0_;have BK1:=n1_;have BK3:=aMk hbox;clear n0_ n1_ hb hbox hg;have hcq : w3.cell? ⟨gb3,0,none⟩ = some (.bool false):=(bCe BK3.out 0).trans rfl;have hfq:=bFr BK3.out 0;obtain ⟨hczb_0,hczb_1,hfzb_0,hfzb_1⟩:=bC2 BK1.out)|((with_reducible refine gate_store (t:=4) (p:=3) rfl ?_);refine store_event (t:=4) (p:=3) (v:=?vo_) (w1:=(w3.setCell ⟨gb3,0,none⟩ (.bool jm))) ?hg ?ho ?hn ?hr ?_;(case ho => rfl);(case hg => rfl);(case hn => rfl);(case hr => first|(go_simp;done)|(go_simp;rfl));intro w4 hw;have n0_:=aMk (show Below w.heap.size w w4 from (by rw [hw];exact below_set HB.out GE.out));have n1_:=aMk (show w4.heap[gb1]? = some (.cells #[.int .i64 a0_0,.int .i64 a0_1] 31 (0,0)) from (by rw [hw];exact blk_far BK1.out NE.out _));have n2_:=aMk (show w4.heap[gb3]? = some (.cells #[.bool jm] 4 (0,0)) from (by rw [hw];simpa using blk_set BK3.out 0 (.bool jm)));clear HB BK1 BK3 hw;have HB:=n0_;have BK1:=n1_;have BK3:=n2_;clear n0_ n1_ n2_;obtain ⟨hczc_0,hczc_1,hfzc_0,hfzc_1⟩:=bC2 BK1.out)|(refine (impl_Word_class_1.calls gb3 2 5 jm r _ ((bCe BK3.out 0).trans rfl) HH.out).mono ?_;rintro e w' ⟨rfl,⟨nd,rfl⟩⟩))
     go_ret
     exact ⟨rfl,by repeat (first|(with_reducible first|exact HB.out|apply bwA|apply bwN|apply bw1)|exact HB.out)⟩
   ·rw [if_neg c2] at h
    have c2b0 : (jf == 0) = false:=beq_eq_false_iff_ne.mpr c2
    have c2b1 : (jf != 0) = true:=bne_iff_ne.mpr c2
    clear c2
    have HH:=aMk h
    clear h
    go_enter Try.func46,Try.ntmps46
    go_wp2_with (first|((with_reducible refine gate_dst (N:=1) rfl ?_);refine bxE (N:=1) (cs:=#[.int .i64 a0_0,.int .i64 a0_1]) (t:=31) ?_;intro gb1 hg w1 hbox hb;have n0_:=aMk (below_step HB.out hb);clear HB;have HB:=n0_;have BK1:=aMk hbox;clear n0_ hb hbox hg;obtain ⟨hcza_0,hcza_1,hfza_0,hfza_1⟩:=bC2 BK1.out)|((with_reducible refine gate_dst (N:=3) rfl ?_);refine bxE (N:=3) (cs:=#[.bool false]) (t:=4) ?_;intro gb3 hg w3 hbox hb;have NE:=aMk (show gb1 ≠ gb3 from (by rw [hg];exact Nat.ne_of_lt (blk_lt (g:=gb1) (o:=.cells #[.int .i64 a0_0,.int .i64 a0_1] 31 (0,0)) (by refine pB ?_;exact BK1.out))));have GE:=aMk (show w.heap.size ≤ gb3 from (by rw [hg];exact below_size (by repeat first|exact HB.out|apply bwA|apply bwN|apply bw1)));have n0_:=aMk (bSt hb);have n1_:=aMk (bkB BK1.out hb);clear HB BK1;have HB:=n0_;have BK1:=n1_;have BK3:=aMk hbox;clear n0_ n1_ hb hbox hg;have hcq : w3.cell? ⟨gb3,0,none⟩ = some (.bool false):=(bCe BK3.out 0).trans rfl;have hfq:=bFr BK3.out 0;obtain ⟨hczb_0,hczb_1,hfzb_0,hfzb_1⟩:=bC2 BK1.out)|((with_reducible refine gate_store (t:=4) (p:=3) rfl ?_);refine store_event (t:=4) (p:=3) (v:=?vo_) (w1:=(w3.setCell ⟨gb3,0,none⟩ (.bool jm))) ?hg ?ho ?hn ?hr ?_;(case ho => rfl);(case hg => rfl);(case hn => rfl);(case hr => first|(go_simp;done)|(go_simp;rfl));intro w4 hw;have n0_:=aMk (show Below w.heap.size w w4 from (by rw [hw];exact below_set HB.out GE.out));have n1_:=aMk (show w4.heap[gb1]? = some (.cells #[.int .i64 a0_0,.int .i64 a0_1] 31 (0,0)) from (by rw [hw];exact blk_far BK1.out NE.out _));have n2_:=aMk (show w4.heap[gb3]? = some (.cells #[.bool jm] 4 (0,0)) from (by rw [hw];simpa using blk_set BK3.out 0 (.bool jm)));clear HB BK1 BK3 hw;have HB:=n0_;have BK1:=n1_;have BK3:=n2_;clear n0_ n1_ n2_;obtain ⟨hczc_0,hczc_1,hfzc_0,hfzc_1⟩:=bC2 BK1.out)|(refine (impl_Word_class_1.calls gb3 2 5 jm r _ ((bCe BK3.out 0).trans rfl) HH.out).mono ?_;rintro e w' ⟨rfl,⟨nd,rfl⟩⟩))
    go_ret
    exact ⟨rfl,by repeat (first|(with_reducible first|exact HB.out|apply bwA|apply bwN|apply bw1)|exact HB.out)⟩
  ·rw [if_neg c4] at h
   have c4b0 : (je == 0) = false:=beq_eq_false_iff_ne.mpr c4
   have c4b1 : (je != 0) = true:=bne_iff_ne.mpr c4
   clear c4
   by_cases c2 : jf = 0
   ·skip
    have c2b0 : (jf == 0) = true:=beq_iff_eq.mpr c2
    have c2b1 : (jf != 0) = false:=bne_eq_false_iff_eq.mpr c2
    clear c2
    by_cases c3 : a0_1 = 0
    ·skip
     have c3b0 : (a0_1 == 0) = true:=beq_iff_eq.mpr c3
     have c3b1 : (a0_1 != 0) = false:=bne_eq_false_iff_eq.mpr c3
     clear c3
     have HH:=aMk h
     clear h
     go_enter Try.func46,Try.ntmps46
     go_wp2_with (first|((with_reducible refine gate_dst (N:=1) rfl ?_);refine bxE (N:=1) (cs:=#[.int .i64 a0_0,.int .i64 a0_1]) (t:=31) ?_;intro gb1 hg w1 hbox hb;have n0_:=aMk (below_step HB.out hb);clear HB;have HB:=n0_;have BK1:=aMk hbox;clear n0_ hb hbox hg;obtain ⟨hcza_0,hcza_1,hfza_0,hfza_1⟩:=bC2 BK1.out)|((with_reducible refine gate_dst (N:=3) rfl ?_);refine bxE (N:=3) (cs:=#[.bool false]) (t:=4) ?_;intro gb3 hg w3 hbox hb;have NE:=aMk (show gb1 ≠ gb3 from (by rw [hg];exact Nat.ne_of_lt (blk_lt (g:=gb1) (o:=.cells #[.int .i64 a0_0,.int .i64 a0_1] 31 (0,0)) (by refine pB ?_;exact BK1.out))));have GE:=aMk (show w.heap.size ≤ gb3 from (by rw [hg];exact below_size (by repeat first|exact HB.out|apply bwA|apply bwN|apply bw1)));have n0_:=aMk (bSt hb);have n1_:=aMk (bkB BK1.out hb);clear HB BK1;have HB:=n0_;have BK1:=n1_;have BK3:=aMk hbox;clear n0_ n1_ hb hbox hg;have hcq : w3.cell? ⟨gb3,0,none⟩ = some (.bool false):=(bCe BK3.out 0).trans rfl;have hfq:=bFr BK3.out 0;obtain ⟨hczb_0,hczb_1,hfzb_0,hfzb_1⟩:=bC2 BK1.out)|((with_reducible refine gate_store (t:=4) (p:=3) rfl ?_);refine store_event (t:=4) (p:=3) (v:=?vo_) (w1:=(w3.setCell ⟨gb3,0,none⟩ (.bool jm))) ?hg ?ho ?hn ?hr ?_;(case ho => rfl);(case hg => rfl);(case hn => rfl);(case hr => first|(go_simp;done)|(go_simp;rfl));intro w4 hw;have n0_:=aMk (show Below w.heap.size w w4 from (by rw [hw];exact below_set HB.out GE.out));have n1_:=aMk (show w4.heap[gb1]? = some (.cells #[.int .i64 a0_0,.int .i64 a0_1] 31 (0,0)) from (by rw [hw];exact blk_far BK1.out NE.out _));have n2_:=aMk (show w4.heap[gb3]? = some (.cells #[.bool jm] 4 (0,0)) from (by rw [hw];simpa using blk_set BK3.out 0 (.bool jm)));clear HB BK1 BK3 hw;have HB:=n0_;have BK1:=n1_;have BK3:=n2_;clear n0_ n1_ n2_;obtain ⟨hczc_0,hczc_1,hfzc_0,hfzc_1⟩:=bC2 BK1.out)|(refine (impl_Word_class_1.calls gb3 2 5 jm r _ ((bCe BK3.out 0).trans rfl) HH.out).mono ?_;rintro e w' ⟨rfl,⟨nd,rfl⟩⟩))
     go_ret
     exact ⟨rfl,by repeat (first|(with_reducible first|exact HB.out|apply bwA|apply bwN|apply bw1)|exact HB.out)⟩
    ·skip
     have c3b0 : (a0_1 == 0) = false:=beq_eq_false_iff_ne.mpr c3
     have c3b1 : (a0_1 != 0) = true:=bne_iff_ne.mpr c3
     clear c3
     have HH:=aMk h
     clear h
     go_enter Try.func46,Try.ntmps46
     go_wp2_with (first|((with_reducible refine gate_dst (N:=1) rfl ?_);refine bxE (N:=1) (cs:=#[.int .i64 a0_0,.int .i64 a0_1]) (t:=31) ?_;intro gb1 hg w1 hbox hb;have n0_:=aMk (below_step HB.out hb);clear HB;have HB:=n0_;have BK1:=aMk hbox;clear n0_ hb hbox hg;obtain ⟨hcza_0,hcza_1,hfza_0,hfza_1⟩:=bC2 BK1.out)|((with_reducible refine gate_dst (N:=3) rfl ?_);refine bxE (N:=3) (cs:=#[.bool false]) (t:=4) ?_;intro gb3 hg w3 hbox hb;have NE:=aMk (show gb1 ≠ gb3 from (by rw [hg];exact Nat.ne_of_lt (blk_lt (g:=gb1) (o:=.cells #[.int .i64 a0_0,.int .i64 a0_1] 31 (0,0)) (by refine pB ?_;exact BK1.out))));have GE:=aMk (show w.heap.size ≤ gb3 from (by rw [hg];exact below_size (by repeat first|exact HB.out|apply bwA|apply bwN|apply bw1)));have n0_:=aMk (bSt hb);have n1_:=aMk (bkB BK1.out hb);clear HB BK1;have HB:=n0_;have BK1:=n1_;have BK3:=aMk hbox;clear n0_ n1_ hb hbox hg;have hcq : w3.cell? ⟨gb3,0,none⟩ = some (.bool false):=(bCe BK3.out 0).trans rfl;have hfq:=bFr BK3.out 0;obtain ⟨hczb_0,hczb_1,hfzb_0,hfzb_1⟩:=bC2 BK1.out)|((with_reducible refine gate_store (t:=4) (p:=3) rfl ?_);refine store_event (t:=4) (p:=3) (v:=?vo_) (w1:=(w3.setCell ⟨gb3,0,none⟩ (.bool jm))) ?hg ?ho ?hn ?hr ?_;(case ho => rfl);(case hg => rfl);(case hn => rfl);(case hr => first|(go_simp;done)|(go_simp;rfl));intro w4 hw;have n0_:=aMk (show Below w.heap.size w w4 from (by rw [hw];exact below_set HB.out GE.out));have n1_:=aMk (show w4.heap[gb1]? = some (.cells #[.int .i64 a0_0,.int .i64 a0_1] 31 (0,0)) from (by rw [hw];exact blk_far BK1.out NE.out _));have n2_:=aMk (show w4.heap[gb3]? = some (.cells #[.bool jm] 4 (0,0)) from (by rw [hw];simpa using blk_set BK3.out 0 (.bool jm)));clear HB BK1 BK3 hw;have HB:=n0_;have BK1:=n1_;have BK3:=n2_;clear n0_ n1_ n2_;obtain ⟨hczc_0,hczc_1,hfzc_0,hfzc_1⟩:=bC2 BK1.out)|(refine (impl_Word_class_1.calls gb3 2 5 jm r _ ((bCe BK3.out 0).trans rfl) HH.out).mono ?_;rintro e w' ⟨rfl,⟨nd,rfl⟩⟩))
     go_ret
     exact ⟨rfl,by repeat (first|(with_reducible first|exact HB.out|apply bwA|apply bwN|apply bw1)|exact HB.out)⟩
   ·skip
    have c2b0 : (jf == 0) = false:=beq_eq_false_iff_ne.mpr c2
    have c2b1 : (jf != 0) = true:=bne_iff_ne.mpr c2
    clear c2
    have HH:=aMk h
    clear h
    go_enter Try.func46,Try.ntmps46
    go_wp2_with (first|((with_reducible refine gate_dst (N:=1) rfl ?_);refine bxE (N:=1) (cs:=#[.int .i64 a0_0,.int .i64 a0_1]) (t:=31) ?_;intro gb1 hg w1 hbox hb;have n0_:=aMk (below_step HB.out hb);clear HB;have HB:=n0_;have BK1:=aMk hbox;clear n0_ hb hbox hg;obtain ⟨hcza_0,hcza_1,hfza_0,hfza_1⟩:=bC2 BK1.out)|((with_reducible refine gate_dst (N:=3) rfl ?_);refine bxE (N:=3) (cs:=#[.bool false]) (t:=4) ?_;intro gb3 hg w3 hbox hb;have NE:=aMk (show gb1 ≠ gb3 from (by rw [hg];exact Nat.ne_of_lt (blk_lt (g:=gb1) (o:=.cells #[.int .i64 a0_0,.int .i64 a0_1] 31 (0,0)) (by refine pB ?_;exact BK1.out))));have GE:=aMk (show w.heap.size ≤ gb3 from (by rw [hg];exact below_size (by repeat first|exact HB.out|apply bwA|apply bwN|apply bw1)));have n0_:=aMk (bSt hb);have n1_:=aMk (bkB BK1.out hb);clear HB BK1;have HB:=n0_;have BK1:=n1_;have BK3:=aMk hbox;clear n0_ n1_ hb hbox hg;have hcq : w3.cell? ⟨gb3,0,none⟩ = some (.bool false):=(bCe BK3.out 0).trans rfl;have hfq:=bFr BK3.out 0;obtain ⟨hczb_0,hczb_1,hfzb_0,hfzb_1⟩:=bC2 BK1.out)|((with_reducible refine gate_store (t:=4) (p:=3) rfl ?_);refine store_event (t:=4) (p:=3) (v:=?vo_) (w1:=(w3.setCell ⟨gb3,0,none⟩ (.bool jm))) ?hg ?ho ?hn ?hr ?_;(case ho => rfl);(case hg => rfl);(case hn => rfl);(case hr => first|(go_simp;done)|(go_simp;rfl));intro w4 hw;have n0_:=aMk (show Below w.heap.size w w4 from (by rw [hw];exact below_set HB.out GE.out));have n1_:=aMk (show w4.heap[gb1]? = some (.cells #[.int .i64 a0_0,.int .i64 a0_1] 31 (0,0)) from (by rw [hw];exact blk_far BK1.out NE.out _));have n2_:=aMk (show w4.heap[gb3]? = some (.cells #[.bool jm] 4 (0,0)) from (by rw [hw];simpa using blk_set BK3.out 0 (.bool jm)));clear HB BK1 BK3 hw;have HB:=n0_;have BK1:=n1_;have BK3:=n2_;clear n0_ n1_ n2_;obtain ⟨hczc_0,hczc_1,hfzc_0,hfzc_1⟩:=bC2 BK1.out)|(refine (impl_Word_class_1.calls gb3 2 5 jm r _ ((bCe BK3.out 0).trans rfl) HH.out).mono ?_;rintro e w' ⟨rfl,⟨nd,rfl⟩⟩))
    go_ret
    exact ⟨rfl,by repeat (first|(with_reducible first|exact HB.out|apply bwA|apply bwN|apply bw1)|exact HB.out)⟩
end
section
/-! ### cmp_isNaN_int: function 72 -/
def cmp_isNaN_int.f (a0 : Int) : Option (Bool):=some (a0 != a0)
set_option maxHeartbeats 8000000 in
set_option maxRecDepth 100000 in
theorem cmp_isNaN_int.calls (a0 : Int) (r : Bool) (w : World) (h : cmp_isNaN_int.f a0 = some r) :
  Calls Try.prog 72 #[.int .i64 a0] w fun e w' => e = .returned (.bool r) ∧ Drawn0 w w':=by
 have H : (some (a0 != a0)) = some r:=h
 clear h
 obtain rfl:=Option.some.inj H
 go_enter Try.func72,Try.ntmps72
 go_wp2
 go_ret
 exact ⟨by first | rfl|(simp;done)|(simp [*];done)|(simp [ne_nil_b];done)|(simp [ne_nil_b, *];done),by repeat (first|exact Drawn0.refl _|apply Drawn0.step)⟩
end
section
/-! ### cmp_Compare_int: function 64 -/
def cmp_Compare_int.f (a0 : Int) (a1 : Int) : Option (Int):=(cmp_isNaN_int.f a0).bind fun t172 => ((cmp_isNaN_int.f a1).bind fun t173 => (if t172 = true then (if t173 = true then (some 0) else (some (-1))) else (if t173 = true then (some 1) else (if a0 < a1 then (some (-1)) else (if a0 > a1 then (some 1) else (some 0))))))
set_option maxHeartbeats 8000000 in
set_option maxRecDepth 100000 in
theorem cmp_Compare_int.calls (a0 : Int) (a1 : Int) (r : Int) (w : World) (h : cmp_Compare_int.f a0 a1 = some r) :
  Calls Try.prog 64 #[.int .i64 a0,.int .i64 a1] w fun e w' => e = .returned (.int .i64 r) ∧ Drawn0 w w':=by
 have H : ((cmp_isNaN_int.f a0).bind fun t172 => ((cmp_isNaN_int.f a1).bind fun t173 => (if t172 = true then (if t173 = true then (some 0) else (some (-1))) else (if t173 = true then (some 1) else (if a0 < a1 then (some (-1)) else (if a0 > a1 then (some 1) else (some 0))))))) = some r:=h
 clear h
 replace H:=Option.bind_eq_some_iff.mp H
 obtain ⟨t172,A30,H⟩:=H
 replace H : ((cmp_isNaN_int.f a1).bind fun t173 => (if t172 = true then (if t173 = true then (some 0) else (some (-1))) else (if t173 = true then (some 1) else (if a0 < a1 then (some (-1)) else (if a0 > a1 then (some 1) else (some 0)))))) = some r:=H
 have A3:=aMk A30
 clear A30
 replace H:=Option.bind_eq_some_iff.mp H
 obtain ⟨t173,A40,H⟩:=H
 replace H : (if t172 = true then (if t173 = true then (some 0) else (some (-1))) else (if t173 = true then (some 1) else (if a0 < a1 then (some (-1)) else (if a0 > a1 then (some 1) else (some 0))))) = some r:=H
 have A4:=aMk A40
 clear A40
 by_cases c5 : t172 = true
 ·subst c5
  have H1 : (if t173 = true then (some 0) else (some (-1))) = some r:=by rw [if_pos rfl] at H;exact H
  clear H
  have H:=H1
  clear H1
  by_cases c6 : t173 = true
  ·subst c6
   have H1 : (some 0) = some r:=by rw [if_pos rfl] at H;exact H
   clear H
   have H:=H1
   clear H1
   obtain rfl:=Option.some.inj H
   go_enter Try.func64,Try.ntmps64
   go_wp2_with (first|((with_reducible refine gate_callee (f:=72) rfl ?_);refine gLs 8 Try.func72 #[.int .i64 a0] ?_;(with_reducible refine (cmp_isNaN_int.calls a0 true _ A3.out).mono ?_);rintro e w' ⟨rfl,⟨nd,rfl⟩⟩;refine ⟨_,rfl,?_⟩)|((with_reducible refine gate_callee (f:=72) rfl ?_);refine gLs 10 Try.func72 #[.int .i64 a1] ?_;(with_reducible refine (cmp_isNaN_int.calls a1 true _ A4.out).mono ?_);rintro e w' ⟨rfl,⟨nd,rfl⟩⟩;refine ⟨_,rfl,?_⟩))
   go_ret
   exact ⟨by first | rfl|(simp;done)|(simp [*];done)|(simp [ne_nil_b];done)|(simp [ne_nil_b, *];done),by repeat (first|exact Drawn0.refl _|apply Drawn0.step)⟩
  ·replace c6:=Bool.eq_false_iff.mpr c6
   subst c6
   have H1 : (some (-1)) = some r:=by rw [if_neg (show ¬ (false = true) by decide)] at H;exact H
   clear H
   have H:=H1
   clear H1
   obtain rfl:=Option.some.inj H
   go_enter Try.func64,Try.ntmps64
   go_wp2_with (first|((with_reducible refine gate_callee (f:=72) rfl ?_);refine gLs 8 Try.func72 #[.int .i64 a0] ?_;(with_reducible refine (cmp_isNaN_int.calls a0 true _ A3.out).mono ?_);rintro e w' ⟨rfl,⟨nd,rfl⟩⟩;refine ⟨_,rfl,?_⟩)|((with_reducible refine gate_callee (f:=72) rfl ?_);refine gLs 10 Try.func72 #[.int .i64 a1] ?_;(with_reducible refine (cmp_isNaN_int.calls a1 false _ A4.out).mono ?_);rintro e w' ⟨rfl,⟨nd,rfl⟩⟩;refine ⟨_,rfl,?_⟩))
   go_ret
   exact ⟨by first | rfl|(simp;done)|(simp [*];done)|(simp [ne_nil_b];done)|(simp [ne_nil_b, *];done),by repeat (first|exact Drawn0.refl _|apply Drawn0.step)⟩
 ·replace c5:=Bool.eq_false_iff.mpr c5
  subst c5
  have H1 : (if t173 = true then (some 1) else (if a0 < a1 then (some (-1)) else (if a0 > a1 then (some 1) else (some 0)))) = some r:=by rw [if_neg (show ¬ (false = true) by decide)] at H;exact H
  clear H
  have H:=H1
  clear H1
  by_cases c7 : t173 = true
  ·subst c7
   have H1 : (some 1) = some r:=by rw [if_pos rfl] at H;exact H
   clear H
   have H:=H1
   clear H1
   obtain rfl:=Option.some.inj H
   go_enter Try.func64,Try.ntmps64
   go_wp2_with (first|((with_reducible refine gate_callee (f:=72) rfl ?_);refine gLs 8 Try.func72 #[.int .i64 a0] ?_;(with_reducible refine (cmp_isNaN_int.calls a0 false _ A3.out).mono ?_);rintro e w' ⟨rfl,⟨nd,rfl⟩⟩;refine ⟨_,rfl,?_⟩)|((with_reducible refine gate_callee (f:=72) rfl ?_);refine gLs 10 Try.func72 #[.int .i64 a1] ?_;(with_reducible refine (cmp_isNaN_int.calls a1 true _ A4.out).mono ?_);rintro e w' ⟨rfl,⟨nd,rfl⟩⟩;refine ⟨_,rfl,?_⟩))
   go_ret
   exact ⟨by first | rfl|(simp;done)|(simp [*];done)|(simp [ne_nil_b];done)|(simp [ne_nil_b, *];done),by repeat (first|exact Drawn0.refl _|apply Drawn0.step)⟩
  ·replace c7:=Bool.eq_false_iff.mpr c7
   subst c7
   have H1 : (if a0 < a1 then (some (-1)) else (if a0 > a1 then (some 1) else (some 0))) = some r:=by rw [if_neg (show ¬ (false = true) by decide)] at H;exact H
   clear H
   have H:=H1
   clear H1
   by_cases c8 : a0 < a1
   ·rw [if_pos c8] at H
    have c8b0 : decide (a0 < a1) = true:=decide_eq_true c8
    clear c8
    obtain rfl:=Option.some.inj H
    go_enter Try.func64,Try.ntmps64
    go_wp2_with (first|((with_reducible refine gate_callee (f:=72) rfl ?_);refine gLs 8 Try.func72 #[.int .i64 a0] ?_;(with_reducible refine (cmp_isNaN_int.calls a0 false _ A3.out).mono ?_);rintro e w' ⟨rfl,⟨nd,rfl⟩⟩;refine ⟨_,rfl,?_⟩)|((with_reducible refine gate_callee (f:=72) rfl ?_);refine gLs 10 Try.func72 #[.int .i64 a1] ?_;(with_reducible refine (cmp_isNaN_int.calls a1 false _ A4.out).mono ?_);rintro e w' ⟨rfl,⟨nd,rfl⟩⟩;refine ⟨_,rfl,?_⟩))
    go_ret
    exact ⟨by first | rfl|(simp;done)|(simp [*];done)|(simp [ne_nil_b];done)|(simp [ne_nil_b, *];done),by repeat (first|exact Drawn0.refl _|apply Drawn0.step)⟩
   ·rw [if_neg c8] at H
    have c8b0 : decide (a0 < a1) = false:=decide_eq_false c8
    clear c8
    by_cases c9 : a0 > a1
    ·rw [if_pos c9] at H
     have c9b0 : decide (a1 < a0) = true:=decide_eq_true c9
     clear c9
     obtain rfl:=Option.some.inj H
     go_enter Try.func64,Try.ntmps64
     go_wp2_with (first|((with_reducible refine gate_callee (f:=72) rfl ?_);refine gLs 8 Try.func72 #[.int .i64 a0] ?_;(with_reducible refine (cmp_isNaN_int.calls a0 false _ A3.out).mono ?_);rintro e w' ⟨rfl,⟨nd,rfl⟩⟩;refine ⟨_,rfl,?_⟩)|((with_reducible refine gate_callee (f:=72) rfl ?_);refine gLs 10 Try.func72 #[.int .i64 a1] ?_;(with_reducible refine (cmp_isNaN_int.calls a1 false _ A4.out).mono ?_);rintro e w' ⟨rfl,⟨nd,rfl⟩⟩;refine ⟨_,rfl,?_⟩))
     go_ret
     exact ⟨by first | rfl|(simp;done)|(simp [*];done)|(simp [ne_nil_b];done)|(simp [ne_nil_b, *];done),by repeat (first|exact Drawn0.refl _|apply Drawn0.step)⟩
    ·rw [if_neg c9] at H
     have c9b0 : decide (a1 < a0) = false:=decide_eq_false c9
     clear c9
     obtain rfl:=Option.some.inj H
     go_enter Try.func64,Try.ntmps64
     go_wp2_with (first|((with_reducible refine gate_callee (f:=72) rfl ?_);refine gLs 8 Try.func72 #[.int .i64 a0] ?_;(with_reducible refine (cmp_isNaN_int.calls a0 false _ A3.out).mono ?_);rintro e w' ⟨rfl,⟨nd,rfl⟩⟩;refine ⟨_,rfl,?_⟩)|((with_reducible refine gate_callee (f:=72) rfl ?_);refine gLs 10 Try.func72 #[.int .i64 a1] ?_;(with_reducible refine (cmp_isNaN_int.calls a1 false _ A4.out).mono ?_);rintro e w' ⟨rfl,⟨nd,rfl⟩⟩;refine ⟨_,rfl,?_⟩))
     go_ret
     exact ⟨by first | rfl|(simp;done)|(simp [*];done)|(simp [ne_nil_b];done)|(simp [ne_nil_b, *];done),by repeat (first|exact Drawn0.refl _|apply Drawn0.step)⟩
end
section
/-! ### cmp_Or_int: function 65 -/
def cmp_Or_int.l0 : Nat → Int → List Int → Int → Int → Option (Int)
 | 0,_,_,_,_ => none
 | k + 1,x3,x6,x7,x8 => if x8 < x7 then (if 0 ≤ x8 then (if x8 < (x6.length : Int) then (if (rd x6 x8) = x3 then (cmp_Or_int.l0 k x3 x6 x7 (wrap64 (x8 + 1))) else (some (rd x6 x8))) else (none)) else (none)) else (some x3)
def cmp_Or_int.f (k : Nat) (l0 : List Int) : Option (Int):=cmp_Or_int.l0 k 0 l0 (l0.length : Int) 0
theorem cmp_Or_int.mono_l : ∀ k,(∀ y0 y1 y2 y3,LeO (cmp_Or_int.l0 k y0 y1 y2 y3) (cmp_Or_int.l0 (k + 1) y0 y1 y2 y3))
 | 0 => fun _ _ _ _ r h => by simp [cmp_Or_int.l0] at h
 | k + 1 => by
  have ih0:=cmp_Or_int.mono_l k
  ·intro y0 y1 y2 y3
   unfold cmp_Or_int.l0
   repeat' first
   | (with_reducible exact ih0 _ _ _ _)
   | (with_reducible exact LeO.refl _)
   | (with_reducible exact LeO.none _)
   | (with_reducible refine LeO.ite ?_ ?_)
   | (with_reducible refine LeO.bind ?_ (fun _ => ?_))
   | exact ih0 _ _ _ _
   | exact LeO.none _
   | refine LeO.ite ?_ ?_
   | refine LeO.bind ?_ (fun _ => ?_)
theorem cmp_Or_int.mono : ∀ a0 k,LeO (cmp_Or_int.f k a0) (cmp_Or_int.f (k + 1) a0):=by
 intro a0 k
 have ih0:=cmp_Or_int.mono_l k
 unfold cmp_Or_int.f
 repeat' first
   | (with_reducible exact ih0 _ _ _ _)
   | (with_reducible exact LeO.refl _)
   | (with_reducible exact LeO.none _)
   | (with_reducible refine LeO.ite ?_ ?_)
   | (with_reducible refine LeO.bind ?_ (fun _ => ?_))
   | exact ih0 _ _ _ _
   | exact LeO.none _
   | refine LeO.ite ?_ ?_
   | refine LeO.bind ?_ (fun _ => ?_)
set_option maxHeartbeats 8000000 in
set_option maxRecDepth 100000 in
theorem cmp_Or_int.calls (k : Nat) (A0 : Option Addr) (c0 : Nat) (l0 : List Int) (r : Int) (w : World) (hr0 : Kd.C (Kd.int .i64) w A0 l0.length l0) (hc0 : l0.length ≤ c0) (h : cmp_Or_int.f k l0 = some r) :
  Calls Try.prog 65 #[.slice A0 l0.length c0] w fun e w' => e = .returned (.int .i64 r) ∧ Drawn0 w w':=by
 have HR0:=aMk hr0
 have HC0:=aMk hc0
 clear hr0 hc0
 have H : (cmp_Or_int.l0 k 0 l0 (l0.length : Int) 0) = some r:=h
 clear h
 have H':=aMk H
 clear H
 go_enter Try.func65,Try.ntmps65
 go_wp2
 go_loopg [8] k (fun kq v8 w' => ∃ (x8_1 : Int),v8 = .int .i64 x8_1 ∧ Aside0 (cmp_Or_int.l0 kq 0 l0 (l0.length : Int) x8_1 = some r) ∧ Aside0 (kq ≤ k) ∧ Drawn0 w w')
 case atStart => exact ⟨(0),(by first | rfl|(simp;done)|(simp [*];done)|(simp [ne_nil_b];done)|(simp [ne_nil_b, *];done)),H',⟨Nat.le_refl _⟩,by repeat (first|exact Drawn0.refl _|apply Drawn0.step)⟩
 case round =>
  clear H'
  obtain ⟨x8_1,rfl,HA,HK1,⟨m1,rfl⟩⟩:=hrel
  cases gk with
  | zero => exact absurd HA.out (by simp [cmp_Or_int.l0])
  | succ k1 =>
   have H:=HA.out
   clear HA
   simp only [cmp_Or_int.l0] at H
   by_cases c2 : x8_1 < (l0.length : Int)
   ·rw [if_pos c2] at H
    have c2b0 : decide (x8_1 < (l0.length : Int)) = true:=decide_eq_true c2
    clear c2
    by_cases c3 : 0 ≤ x8_1
    ·rw [if_pos c3] at H
     have c3b0 : decide (0 ≤ x8_1) = true:=decide_eq_true c3
     clear c3
     by_cases c4 : x8_1 < (l0.length : Int)
     ·rw [if_pos c4] at H
      have c4b0 : decide (x8_1 < (l0.length : Int)) = true:=decide_eq_true c4
      clear c4
      by_cases c5 : (rd l0 x8_1) = 0
      ·rw [if_pos c5] at H
       have c5b0 : ((rd l0 x8_1) == 0) = true:=beq_iff_eq.mpr c5
       have c5b1 : ((rd l0 x8_1) != 0) = false:=bne_eq_false_iff_eq.mpr c5
       clear c5
       have H':=aMk H
       clear H
       have p174 : 0 ≤ (x8_1 : Int):=of_decide_eq_true (by first|(with_reducible assumption) | assumption)
       have q174 : x8_1 < (l0.length : Int):=of_decide_eq_true (by first|(with_reducible assumption) | assumption)
       obtain ⟨ad174,e174,hx174_0⟩:=Kd.at_int HR0.out x8_1 p174 q174
       cases e174
       replace p174:=eq_true p174
       replace q174:=eq_true q174
       go_wp2
       go_roundg k1
       case measure => have:=HK1.out;omega
       case rel => exact ⟨(wrap64 (x8_1 + 1)),(by first | rfl|(simp;done)|(simp [*];done)|(simp [ne_nil_b];done)|(simp [ne_nil_b, *];done)),H',⟨by have:=HK1.out;omega⟩,by repeat (first|exact Drawn0.refl _|apply Drawn0.step)⟩
      ·rw [if_neg c5] at H
       have c5b0 : ((rd l0 x8_1) == 0) = false:=beq_eq_false_iff_ne.mpr c5
       have c5b1 : ((rd l0 x8_1) != 0) = true:=bne_iff_ne.mpr c5
       obtain rfl:=Option.some.inj H
       have p174 : 0 ≤ (x8_1 : Int):=of_decide_eq_true (by first|(with_reducible assumption) | assumption)
       have q174 : x8_1 < (l0.length : Int):=of_decide_eq_true (by first|(with_reducible assumption) | assumption)
       obtain ⟨ad174,e174,hx174_0⟩:=Kd.at_int HR0.out x8_1 p174 q174
       cases e174
       replace p174:=eq_true p174
       replace q174:=eq_true q174
       go_wp2
       go_ret
       exact ⟨by first | rfl|(simp;done)|(simp [*];done)|(simp [ne_nil_b];done)|(simp [ne_nil_b, *];done),by repeat (first|exact Drawn0.refl _|apply Drawn0.step)⟩
     ·rw [if_neg c4] at H
      exact absurd H (by simp)
    ·rw [if_neg c3] at H
     exact absurd H (by simp)
   ·rw [if_neg c2] at H
    have c2b0 : decide (x8_1 < (l0.length : Int)) = false:=decide_eq_false c2
    clear c2
    obtain rfl:=Option.some.inj H
    go_wp2
    go_ret
    exact ⟨by first | rfl|(simp;done)|(simp [*];done)|(simp [ne_nil_b];done)|(simp [ne_nil_b, *];done),by repeat (first|exact Drawn0.refl _|apply Drawn0.step)⟩
end
section
/-! ### impl_Word_order: function 44 -/
def impl_Word_order.j0 : Nat → Int → Bool → Int → Int → Int → Int → Option (Int)
 | 0,_,_,_,_,_,_ => none
 | k + 1,x5,x18,x176000,x176001,x177000,x177001 => if x18 = true then (some x5) else ((cmp_Compare_int.f x176000 x177000).bind fun t181 => ((cmp_Compare_int.f x176001 x177001).bind fun t182 => ((cmp_Or_int.f k (([t181,t182] : List Int))).bind fun t186 => ((impl_Word_class.f x176000 x176001).bind fun t187 => (if t187 = 2 then (some (wrap64 (-t186))) else (some t186))))))
def impl_Word_order.f (k : Nat) (a0_0 : Int) (a0_1 : Int) (a1_0 : Int) (a1_1 : Int) : Option (Int):=(impl_Word_class.f a0_0 a0_1).bind fun t177 => ((impl_Word_class.f a1_0 a1_1).bind fun t178 => ((cmp_Compare_int.f t177 t178).bind fun t179 => (if t179 = 0 then ((impl_Word_class.f a0_0 a0_1).bind fun t180 => (impl_Word_order.j0 k t179 (t180 == 0) a0_0 a0_1 a1_0 a1_1)) else (impl_Word_order.j0 k t179 true a0_0 a0_1 a1_0 a1_1))))
theorem impl_Word_order.mono_l : ∀ k,(∀ y0 y1 y2 y3 y4 y5,LeO (impl_Word_order.j0 k y0 y1 y2 y3 y4 y5) (impl_Word_order.j0 (k + 1) y0 y1 y2 y3 y4 y5))
 | 0 => fun _ _ _ _ _ _ r h => by simp [impl_Word_order.j0] at h
 | k + 1 => by
  have ih0:=impl_Word_order.mono_l k
  ·intro y0 y1 y2 y3 y4 y5
   unfold impl_Word_order.j0
   repeat' first
   | (with_reducible exact ih0 _ _ _ _ _ _)
   | (with_reducible exact cmp_Or_int.mono ..)
   | (with_reducible exact LeO.refl _)
   | (with_reducible exact LeO.none _)
   | (with_reducible refine LeO.ite ?_ ?_)
   | (with_reducible refine LeO.bind ?_ (fun _ => ?_))
   | exact ih0 _ _ _ _ _ _
   | exact cmp_Or_int.mono ..
   | exact LeO.none _
   | refine LeO.ite ?_ ?_
   | refine LeO.bind ?_ (fun _ => ?_)
theorem impl_Word_order.mono : ∀ a0 a1 a2 a3 k,LeO (impl_Word_order.f k a0 a1 a2 a3) (impl_Word_order.f (k + 1) a0 a1 a2 a3):=by
 intro a0 a1 a2 a3 k
 have ih0:=impl_Word_order.mono_l k
 unfold impl_Word_order.f
 repeat' first
   | (with_reducible exact ih0 _ _ _ _ _ _)
   | (with_reducible exact cmp_Or_int.mono ..)
   | (with_reducible exact LeO.refl _)
   | (with_reducible exact LeO.none _)
   | (with_reducible refine LeO.ite ?_ ?_)
   | (with_reducible refine LeO.bind ?_ (fun _ => ?_))
   | exact ih0 _ _ _ _ _ _
   | exact cmp_Or_int.mono ..
   | exact LeO.none _
   | refine LeO.ite ?_ ?_
   | refine LeO.bind ?_ (fun _ => ?_)
def impl_Word_order.T4 : Bool × List (List Nat × List Nat):=(true,[([],[]),([0],[0]),([],[]),([2],[2]),([1,3],[1,3]),([],[]),([5],[5]),([],[]),([7],[7]),([6,8,4],[6,8]),([4,9],[4,9]),([10,9],[10]),([11,11,0,1,2,3,4,5,6,7,8,9,10,11],[11])])
def impl_Word_order.B4 : List Nat:=[0,1,0,4,15,0,32,0,128,511,1023,2047,4095]
theorem impl_Word_order.tab4 : rtab .any (opsOf Try.f44 4) = impl_Word_order.T4:=by kernel_rfl
theorem impl_Word_order.bits4 : waitsOk impl_Word_order.T4.2 impl_Word_order.B4 = true:=by kernel_rfl
set_option maxHeartbeats 8000000 in
set_option maxRecDepth 100000 in
theorem impl_Word_order.calls (k : Nat) (a0_0 : Int) (a0_1 : Int) (a1_0 : Int) (a1_1 : Int) (r : Int) (w : World) (h : impl_Word_order.f k a0_0 a0_1 a1_0 a1_1 = some r) :
  Calls Try.prog 44 #[.agg #[.int .i64 a0_0,.int .i64 a0_1],.agg #[.int .i64 a1_0,.int .i64 a1_1]] w fun e w' => e = .returned (.int .i64 r) ∧ Below w.heap.size w w':=by
 have hu31:=Try.underlying31
 have HB:=aMk (Below.refl w.heap.size w)
 have H : ((impl_Word_class.f a0_0 a0_1).bind fun t177 => ((impl_Word_class.f a1_0 a1_1).bind fun t178 => ((cmp_Compare_int.f t177 t178).bind fun t179 => (if t179 = 0 then ((impl_Word_class.f a0_0 a0_1).bind fun t180 => (impl_Word_order.j0 k t179 (t180 == 0) a0_0 a0_1 a1_0 a1_1)) else (impl_Word_order.j0 k t179 true a0_0 a0_1 a1_0 a1_1))))) = some r:=h
 clear h
 replace H:=Option.bind_eq_some_iff.mp H
 obtain ⟨t177,A30,H⟩:=H
 replace H : ((impl_Word_class.f a1_0 a1_1).bind fun t178 => ((cmp_Compare_int.f t177 t178).bind fun t179 => (if t179 = 0 then ((impl_Word_class.f a0_0 a0_1).bind fun t180 => (impl_Word_order.j0 k t179 (t180 == 0) a0_0 a0_1 a1_0 a1_1)) else (impl_Word_order.j0 k t179 true a0_0 a0_1 a1_0 a1_1)))) = some r:=H
 have A3:=aMk A30
 clear A30
 replace H:=Option.bind_eq_some_iff.mp H
 obtain ⟨t178,A40,H⟩:=H
 replace H : ((cmp_Compare_int.f t177 t178).bind fun t179 => (if t179 = 0 then ((impl_Word_class.f a0_0 a0_1).bind fun t180 => (impl_Word_order.j0 k t179 (t180 == 0) a0_0 a0_1 a1_0 a1_1)) else (impl_Word_order.j0 k t179 true a0_0 a0_1 a1_0 a1_1))) = some r:=H
 have A4:=aMk A40
 clear A40
 replace H:=Option.bind_eq_some_iff.mp H
 obtain ⟨t179,A50,H⟩:=H
 replace H : (if t179 = 0 then ((impl_Word_class.f a0_0 a0_1).bind fun t180 => (impl_Word_order.j0 k t179 (t180 == 0) a0_0 a0_1 a1_0 a1_1)) else (impl_Word_order.j0 k t179 true a0_0 a0_1 a1_0 a1_1)) = some r:=H
 have A5:=aMk A50
 clear A50
 have HC6:=aMk H
 clear H
 go_enter Try.func44,Try.ntmps44
 try go_wp2_with (first|((with_reducible refine gate_dst (N:=2) rfl ?_);refine bxE (N:=2) (cs:=#[.int .i64 a0_0,.int .i64 a0_1]) (t:=31) ?_;intro gb175 hg w7 hbox hb;have n0_:=aMk (bSt hb);have n1_:=aMk (hbox);have n2_:=aMk ((by rw [hg];exact bSz : w.heap.size ≤ gb175));have n3_:=aMk ((by rw [hg];exact bSz : w.heap.size ≤ gb175));clear HB;have HB:=n0_;have BK175:=n1_;have GW175:=n2_;have GE175:=n3_;clear n0_ n1_ n2_ n3_;clear hb hbox hg)|((with_reducible refine gate_dst (N:=3) rfl ?_);refine bxE (N:=3) (cs:=#[.int .i64 a1_0,.int .i64 a1_1]) (t:=31) ?_;intro gb176 hg w8 hbox hb;have n0_:=aMk (bkB BK175.out hb);have n1_:=aMk (below_step (by repeat (first|(with_reducible first|exact HB.out|apply bwA|apply bwN|apply bw1|refine below_set ?_ GE175.out)|exact HB.out)) hb);have n2_:=aMk (hbox);have n3_:=aMk ((by rw [hg];exact (below_size (by repeat (first|(with_reducible first|exact HB.out|apply bwA|apply bwN|apply bw1|refine below_set ?_ GE175.out)|exact HB.out))) : w.heap.size ≤ gb176));have n4_:=aMk ((by rw [hg];exact (below_size (by repeat (first|(with_reducible first|exact HB.out|apply bwA|apply bwN|apply bw1|refine below_set ?_ GE175.out)|exact HB.out))) : w.heap.size ≤ gb176));have n5_:=aMk ((bkL BK175.out hg : gb175 ≠ gb176));have n6_:=aMk ((bkG BK175.out hg : gb176 ≠ gb175));clear BK175;clear HB;have BK175:=n0_;have HB:=n1_;have BK176:=n2_;have GW176:=n3_;have GE176:=n4_;have NB175_176:=n5_;have NB176_175:=n6_;clear n0_ n1_ n2_ n3_ n4_ n5_ n6_;clear hb hbox hg))
 have n0_:=aMk (bDr BK175.out)
 have n1_:=aMk (bDr BK176.out)
 have n2_:=aMk (bw1 HB.out)
 clear BK175
 clear BK176
 clear HB
 have BK175:=n0_
 have BK176:=n1_
 have HB:=n2_
 clear n0_ n1_ n2_
 refine start_ (n:=6) (S:=fun w' => w'.cell? ⟨gb175,0,none⟩ = some (.int .i64 a0_0) ∧ w'.cell? ⟨gb175,1,none⟩ = some (.int .i64 a0_1) ∧ w'.cell? ⟨gb176,0,none⟩ = some (.int .i64 a1_0) ∧ w'.cell? ⟨gb176,1,none⟩ = some (.int .i64 a1_1)) (ds:=[]) #[false,false,false,false,false,false] (by kernel_rfl) rfl rfl ⟨(bCe BK175.out 0).trans rfl,(bCe BK175.out 1).trans rfl,(bCe BK176.out 0).trans rfl,(bCe BK176.out 1).trans rfl⟩ (fun hHeld => ?_)
 generalize w8.drew = w9 at BK175 BK176 HB hHeld ⊢
 refine tU4 (i:=0) (N:=some 7) #[true,false,false,false,false,false] (by kernel_rfl) hHeld ?_
 refine tU4 (i:=2) (N:=some 9) #[true,false,true,false,false,false] (by kernel_rfl) hHeld ?_
 refine one_ (i:=1) (N:=some 8) #[true,true,true,false,false,false] rfl rfl (by kernel_rfl) (by decide) (fun K hK => ?_)
 refine goes_ Try.func46 (by kernel_rfl) rfl #[.agg #[.int .i64 a0_0,.int .i64 a0_1]] (by rfl) rfl rfl (by (try simp only [List.map_toArray,List.map_cons,List.map_nil]);first | done | rfl|(simp only [List.length_drop,List.length_take];rfl)) ?_
 with_reducible refine (impl_Word_class.calls a0_0 a0_1 t177 _ A3.out).mono ?_
 rintro e w10 ⟨rfl,hb⟩
 refine ⟨_,rfl,?_⟩
 have n0_:=aMk (bkB BK175.out hb)
 have n1_:=aMk (bkB BK176.out hb)
 have n2_:=aMk (below_step (by repeat (first|(with_reducible first|exact HB.out|apply bwA|apply bwN|apply bw1|refine below_set ?_ GE175.out|refine below_set ?_ GE176.out)|exact HB.out)) hb)
 clear BK175
 clear BK176
 clear HB
 have BK175:=n0_
 have BK176:=n1_
 have HB:=n2_
 clear n0_ n1_ n2_
 (try clear hb)
 (try clear hb2)
 (try clear hk)
 (try clear hi)
 refine hK.out _ _ ⟨(bCe BK175.out 0).trans rfl,(bCe BK175.out 1).trans rfl,(bCe BK176.out 0).trans rfl,(bCe BK176.out 1).trans rfl⟩ (fun hHeld => ?_)
 clear hK K
 refine norm_ (a':=?_) ?_ ?_
 rotate_left
 ·show Act.put _ (some 8) _ = _
  simp only [Act.put,List.setIfInBounds_toArray,List.set_cons_zero,List.set_cons_succ,i64_w,i32_w]
  rfl
 refine one_ (i:=3) (N:=some 10) #[true,true,true,true,false,false] rfl rfl (by kernel_rfl) (by decide) (fun K hK => ?_)
 refine goes_ Try.func46 (by kernel_rfl) rfl #[.agg #[.int .i64 a1_0,.int .i64 a1_1]] (by rfl) rfl rfl (by (try simp only [List.map_toArray,List.map_cons,List.map_nil]);first | done | rfl|(simp only [List.length_drop,List.length_take];rfl)) ?_
 with_reducible refine (impl_Word_class.calls a1_0 a1_1 t178 _ A4.out).mono ?_
 rintro e w11 ⟨rfl,hb⟩
 refine ⟨_,rfl,?_⟩
 have n0_:=aMk (bkB BK175.out hb)
 have n1_:=aMk (bkB BK176.out hb)
 have n2_:=aMk (below_step (by repeat (first|(with_reducible first|exact HB.out|apply bwA|apply bwN|apply bw1|refine below_set ?_ GE175.out|refine below_set ?_ GE176.out)|exact HB.out)) hb)
 clear BK175
 clear BK176
 clear HB
 have BK175:=n0_
 have BK176:=n1_
 have HB:=n2_
 clear n0_ n1_ n2_
 (try clear hb)
 (try clear hb2)
 (try clear hk)
 (try clear hi)
 refine hK.out _ _ ⟨(bCe BK175.out 0).trans rfl,(bCe BK175.out 1).trans rfl,(bCe BK176.out 0).trans rfl,(bCe BK176.out 1).trans rfl⟩ (fun hHeld => ?_)
 clear hK K
 refine norm_ (a':=?_) ?_ ?_
 rotate_left
 ·show Act.put _ (some 10) _ = _
  simp only [Act.put,List.setIfInBounds_toArray,List.set_cons_zero,List.set_cons_succ,i64_w,i32_w]
  rfl
 refine one_ (i:=4) (N:=some 11) #[true,true,true,true,true,false] rfl rfl (by kernel_rfl) (by decide) (fun K hK => ?_)
 refine goes_ Try.func64 (by kernel_rfl) rfl #[.int .i64 t177,.int .i64 t178] (by rfl) rfl rfl (by (try simp only [List.map_toArray,List.map_cons,List.map_nil]);first | done | rfl|(simp only [List.length_drop,List.length_take];rfl)) ?_
 with_reducible refine (cmp_Compare_int.calls t177 t178 t179 _ A5.out).mono ?_
 rintro e w' ⟨rfl,⟨nd,rfl⟩⟩
 refine ⟨_,rfl,?_⟩
 refine hK.out _ _ ⟨(bCe BK175.out 0).trans rfl,(bCe BK175.out 1).trans rfl,(bCe BK176.out 0).trans rfl,(bCe BK176.out 1).trans rfl⟩ (fun hHeld => ?_)
 clear hK K
 refine norm_ (a':=?_) ?_ ?_
 rotate_left
 ·show Act.put _ (some 11) _ = _
  simp only [Act.put,List.setIfInBounds_toArray,List.set_cons_zero,List.set_cons_succ,i64_w,i32_w]
  rfl
 refine pU (i:=5) (N:=some 5) #[true,true,true,true,true,true] (by kernel_rfl) ?_
 refine done_ (by kernel_rfl) ?_
 go_upto_region 2 with (fail)
 go_cut [18] (fun v18 wc => ∃ (kq : Nat) (x18_5 : Bool),v18 = .bool x18_5 ∧ Aside0 (impl_Word_order.j0 kq t179 x18_5 a0_0 a0_1 a1_0 a1_1 = some r) ∧ Aside0 (kq ≤ k) ∧ Aside0 (wc.heap[gb175]? = some (.cells #[.int .i64 a0_0,.int .i64 a0_1] 31 (0,0))) ∧ Aside0 (wc.heap[gb176]? = some (.cells #[.int .i64 a1_0,.int .i64 a1_1] 31 (0,0))) ∧ Aside0 (Below w.heap.size w wc))
 case first =>
  have H:=HC6.out
  clear HC6
  by_cases c12 : t179 = 0
  ·rw [if_pos c12] at H
   have c12b0 : (t179 == 0) = true:=beq_iff_eq.mpr c12
   have c12b1 : (t179 != 0) = false:=bne_eq_false_iff_eq.mpr c12
   clear c12
   (first|rw [c12b0]|(simp only [i64_w,i32_w];rw [c12b0]) | skip)
   replace H:=Option.bind_eq_some_iff.mp H
   obtain ⟨t180,A130,H⟩:=H
   replace H : (impl_Word_order.j0 k t179 (t180 == 0) a0_0 a0_1 a1_0 a1_1) = some r:=H
   have A13:=aMk A130
   clear A130
   have H':=aMk H
   clear H
   have hnb14:=NB175_176.out
   have hnc14:=NB176_175.out
   obtain ⟨hcz15_0,hcz15_1,hfz15_0,hfz15_1⟩:=bC2 BK175.out
   go_wp2_with (first|(go_at_call 46;(with_reducible refine (impl_Word_class.calls a0_0 a0_1 t180 _ A13.out).mono ?_);rintro e w16 ⟨rfl,hb⟩;have n0_:=aMk (bkB BK175.out hb);have n1_:=aMk (bkB BK176.out hb);have n2_:=aMk (below_step (by repeat (first|(with_reducible first|exact HB.out|apply bwA|apply bwN|apply bw1|refine below_set ?_ GE175.out|refine below_set ?_ GE176.out)|exact HB.out)) hb);clear BK175;clear BK176;clear HB;have BK175:=n0_;have BK176:=n1_;have HB:=n2_;clear n0_ n1_ n2_;(try clear hb);(try clear hb2);(try clear hk);(try clear hi)))
   go_meet
   case rel => exact ⟨_,((t180 == 0)),(by first | rfl|(simp;done)|(simp [*];done)|(simp [ne_nil_b];done)|(simp [ne_nil_b, *];done)),H',⟨by first | omega|exact Nat.le_refl _⟩,⟨by refine pB ?_;exact BK175.out⟩,⟨by refine pB ?_;exact BK176.out⟩,⟨by repeat (first|(with_reducible first|exact HB.out|apply bwA|apply bwN|apply bw1|refine below_set ?_ GE175.out|refine below_set ?_ GE176.out)|exact HB.out)⟩⟩
  ·rw [if_neg c12] at H
   have c12b0 : (t179 == 0) = false:=beq_eq_false_iff_ne.mpr c12
   have c12b1 : (t179 != 0) = true:=bne_iff_ne.mpr c12
   (first|rw [c12b0]|(simp only [i64_w,i32_w];rw [c12b0]) | skip)
   have H':=aMk H
   clear H
   go_wp2
   go_meet
   case rel => exact ⟨_,(true),(by first | rfl|(simp;done)|(simp [*];done)|(simp [ne_nil_b];done)|(simp [ne_nil_b, *];done)),H',⟨by first | omega|exact Nat.le_refl _⟩,⟨by refine pB ?_;exact BK175.out⟩,⟨by refine pB ?_;exact BK176.out⟩,⟨by repeat (first|(with_reducible first|exact HB.out|apply bwA|apply bwN|apply bw1|refine below_set ?_ GE175.out|refine below_set ?_ GE176.out)|exact HB.out)⟩⟩
 case rest =>
  clear HC6
  try clear c1
  try clear p2
  try clear c4
  try clear c6
  try clear c12
  try clear c12b0
  try clear c12b1
  try clear c14
  try clear hcz15_0
  try clear hcz15_1
  try clear hfz15_0
  try clear hfz15_1
  obtain ⟨kq,x18_5,rfl,HA,HJ5,BK175,BK176,HB⟩:=hcut
  cases kq with
  | zero => exact absurd HA.out (by simp [impl_Word_order.j0])
  | succ kj5 =>
   have H:=HA.out
   clear HA
   simp only [impl_Word_order.j0] at H
   by_cases c17 : x18_5 = true
   ·subst c17
    have H1 : (some t179) = some r:=by rw [if_pos rfl] at H;exact H
    clear H
    have H:=H1
    clear H1
    obtain rfl:=Option.some.inj H
    go_wp2
    go_ret
    exact ⟨eRf,by repeat (first|(with_reducible first|exact HB.out|apply bwA|apply bwN|apply bw1|refine below_set ?_ GE175.out|refine below_set ?_ GE176.out)|exact HB.out)⟩
   ·replace c17:=Bool.eq_false_iff.mpr c17
    subst c17
    have H1 : ((cmp_Compare_int.f a0_0 a1_0).bind fun t181 => ((cmp_Compare_int.f a0_1 a1_1).bind fun t182 => ((cmp_Or_int.f kj5 (([t181,t182] : List Int))).bind fun t186 => ((impl_Word_class.f a0_0 a0_1).bind fun t187 => (if t187 = 2 then (some (wrap64 (-t186))) else (some t186)))))) = some r:=by rw [if_neg (show ¬ (false = true) by decide)] at H;exact H
    clear H
    have H:=H1
    clear H1
    replace H:=Option.bind_eq_some_iff.mp H
    obtain ⟨t181,A180,H⟩:=H
    replace H : ((cmp_Compare_int.f a0_1 a1_1).bind fun t182 => ((cmp_Or_int.f kj5 (([t181,t182] : List Int))).bind fun t186 => ((impl_Word_class.f a0_0 a0_1).bind fun t187 => (if t187 = 2 then (some (wrap64 (-t186))) else (some t186))))) = some r:=H
    have A18:=aMk A180
    clear A180
    replace H:=Option.bind_eq_some_iff.mp H
    obtain ⟨t182,A190,H⟩:=H
    replace H : ((cmp_Or_int.f kj5 (([t181,t182] : List Int))).bind fun t186 => ((impl_Word_class.f a0_0 a0_1).bind fun t187 => (if t187 = 2 then (some (wrap64 (-t186))) else (some t186)))) = some r:=H
    have A19:=aMk A190
    clear A190
    obtain ⟨y183,hy183⟩ : ∃ y_ : List Int,y_ = (([t181,t182] : List Int)):=⟨_,rfl⟩
    replace H : ((cmp_Or_int.f kj5 y183).bind fun t186 => ((impl_Word_class.f a0_0 a0_1).bind fun t187 => (if t187 = 2 then (some (wrap64 (-t186))) else (some t186)))) = some r:=by first|(rw [hy183];with_reducible exact H)|(have H2_:=(Option.bind_some _ _).symm.trans H;rw [hy183];with_reducible exact H2_)|(have H2_:=(Option.bind_some _ _).symm.trans H;with_reducible exact H2_) | with_reducible exact H|(rw [hy183];exact H)|exact H
    have Ny183:=aMk hy183
    clear hy183
    replace H:=Option.bind_eq_some_iff.mp H
    obtain ⟨t186,A200,H⟩:=H
    replace H : ((impl_Word_class.f a0_0 a0_1).bind fun t187 => (if t187 = 2 then (some (wrap64 (-t186))) else (some t186))) = some r:=H
    have A20:=aMk A200
    clear A200
    replace H:=Option.bind_eq_some_iff.mp H
    obtain ⟨t187,A210,H⟩:=H
    replace H : (if t187 = 2 then (some (wrap64 (-t186))) else (some t186)) = some r:=H
    have A21:=aMk A210
    clear A210
    by_cases c22 : t187 = 2
    ·rw [if_pos c22] at H
     have c22b0 : (t187 == 2) = true:=beq_iff_eq.mpr c22
     have c22b1 : (t187 != 2) = false:=bne_eq_false_iff_eq.mpr c22
     clear c22
     obtain rfl:=Option.some.inj H
     try go_wp2
     have n0_:=aMk (bDr BK175.out)
     have n1_:=aMk (bDr BK176.out)
     have n2_:=aMk (bw1 HB.out)
     clear BK175
     clear BK176
     clear HB
     have BK175:=n0_
     have BK176:=n1_
     have HB:=n2_
     clear n0_ n1_ n2_
     refine start_ (n:=13) (S:=fun w' => w'.cell? ⟨gb175,0,none⟩ = some (.int .i64 a0_0) ∧ w'.cell? ⟨gb175,1,none⟩ = some (.int .i64 a0_1) ∧ w'.cell? ⟨gb176,0,none⟩ = some (.int .i64 a1_0) ∧ w'.cell? ⟨gb176,1,none⟩ = some (.int .i64 a1_1)) (ds:=[]) #[false,false,false,false,false,false,false,false,false,false,false,false,false] (by kernel_rfl) rfl rfl ⟨(bCe BK175.out 0).trans rfl,(bCe BK175.out 1).trans rfl,(bCe BK176.out 0).trans rfl,(bCe BK176.out 1).trans rfl⟩ (fun hHeld => ?_);refine with_tabW impl_Word_order.tab4 impl_Word_order.bits4 (fun HT_ HW_ => ?_)
     generalize wc.drew = w23 at BK175 BK176 HB hHeld ⊢
     refine pU (i:=0) (N:=some 20) #[true,false,false,false,false,false,false,false,false,false,false,false,false] (any_of HT_.out (by kernel_rfl)) ?_
     refine pU (i:=2) (N:=some 22) #[true,false,true,false,false,false,false,false,false,false,false,false,false] (any_of HT_.out (by kernel_rfl)) ?_
     refine pU (i:=5) (N:=some 25) #[true,false,true,false,false,true,false,false,false,false,false,false,false] (any_of HT_.out (by kernel_rfl)) ?_
     refine pU (i:=7) (N:=some 27) #[true,false,true,false,false,true,false,true,false,false,false,false,false] (any_of HT_.out (by kernel_rfl)) ?_
     refine tU4 (i:=1) (N:=some 21) #[true,true,true,false,false,true,false,true,false,false,false,false,false] (take_ofW HT_.out HW_.out (by kernel_rfl)) hHeld ?_
     refine tU4 (i:=3) (N:=some 23) #[true,true,true,true,false,true,false,true,false,false,false,false,false] (take_ofW HT_.out HW_.out (by kernel_rfl)) hHeld ?_
     refine tU4 (i:=6) (N:=some 26) #[true,true,true,true,false,true,true,true,false,false,false,false,false] (take_ofW HT_.out HW_.out (by kernel_rfl)) hHeld ?_
     refine tU4 (i:=8) (N:=some 28) #[true,true,true,true,false,true,true,true,true,false,false,false,false] (take_ofW HT_.out HW_.out (by kernel_rfl)) hHeld ?_
     refine one_ (i:=4) (N:=some 24) #[true,true,true,true,true,true,true,true,true,false,false,false,false] rfl rfl (one_of HT_.out (by kernel_rfl)) (by decide) (fun K hK => ?_)
     refine goes_ Try.func64 (by kernel_rfl) rfl #[.int .i64 a0_0,.int .i64 a1_0] (by rfl) rfl rfl (by (try simp only [List.map_toArray,List.map_cons,List.map_nil]);first | done | rfl|(simp only [List.length_drop,List.length_take];rfl)) ?_
     with_reducible refine (cmp_Compare_int.calls a0_0 a1_0 t181 _ A18.out).mono ?_
     rintro e w' ⟨rfl,⟨nd,rfl⟩⟩
     refine ⟨_,rfl,?_⟩
     refine hK.out _ _ ⟨(bCe BK175.out 0).trans rfl,(bCe BK175.out 1).trans rfl,(bCe BK176.out 0).trans rfl,(bCe BK176.out 1).trans rfl⟩ (fun hHeld => ?_)
     clear hK K
     refine norm_ (a':=?_) ?_ ?_
     rotate_left
     ·show Act.put _ (some 24) _ = _
      simp only [Act.put,List.setIfInBounds_toArray,List.set_cons_zero,List.set_cons_succ,i64_w,i32_w]
      rfl
     refine one_ (i:=9) (N:=some 29) #[true,true,true,true,true,true,true,true,true,true,false,false,false] rfl rfl (one_of HT_.out (by kernel_rfl)) (by decide) (fun K hK => ?_)
     refine goes_ Try.func64 (by kernel_rfl) rfl #[.int .i64 a0_1,.int .i64 a1_1] (by rfl) rfl rfl (by (try simp only [List.map_toArray,List.map_cons,List.map_nil]);first | done | rfl|(simp only [List.length_drop,List.length_take];rfl)) ?_
     with_reducible refine (cmp_Compare_int.calls a0_1 a1_1 t182 _ A19.out).mono ?_
     rintro e w' ⟨rfl,⟨nd,rfl⟩⟩
     refine ⟨_,rfl,?_⟩
     refine hK.out _ _ ⟨(bCe BK175.out 0).trans rfl,(bCe BK175.out 1).trans rfl,(bCe BK176.out 0).trans rfl,(bCe BK176.out 1).trans rfl⟩ (fun hHeld => ?_)
     clear hK K
     refine norm_ (a':=?_) ?_ ?_
     rotate_left
     ·show Act.put _ (some 29) _ = _
      simp only [Act.put,List.setIfInBounds_toArray,List.set_cons_zero,List.set_cons_succ,i64_w,i32_w]
      rfl
     refine one_ (i:=10) (N:=some 30) #[true,true,true,true,true,true,true,true,true,true,true,false,false] rfl rfl (one_of HT_.out (by kernel_rfl)) (by decide) (fun K hK => ?_)
     refine Kd.R_lit_step (Kd.int .i64) _ 3 ?hg (N:=30) ?hd (xs:=([t181,t182] : List Int)) (inner:=[.int .i64 t181,.int .i64 t182]) (ok:=fun _ => True) (okp:=fun _ => True) ?hr ?hp (fun _ hk => hk) trivial (Below.refl _ _) (Nat.le_refl _) (by simp) ?_;(case hd => rfl);(case hg => rfl);(case hr => first|(go_simp;done)|(go_simp;rfl));(case hp => exact (Reps.one (show Kd.M (Kd.int .i64) _ _ _ t181 [.int .i64 t181] from rfl) (Reps.one (show Kd.M (Kd.int .i64) _ _ _ t182 [.int .i64 t182] from rfl) (Reps.none _ _))))
     intro v184 w24 ho25 hb hg_ hnew_
     clear hg_ hnew_
     (first|rw [← Ny183.out] at ho25|(simp only [Int.reduceToNat] at ho25;rw [← Ny183.out] at ho25))
     have n0_:=aMk (Kd.R_lower ho25 (below_size (by repeat (first|(with_reducible first|exact HB.out|apply bwA|apply bwN|apply bw1|refine below_set ?_ GE175.out|refine below_set ?_ GE176.out)|exact HB.out))))
     have n1_:=aMk (bkB BK175.out hb)
     have n2_:=aMk (bkB BK176.out hb)
     have n3_:=aMk (below_step (by repeat (first|(with_reducible first|exact HB.out|apply bwA|apply bwN|apply bw1|refine below_set ?_ GE175.out|refine below_set ?_ GE176.out)|exact HB.out)) hb)
     clear BK175
     clear BK176
     clear HB
     have HO185:=n0_
     have BK175:=n1_
     have BK176:=n2_
     have HB:=n3_
     clear n0_ n1_ n2_ n3_
     clear hb ho25
     obtain ⟨Ao26,co26,eo26⟩:=Kd.R_slice HO185.out
     (first|subst eo26|(injection eo26 with f1_ f2_ f3_;have f4_:=f1_.symm;have f5_:=f3_.symm;clear f1_ f2_ f3_;subst f4_;subst f5_))
     refine hK.out _ _ ⟨(bCe BK175.out 0).trans rfl,(bCe BK175.out 1).trans rfl,(bCe BK176.out 0).trans rfl,(bCe BK176.out 1).trans rfl⟩ (fun hHeld => ?_)
     clear hK K
     refine norm_ (a':=?_) ?_ ?_
     rotate_left
     ·show Act.put _ (some 30) _ = _
      simp only [Act.put,List.setIfInBounds_toArray,List.set_cons_zero,List.set_cons_succ,i64_w,i32_w]
      rfl
     refine one_ (i:=11) (N:=some 31) #[true,true,true,true,true,true,true,true,true,true,true,true,false] rfl rfl (one_of HT_.out (by kernel_rfl)) (by decide) (fun K hK => ?_)
     refine goes_ Try.func65 (by kernel_rfl) rfl #[.slice Ao26 y183.length co26] (by rfl) rfl rfl (by (try simp only [List.map_toArray,List.map_cons,List.map_nil]);first | done | rfl|(simp only [List.length_drop,List.length_take];rfl)) ?_
     with_reducible refine (cmp_Or_int.calls kj5 _ _ y183 t186 _ ?side1 ?side2 A20.out).mono ?_
     (case side1 => repeat (first|exact (Kd.R_reads' HO185.out).2.2|(with_reducible refine Kd.C_alloc ?_ _)|(with_reducible refine Kd.C_drewN ?_ _)|(with_reducible refine Kd.C_drew ?_)))
     (case side2 => exact (Kd.R_reads' HO185.out).2.1)
     rintro e w' ⟨rfl,⟨nd,rfl⟩⟩
     refine ⟨_,rfl,?_⟩
     refine hK.out _ _ ⟨(bCe BK175.out 0).trans rfl,(bCe BK175.out 1).trans rfl,(bCe BK176.out 0).trans rfl,(bCe BK176.out 1).trans rfl⟩ (fun hHeld => ?_)
     clear hK K
     refine norm_ (a':=?_) ?_ ?_
     rotate_left
     ·show Act.put _ (some 31) _ = _
      simp only [Act.put,List.setIfInBounds_toArray,List.set_cons_zero,List.set_cons_succ,i64_w,i32_w]
      rfl
     refine pU (i:=12) (N:=some 6) #[true,true,true,true,true,true,true,true,true,true,true,true,true] (any_of HT_.out (by kernel_rfl)) ?_
     refine done_ (done_of HT_.out (by kernel_rfl)) ?_
     have hnb27:=NB175_176.out
     have hnc27:=NB176_175.out
     obtain ⟨hcz28_0,hcz28_1,hfz28_0,hfz28_1⟩:=bC2 BK175.out
     try go_wp2_with (first|((with_reducible refine gate_callee (f:=46) rfl ?_);refine gLs 33 Try.func46 #[.agg #[.int .i64 a0_0,.int .i64 a0_1]] ?_;(with_reducible refine (impl_Word_class.calls a0_0 a0_1 t187 _ A21.out).mono ?_);rintro e w29 ⟨rfl,hb⟩;refine ⟨_,rfl,?_⟩;have n0_:=aMk (Kd.R_below (by (with_reducible repeat (first|apply Kd.R_alloc|apply Kd.R_drewN|apply Kd.R_drew));exact HO185.out) hb);have n1_:=aMk (bkB BK175.out hb);have n2_:=aMk (bkB BK176.out hb);have n3_:=aMk (below_step (by repeat (first|(with_reducible first|exact HB.out|apply bwA|apply bwN|apply bw1|refine below_set ?_ GE175.out|refine below_set ?_ GE176.out)|exact HB.out)) hb);clear HO185;clear BK175;clear BK176;clear HB;have HO185:=n0_;have BK175:=n1_;have BK176:=n2_;have HB:=n3_;clear n0_ n1_ n2_ n3_;(try clear hb);(try clear hb2);(try clear hk);(try clear hi)))
     go_ret
     exact ⟨eRf,by repeat (first|(with_reducible first|exact HB.out|apply bwA|apply bwN|apply bw1|refine below_set ?_ GE175.out|refine below_set ?_ GE176.out)|exact HB.out)⟩
    ·rw [if_neg c22] at H
     have c22b0 : (t187 == 2) = false:=beq_eq_false_iff_ne.mpr c22
     have c22b1 : (t187 != 2) = true:=bne_iff_ne.mpr c22
     obtain rfl:=Option.some.inj H
     try go_wp2
     have n0_:=aMk (bDr BK175.out)
     have n1_:=aMk (bDr BK176.out)
     have n2_:=aMk (bw1 HB.out)
     clear BK175
     clear BK176
     clear HB
     have BK175:=n0_
     have BK176:=n1_
     have HB:=n2_
     clear n0_ n1_ n2_
     refine start_ (n:=13) (S:=fun w' => w'.cell? ⟨gb175,0,none⟩ = some (.int .i64 a0_0) ∧ w'.cell? ⟨gb175,1,none⟩ = some (.int .i64 a0_1) ∧ w'.cell? ⟨gb176,0,none⟩ = some (.int .i64 a1_0) ∧ w'.cell? ⟨gb176,1,none⟩ = some (.int .i64 a1_1)) (ds:=[]) #[false,false,false,false,false,false,false,false,false,false,false,false,false] (by kernel_rfl) rfl rfl ⟨(bCe BK175.out 0).trans rfl,(bCe BK175.out 1).trans rfl,(bCe BK176.out 0).trans rfl,(bCe BK176.out 1).trans rfl⟩ (fun hHeld => ?_);refine with_tabW impl_Word_order.tab4 impl_Word_order.bits4 (fun HT_ HW_ => ?_)
     generalize wc.drew = w30 at BK175 BK176 HB hHeld ⊢
     refine pU (i:=0) (N:=some 20) #[true,false,false,false,false,false,false,false,false,false,false,false,false] (any_of HT_.out (by kernel_rfl)) ?_
     refine pU (i:=2) (N:=some 22) #[true,false,true,false,false,false,false,false,false,false,false,false,false] (any_of HT_.out (by kernel_rfl)) ?_
     refine pU (i:=5) (N:=some 25) #[true,false,true,false,false,true,false,false,false,false,false,false,false] (any_of HT_.out (by kernel_rfl)) ?_
     refine pU (i:=7) (N:=some 27) #[true,false,true,false,false,true,false,true,false,false,false,false,false] (any_of HT_.out (by kernel_rfl)) ?_
     refine tU4 (i:=1) (N:=some 21) #[true,true,true,false,false,true,false,true,false,false,false,false,false] (take_ofW HT_.out HW_.out (by kernel_rfl)) hHeld ?_
     refine tU4 (i:=3) (N:=some 23) #[true,true,true,true,false,true,false,true,false,false,false,false,false] (take_ofW HT_.out HW_.out (by kernel_rfl)) hHeld ?_
     refine tU4 (i:=6) (N:=some 26) #[true,true,true,true,false,true,true,true,false,false,false,false,false] (take_ofW HT_.out HW_.out (by kernel_rfl)) hHeld ?_
     refine tU4 (i:=8) (N:=some 28) #[true,true,true,true,false,true,true,true,true,false,false,false,false] (take_ofW HT_.out HW_.out (by kernel_rfl)) hHeld ?_
     refine one_ (i:=4) (N:=some 24) #[true,true,true,true,true,true,true,true,true,false,false,false,false] rfl rfl (one_of HT_.out (by kernel_rfl)) (by decide) (fun K hK => ?_)
     refine goes_ Try.func64 (by kernel_rfl) rfl #[.int .i64 a0_0,.int .i64 a1_0] (by rfl) rfl rfl (by (try simp only [List.map_toArray,List.map_cons,List.map_nil]);first | done | rfl|(simp only [List.length_drop,List.length_take];rfl)) ?_
     with_reducible refine (cmp_Compare_int.calls a0_0 a1_0 t181 _ A18.out).mono ?_
     rintro e w' ⟨rfl,⟨nd,rfl⟩⟩
     refine ⟨_,rfl,?_⟩
     refine hK.out _ _ ⟨(bCe BK175.out 0).trans rfl,(bCe BK175.out 1).trans rfl,(bCe BK176.out 0).trans rfl,(bCe BK176.out 1).trans rfl⟩ (fun hHeld => ?_)
     clear hK K
     refine norm_ (a':=?_) ?_ ?_
     rotate_left
     ·show Act.put _ (some 24) _ = _
      simp only [Act.put,List.setIfInBounds_toArray,List.set_cons_zero,List.set_cons_succ,i64_w,i32_w]
      rfl
     refine one_ (i:=9) (N:=some 29) #[true,true,true,true,true,true,true,true,true,true,false,false,false] rfl rfl (one_of HT_.out (by kernel_rfl)) (by decide) (fun K hK => ?_)
     refine goes_ Try.func64 (by kernel_rfl) rfl #[.int .i64 a0_1,.int .i64 a1_1] (by rfl) rfl rfl (by (try simp only [List.map_toArray,List.map_cons,List.map_nil]);first | done | rfl|(simp only [List.length_drop,List.length_take];rfl)) ?_
     with_reducible refine (cmp_Compare_int.calls a0_1 a1_1 t182 _ A19.out).mono ?_
     rintro e w' ⟨rfl,⟨nd,rfl⟩⟩
     refine ⟨_,rfl,?_⟩
     refine hK.out _ _ ⟨(bCe BK175.out 0).trans rfl,(bCe BK175.out 1).trans rfl,(bCe BK176.out 0).trans rfl,(bCe BK176.out 1).trans rfl⟩ (fun hHeld => ?_)
     clear hK K
     refine norm_ (a':=?_) ?_ ?_
     rotate_left
     ·show Act.put _ (some 29) _ = _
      simp only [Act.put,List.setIfInBounds_toArray,List.set_cons_zero,List.set_cons_succ,i64_w,i32_w]
      rfl
     refine one_ (i:=10) (N:=some 30) #[true,true,true,true,true,true,true,true,true,true,true,false,false] rfl rfl (one_of HT_.out (by kernel_rfl)) (by decide) (fun K hK => ?_)
     refine Kd.R_lit_step (Kd.int .i64) _ 3 ?hg (N:=30) ?hd (xs:=([t181,t182] : List Int)) (inner:=[.int .i64 t181,.int .i64 t182]) (ok:=fun _ => True) (okp:=fun _ => True) ?hr ?hp (fun _ hk => hk) trivial (Below.refl _ _) (Nat.le_refl _) (by simp) ?_;(case hd => rfl);(case hg => rfl);(case hr => first|(go_simp;done)|(go_simp;rfl));(case hp => exact (Reps.one (show Kd.M (Kd.int .i64) _ _ _ t181 [.int .i64 t181] from rfl) (Reps.one (show Kd.M (Kd.int .i64) _ _ _ t182 [.int .i64 t182] from rfl) (Reps.none _ _))))
     intro v184 w31 ho32 hb hg_ hnew_
     clear hg_ hnew_
     (first|rw [← Ny183.out] at ho32|(simp only [Int.reduceToNat] at ho32;rw [← Ny183.out] at ho32))
     have n0_:=aMk (Kd.R_lower ho32 (below_size (by repeat (first|(with_reducible first|exact HB.out|apply bwA|apply bwN|apply bw1|refine below_set ?_ GE175.out|refine below_set ?_ GE176.out)|exact HB.out))))
     have n1_:=aMk (bkB BK175.out hb)
     have n2_:=aMk (bkB BK176.out hb)
     have n3_:=aMk (below_step (by repeat (first|(with_reducible first|exact HB.out|apply bwA|apply bwN|apply bw1|refine below_set ?_ GE175.out|refine below_set ?_ GE176.out)|exact HB.out)) hb)
     clear BK175
     clear BK176
     clear HB
     have HO185:=n0_
     have BK175:=n1_
     have BK176:=n2_
     have HB:=n3_
     clear n0_ n1_ n2_ n3_
     clear hb ho32
     obtain ⟨Ao33,co33,eo33⟩:=Kd.R_slice HO185.out
     (first|subst eo33|(injection eo33 with f1_ f2_ f3_;have f4_:=f1_.symm;have f5_:=f3_.symm;clear f1_ f2_ f3_;subst f4_;subst f5_))
     refine hK.out _ _ ⟨(bCe BK175.out 0).trans rfl,(bCe BK175.out 1).trans rfl,(bCe BK176.out 0).trans rfl,(bCe BK176.out 1).trans rfl⟩ (fun hHeld => ?_)
     clear hK K
     refine norm_ (a':=?_) ?_ ?_
     rotate_left
     ·show Act.put _ (some 30) _ = _
      simp only [Act.put,List.setIfInBounds_toArray,List.set_cons_zero,List.set_cons_succ,i64_w,i32_w]
      rfl
     refine one_ (i:=11) (N:=some 31) #[true,true,true,true,true,true,true,true,true,true,true,true,false] rfl rfl (one_of HT_.out (by kernel_rfl)) (by decide) (fun K hK => ?_)
     refine goes_ Try.func65 (by kernel_rfl) rfl #[.slice Ao33 y183.length co33] (by rfl) rfl rfl (by (try simp only [List.map_toArray,List.map_cons,List.map_nil]);first | done | rfl|(simp only [List.length_drop,List.length_take];rfl)) ?_
     with_reducible refine (cmp_Or_int.calls kj5 _ _ y183 t186 _ ?side1 ?side2 A20.out).mono ?_
     (case side1 => repeat (first|exact (Kd.R_reads' HO185.out).2.2|(with_reducible refine Kd.C_alloc ?_ _)|(with_reducible refine Kd.C_drewN ?_ _)|(with_reducible refine Kd.C_drew ?_)))
     (case side2 => exact (Kd.R_reads' HO185.out).2.1)
     rintro e w' ⟨rfl,⟨nd,rfl⟩⟩
     refine ⟨_,rfl,?_⟩
     refine hK.out _ _ ⟨(bCe BK175.out 0).trans rfl,(bCe BK175.out 1).trans rfl,(bCe BK176.out 0).trans rfl,(bCe BK176.out 1).trans rfl⟩ (fun hHeld => ?_)
     clear hK K
     refine norm_ (a':=?_) ?_ ?_
     rotate_left
     ·show Act.put _ (some 31) _ = _
      simp only [Act.put,List.setIfInBounds_toArray,List.set_cons_zero,List.set_cons_succ,i64_w,i32_w]
      rfl
     refine pU (i:=12) (N:=some 6) #[true,true,true,true,true,true,true,true,true,true,true,true,true] (any_of HT_.out (by kernel_rfl)) ?_
     refine done_ (done_of HT_.out (by kernel_rfl)) ?_
     have hnb34:=NB175_176.out
     have hnc34:=NB176_175.out
     obtain ⟨hcz35_0,hcz35_1,hfz35_0,hfz35_1⟩:=bC2 BK175.out
     try go_wp2_with (first|((with_reducible refine gate_callee (f:=46) rfl ?_);refine gLs 33 Try.func46 #[.agg #[.int .i64 a0_0,.int .i64 a0_1]] ?_;(with_reducible refine (impl_Word_class.calls a0_0 a0_1 t187 _ A21.out).mono ?_);rintro e w36 ⟨rfl,hb⟩;refine ⟨_,rfl,?_⟩;have n0_:=aMk (Kd.R_below (by (with_reducible repeat (first|apply Kd.R_alloc|apply Kd.R_drewN|apply Kd.R_drew));exact HO185.out) hb);have n1_:=aMk (bkB BK175.out hb);have n2_:=aMk (bkB BK176.out hb);have n3_:=aMk (below_step (by repeat (first|(with_reducible first|exact HB.out|apply bwA|apply bwN|apply bw1|refine below_set ?_ GE175.out|refine below_set ?_ GE176.out)|exact HB.out)) hb);clear HO185;clear BK175;clear BK176;clear HB;have HO185:=n0_;have BK175:=n1_;have BK176:=n2_;have HB:=n3_;clear n0_ n1_ n2_ n3_;(try clear hb);(try clear hb2);(try clear hk);(try clear hi)))
     go_ret
     exact ⟨eRf,by repeat (first|(with_reducible first|exact HB.out|apply bwA|apply bwN|apply bw1|refine below_set ?_ GE175.out|refine below_set ?_ GE176.out)|exact HB.out)⟩
end
section
/-! ### impl_OrderOf: function 15 -/
def impl_OrderOf.f (k : Nat) (a0_0 : Int) (a0_1 : Int) (a1_0 : Int) (a1_1 : Int) : Option (Int × Int):=(impl_wordOK.f a0_0 a0_1).bind fun t190 => (if t190 = true then ((impl_wordOK.f a1_0 a1_1).bind fun t191 => (if t191 = true then ((impl_Word_order.f k a0_0 a0_1 a1_0 a1_1).bind fun t192 => (some (t192,0))) else (some (0,1)))) else (some (0,1)))
theorem impl_OrderOf.mono : ∀ a0 a1 a2 a3 k,LeO (impl_OrderOf.f k a0 a1 a2 a3) (impl_OrderOf.f (k + 1) a0 a1 a2 a3):=by
 intro a0 a1 a2 a3 k
 unfold impl_OrderOf.f
 repeat' first
   | (with_reducible exact impl_Word_order.mono ..)
   | (with_reducible exact LeO.refl _)
   | (with_reducible exact LeO.none _)
   | (with_reducible refine LeO.ite ?_ ?_)
   | (with_reducible refine LeO.bind ?_ (fun _ => ?_))
   | exact impl_Word_order.mono ..
   | exact LeO.none _
   | refine LeO.ite ?_ ?_
   | refine LeO.bind ?_ (fun _ => ?_)
set_option maxHeartbeats 8000000 in
set_option maxRecDepth 100000 in
theorem impl_OrderOf.calls (k : Nat) (a0_0 : Int) (a0_1 : Int) (a1_0 : Int) (a1_1 : Int) (r1 : Int) (r2 : Int) (w : World) (h : impl_OrderOf.f k a0_0 a0_1 a1_0 a1_1 = some (r1,r2)) :
  Calls Try.prog 15 #[.agg #[.int .i64 a0_0,.int .i64 a0_1],.agg #[.int .i64 a1_0,.int .i64 a1_1]] w fun e w' => e = .returned (.tuple #[.int .i64 r1,.int .i64 r2]) ∧ Below w.heap.size w w':=by
 have hu31:=Try.underlying31
 have HB:=aMk (Below.refl w.heap.size w)
 have H : ((impl_wordOK.f a0_0 a0_1).bind fun t190 => (if t190 = true then ((impl_wordOK.f a1_0 a1_1).bind fun t191 => (if t191 = true then ((impl_Word_order.f k a0_0 a0_1 a1_0 a1_1).bind fun t192 => (some (t192,0))) else (some (0,1)))) else (some (0,1)))) = some (r1,r2):=h
 clear h
 replace H:=Option.bind_eq_some_iff.mp H
 obtain ⟨t190,A30,H⟩:=H
 replace H : (if t190 = true then ((impl_wordOK.f a1_0 a1_1).bind fun t191 => (if t191 = true then ((impl_Word_order.f k a0_0 a0_1 a1_0 a1_1).bind fun t192 => (some (t192,0))) else (some (0,1)))) else (some (0,1))) = some (r1,r2):=H
 have A3:=aMk A30
 clear A30
 by_cases c4 : t190 = true
 ·subst c4
  have H1 : ((impl_wordOK.f a1_0 a1_1).bind fun t191 => (if t191 = true then ((impl_Word_order.f k a0_0 a0_1 a1_0 a1_1).bind fun t192 => (some (t192,0))) else (some (0,1)))) = some (r1,r2):=by rw [if_pos rfl] at H;exact H
  clear H
  have H:=H1
  clear H1
  replace H:=Option.bind_eq_some_iff.mp H
  obtain ⟨t191,A50,H⟩:=H
  replace H : (if t191 = true then ((impl_Word_order.f k a0_0 a0_1 a1_0 a1_1).bind fun t192 => (some (t192,0))) else (some (0,1))) = some (r1,r2):=H
  have A5:=aMk A50
  clear A50
  by_cases c6 : t191 = true
  ·subst c6
   have H1 : ((impl_Word_order.f k a0_0 a0_1 a1_0 a1_1).bind fun t192 => (some (t192,0))) = some (r1,r2):=by rw [if_pos rfl] at H;exact H
   clear H
   have H:=H1
   clear H1
   replace H:=Option.bind_eq_some_iff.mp H
   obtain ⟨t192,A70,H⟩:=H
   replace H : (some (t192,0)) = some (r1,r2):=H
   have A7:=aMk A70
   clear A70
   simp only [Option.some.injEq,Prod.mk.injEq] at H
   obtain ⟨rfl,rfl⟩:=H
   go_enter Try.func15,Try.ntmps15
   go_wp2_with (first|((with_reducible refine gate_dst (N:=2) rfl ?_);refine bxE (N:=2) (cs:=#[.int .i64 a0_0,.int .i64 a0_1]) (t:=31) ?_;intro gb188 hg w8 hbox hb;have n0_:=aMk (bSt hb);have n1_:=aMk (hbox);have n2_:=aMk ((by rw [hg];exact bSz : w.heap.size ≤ gb188));have n3_:=aMk ((by rw [hg];exact bSz : w.heap.size ≤ gb188));clear HB;have HB:=n0_;have BK188:=n1_;have GW188:=n2_;have GE188:=n3_;clear n0_ n1_ n2_ n3_;clear hb hbox hg)|((with_reducible refine gate_dst (N:=3) rfl ?_);refine bxE (N:=3) (cs:=#[.int .i64 a1_0,.int .i64 a1_1]) (t:=31) ?_;intro gb189 hg w9 hbox hb;have n0_:=aMk (bkB BK188.out hb);have n1_:=aMk (below_step (by repeat (first|(with_reducible first|exact HB.out|apply bwA|apply bwN|apply bw1|refine below_set ?_ GE188.out)|exact HB.out)) hb);have n2_:=aMk (hbox);have n3_:=aMk ((by rw [hg];exact (below_size (by repeat (first|(with_reducible first|exact HB.out|apply bwA|apply bwN|apply bw1|refine below_set ?_ GE188.out)|exact HB.out))) : w.heap.size ≤ gb189));have n4_:=aMk ((by rw [hg];exact (below_size (by repeat (first|(with_reducible first|exact HB.out|apply bwA|apply bwN|apply bw1|refine below_set ?_ GE188.out)|exact HB.out))) : w.heap.size ≤ gb189));have n5_:=aMk ((bkL BK188.out hg : gb188 ≠ gb189));have n6_:=aMk ((bkG BK188.out hg : gb189 ≠ gb188));clear BK188;clear HB;have BK188:=n0_;have HB:=n1_;have BK189:=n2_;have GW189:=n3_;have GE189:=n4_;have NB188_189:=n5_;have NB189_188:=n6_;clear n0_ n1_ n2_ n3_ n4_ n5_ n6_;clear hb hbox hg;have hnb10:=NB188_189.out;have hnc10:=NB189_188.out;obtain ⟨hcz11_0,hcz11_1,hfz11_0,hfz11_1⟩:=bC2 BK188.out)|((with_reducible refine gate_callee (f:=43) rfl ?_);refine gLs 7 Try.func43 #[.agg #[.int .i64 a0_0,.int .i64 a0_1]] ?_;(with_reducible refine (impl_wordOK.calls a0_0 a0_1 true _ A3.out).mono ?_);rintro e w12 ⟨rfl,hb⟩;refine ⟨_,rfl,?_⟩;have n0_:=aMk (bkB BK188.out hb);have n1_:=aMk (bkB BK189.out hb);have n2_:=aMk (below_step (by repeat (first|(with_reducible first|exact HB.out|apply bwA|apply bwN|apply bw1|refine below_set ?_ GE188.out|refine below_set ?_ GE189.out)|exact HB.out)) hb);clear BK188;clear BK189;clear HB;have BK188:=n0_;have BK189:=n1_;have HB:=n2_;clear n0_ n1_ n2_;(try clear hb);(try clear hb2);(try clear hk);(try clear hi);obtain ⟨hcz13_0,hcz13_1,hfz13_0,hfz13_1⟩:=bC2 BK189.out)|(go_at_call 43;(with_reducible refine (impl_wordOK.calls a1_0 a1_1 true _ A5.out).mono ?_);rintro e w14 ⟨rfl,hb⟩;have n0_:=aMk (bkB BK188.out hb);have n1_:=aMk (bkB BK189.out hb);have n2_:=aMk (below_step (by repeat (first|(with_reducible first|exact HB.out|apply bwA|apply bwN|apply bw1|refine below_set ?_ GE188.out|refine below_set ?_ GE189.out)|exact HB.out)) hb);clear BK188;clear BK189;clear HB;have BK188:=n0_;have BK189:=n1_;have HB:=n2_;clear n0_ n1_ n2_;(try clear hb);(try clear hb2);(try clear hk);(try clear hi);obtain ⟨hcz15_0,hcz15_1,hfz15_0,hfz15_1⟩:=bC2 BK188.out;obtain ⟨hcz16_0,hcz16_1,hfz16_0,hfz16_1⟩:=bC2 BK189.out)|((with_reducible refine gate_callee (f:=44) rfl ?_);refine gLs 16 Try.func44 #[.agg #[.int .i64 a0_0,.int .i64 a0_1],.agg #[.int .i64 a1_0,.int .i64 a1_1]] ?_;(with_reducible refine (impl_Word_order.calls k a0_0 a0_1 a1_0 a1_1 t192 _ A7.out).mono ?_);rintro e w17 ⟨rfl,hb⟩;refine ⟨_,rfl,?_⟩;have n0_:=aMk (bkB BK188.out hb);have n1_:=aMk (bkB BK189.out hb);have n2_:=aMk (below_step (by repeat (first|(with_reducible first|exact HB.out|apply bwA|apply bwN|apply bw1|refine below_set ?_ GE188.out|refine below_set ?_ GE189.out)|exact HB.out)) hb);clear BK188;clear BK189;clear HB;have BK188:=n0_;have BK189:=n1_;have HB:=n2_;clear n0_ n1_ n2_;(try clear hb);(try clear hb2);(try clear hk);(try clear hi)))
   go_ret2
   exact ⟨eRf,by repeat (first|(with_reducible first|exact HB.out|apply bwA|apply bwN|apply bw1|refine below_set ?_ GE188.out|refine below_set ?_ GE189.out)|exact HB.out)⟩
  ·replace c6:=Bool.eq_false_iff.mpr c6
   subst c6
   have H1 : (some (0,1)) = some (r1,r2):=by rw [if_neg (show ¬ (false = true) by decide)] at H;exact H
   clear H
   have H:=H1
   clear H1
   simp only [Option.some.injEq,Prod.mk.injEq] at H
   obtain ⟨rfl,rfl⟩:=H
   go_enter Try.func15,Try.ntmps15
   go_wp2_with (first|((with_reducible refine gate_dst (N:=2) rfl ?_);refine bxE (N:=2) (cs:=#[.int .i64 a0_0,.int .i64 a0_1]) (t:=31) ?_;intro gb188 hg w18 hbox hb;have n0_:=aMk (bSt hb);have n1_:=aMk (hbox);have n2_:=aMk ((by rw [hg];exact bSz : w.heap.size ≤ gb188));have n3_:=aMk ((by rw [hg];exact bSz : w.heap.size ≤ gb188));clear HB;have HB:=n0_;have BK188:=n1_;have GW188:=n2_;have GE188:=n3_;clear n0_ n1_ n2_ n3_;clear hb hbox hg)|((with_reducible refine gate_dst (N:=3) rfl ?_);refine bxE (N:=3) (cs:=#[.int .i64 a1_0,.int .i64 a1_1]) (t:=31) ?_;intro gb189 hg w19 hbox hb;have n0_:=aMk (bkB BK188.out hb);have n1_:=aMk (below_step (by repeat (first|(with_reducible first|exact HB.out|apply bwA|apply bwN|apply bw1|refine below_set ?_ GE188.out)|exact HB.out)) hb);have n2_:=aMk (hbox);have n3_:=aMk ((by rw [hg];exact (below_size (by repeat (first|(with_reducible first|exact HB.out|apply bwA|apply bwN|apply bw1|refine below_set ?_ GE188.out)|exact HB.out))) : w.heap.size ≤ gb189));have n4_:=aMk ((by rw [hg];exact (below_size (by repeat (first|(with_reducible first|exact HB.out|apply bwA|apply bwN|apply bw1|refine below_set ?_ GE188.out)|exact HB.out))) : w.heap.size ≤ gb189));have n5_:=aMk ((bkL BK188.out hg : gb188 ≠ gb189));have n6_:=aMk ((bkG BK188.out hg : gb189 ≠ gb188));clear BK188;clear HB;have BK188:=n0_;have HB:=n1_;have BK189:=n2_;have GW189:=n3_;have GE189:=n4_;have NB188_189:=n5_;have NB189_188:=n6_;clear n0_ n1_ n2_ n3_ n4_ n5_ n6_;clear hb hbox hg;have hnb20:=NB188_189.out;have hnc20:=NB189_188.out;obtain ⟨hcz21_0,hcz21_1,hfz21_0,hfz21_1⟩:=bC2 BK188.out)|((with_reducible refine gate_callee (f:=43) rfl ?_);refine gLs 7 Try.func43 #[.agg #[.int .i64 a0_0,.int .i64 a0_1]] ?_;(with_reducible refine (impl_wordOK.calls a0_0 a0_1 true _ A3.out).mono ?_);rintro e w22 ⟨rfl,hb⟩;refine ⟨_,rfl,?_⟩;have n0_:=aMk (bkB BK188.out hb);have n1_:=aMk (bkB BK189.out hb);have n2_:=aMk (below_step (by repeat (first|(with_reducible first|exact HB.out|apply bwA|apply bwN|apply bw1|refine below_set ?_ GE188.out|refine below_set ?_ GE189.out)|exact HB.out)) hb);clear BK188;clear BK189;clear HB;have BK188:=n0_;have BK189:=n1_;have HB:=n2_;clear n0_ n1_ n2_;(try clear hb);(try clear hb2);(try clear hk);(try clear hi);obtain ⟨hcz23_0,hcz23_1,hfz23_0,hfz23_1⟩:=bC2 BK189.out)|(go_at_call 43;(with_reducible refine (impl_wordOK.calls a1_0 a1_1 false _ A5.out).mono ?_);rintro e w24 ⟨rfl,hb⟩;have n0_:=aMk (bkB BK188.out hb);have n1_:=aMk (bkB BK189.out hb);have n2_:=aMk (below_step (by repeat (first|(with_reducible first|exact HB.out|apply bwA|apply bwN|apply bw1|refine below_set ?_ GE188.out|refine below_set ?_ GE189.out)|exact HB.out)) hb);clear BK188;clear BK189;clear HB;have BK188:=n0_;have BK189:=n1_;have HB:=n2_;clear n0_ n1_ n2_;(try clear hb);(try clear hb2);(try clear hk);(try clear hi)))
   go_ret2
   exact ⟨eRf,by repeat (first|(with_reducible first|exact HB.out|apply bwA|apply bwN|apply bw1|refine below_set ?_ GE188.out|refine below_set ?_ GE189.out)|exact HB.out)⟩
 ·replace c4:=Bool.eq_false_iff.mpr c4
  subst c4
  have H1 : (some (0,1)) = some (r1,r2):=by rw [if_neg (show ¬ (false = true) by decide)] at H;exact H
  clear H
  have H:=H1
  clear H1
  simp only [Option.some.injEq,Prod.mk.injEq] at H
  obtain ⟨rfl,rfl⟩:=H
  go_enter Try.func15,Try.ntmps15
  go_wp2_with (first|((with_reducible refine gate_dst (N:=2) rfl ?_);refine bxE (N:=2) (cs:=#[.int .i64 a0_0,.int .i64 a0_1]) (t:=31) ?_;intro gb188 hg w25 hbox hb;have n0_:=aMk (bSt hb);have n1_:=aMk (hbox);have n2_:=aMk ((by rw [hg];exact bSz : w.heap.size ≤ gb188));have n3_:=aMk ((by rw [hg];exact bSz : w.heap.size ≤ gb188));clear HB;have HB:=n0_;have BK188:=n1_;have GW188:=n2_;have GE188:=n3_;clear n0_ n1_ n2_ n3_;clear hb hbox hg)|((with_reducible refine gate_dst (N:=3) rfl ?_);refine bxE (N:=3) (cs:=#[.int .i64 a1_0,.int .i64 a1_1]) (t:=31) ?_;intro gb189 hg w26 hbox hb;have n0_:=aMk (bkB BK188.out hb);have n1_:=aMk (below_step (by repeat (first|(with_reducible first|exact HB.out|apply bwA|apply bwN|apply bw1|refine below_set ?_ GE188.out)|exact HB.out)) hb);have n2_:=aMk (hbox);have n3_:=aMk ((by rw [hg];exact (below_size (by repeat (first|(with_reducible first|exact HB.out|apply bwA|apply bwN|apply bw1|refine below_set ?_ GE188.out)|exact HB.out))) : w.heap.size ≤ gb189));have n4_:=aMk ((by rw [hg];exact (below_size (by repeat (first|(with_reducible first|exact HB.out|apply bwA|apply bwN|apply bw1|refine below_set ?_ GE188.out)|exact HB.out))) : w.heap.size ≤ gb189));have n5_:=aMk ((bkL BK188.out hg : gb188 ≠ gb189));have n6_:=aMk ((bkG BK188.out hg : gb189 ≠ gb188));clear BK188;clear HB;have BK188:=n0_;have HB:=n1_;have BK189:=n2_;have GW189:=n3_;have GE189:=n4_;have NB188_189:=n5_;have NB189_188:=n6_;clear n0_ n1_ n2_ n3_ n4_ n5_ n6_;clear hb hbox hg;have hnb27:=NB188_189.out;have hnc27:=NB189_188.out;obtain ⟨hcz28_0,hcz28_1,hfz28_0,hfz28_1⟩:=bC2 BK188.out)|((with_reducible refine gate_callee (f:=43) rfl ?_);refine gLs 7 Try.func43 #[.agg #[.int .i64 a0_0,.int .i64 a0_1]] ?_;(with_reducible refine (impl_wordOK.calls a0_0 a0_1 false _ A3.out).mono ?_);rintro e w29 ⟨rfl,hb⟩;refine ⟨_,rfl,?_⟩;have n0_:=aMk (bkB BK188.out hb);have n1_:=aMk (bkB BK189.out hb);have n2_:=aMk (below_step (by repeat (first|(with_reducible first|exact HB.out|apply bwA|apply bwN|apply bw1|refine below_set ?_ GE188.out|refine below_set ?_ GE189.out)|exact HB.out)) hb);clear BK188;clear BK189;clear HB;have BK188:=n0_;have BK189:=n1_;have HB:=n2_;clear n0_ n1_ n2_;(try clear hb);(try clear hb2);(try clear hk);(try clear hi)))
  go_ret2
  exact ⟨eRf,by repeat (first|(with_reducible first|exact HB.out|apply bwA|apply bwN|apply bw1|refine below_set ?_ GE188.out|refine below_set ?_ GE189.out)|exact HB.out)⟩
end
section
/-! ### spec_l01In: function 57 -/
def spec_l01In.f (a0 : Int) (a1 : Int) (a2 : Int) : Option (Bool):=if a1 ≤ a0 then (some (decide (a0 ≤ a2))) else (some false)
set_option maxHeartbeats 8000000 in
set_option maxRecDepth 100000 in
theorem spec_l01In.calls (a0 : Int) (a1 : Int) (a2 : Int) (r : Bool) (w : World) (h : spec_l01In.f a0 a1 a2 = some r) :
  Calls Try.prog 57 #[.int .i64 a0,.int .i64 a1,.int .i64 a2] w fun e w' => e = .returned (.bool r) ∧ Drawn0 w w':=by
 have H : (if a1 ≤ a0 then (some (decide (a0 ≤ a2))) else (some false)) = some r:=h
 clear h
 by_cases c4 : a1 ≤ a0
 ·rw [if_pos c4] at H
  have c4b0 : decide (a1 ≤ a0) = true:=decide_eq_true c4
  clear c4
  obtain rfl:=Option.some.inj H
  go_enter Try.func57,Try.ntmps57
  go_wp2
  go_ret
  exact ⟨by first | rfl|(simp;done)|(simp [*];done)|(simp [ne_nil_b];done)|(simp [ne_nil_b, *];done),by repeat (first|exact Drawn0.refl _|apply Drawn0.step)⟩
 ·rw [if_neg c4] at H
  have c4b0 : decide (a1 ≤ a0) = false:=decide_eq_false c4
  clear c4
  obtain rfl:=Option.some.inj H
  go_enter Try.func57,Try.ntmps57
  go_wp2
  go_ret
  exact ⟨by first | rfl|(simp;done)|(simp [*];done)|(simp [ne_nil_b];done)|(simp [ne_nil_b, *];done),by repeat (first|exact Drawn0.refl _|apply Drawn0.step)⟩
end
section
/-! ### spec_l01Ip: function 60 -/
def spec_l01Ip.f (a0 : Int) : Option (Bool):=(spec_l01In.f a0 0 4294967295).bind fun t132 => (some t132)
set_option maxHeartbeats 8000000 in
set_option maxRecDepth 100000 in
theorem spec_l01Ip.calls (a0 : Int) (r : Bool) (w : World) (h : spec_l01Ip.f a0 = some r) :
  Calls Try.prog 60 #[.int .i64 a0] w fun e w' => e = .returned (.bool r) ∧ Drawn0 w w':=by
 have H : ((spec_l01In.f a0 0 4294967295).bind fun t132 => (some t132)) = some r:=h
 clear h
 replace H:=Option.bind_eq_some_iff.mp H
 obtain ⟨t132,A20,H⟩:=H
 replace H : (some t132) = some r:=H
 have A2:=aMk A20
 clear A20
 obtain rfl:=Option.some.inj H
 go_enter Try.func60,Try.ntmps60
 go_wp2_with (first|((with_reducible refine gate_callee (f:=57) rfl ?_);refine gLs 4 Try.func57 #[.int .i64 a0,.int .i64 0,.int .i64 4294967295] ?_;(with_reducible refine (spec_l01In.calls a0 0 4294967295 t132 _ A2.out).mono ?_);rintro e w' ⟨rfl,⟨nd,rfl⟩⟩;refine ⟨_,rfl,?_⟩))
 go_ret
 exact ⟨by first | rfl|(simp;done)|(simp [*];done)|(simp [ne_nil_b];done)|(simp [ne_nil_b, *];done),by repeat (first|exact Drawn0.refl _|apply Drawn0.step)⟩
end
section
/-! ### spec_l06Word: function 41 -/
def spec_l06Word.f (a0_0 : Int) (a0_1 : Int) : Option (Bool):=(spec_l01Ip.f a0_0).bind fun t134 => (if t134 = true then ((spec_l01Ip.f a0_1).bind fun t135 => (some t135)) else (some false))
set_option maxHeartbeats 8000000 in
set_option maxRecDepth 100000 in
theorem spec_l06Word.calls (a0_0 : Int) (a0_1 : Int) (r : Bool) (w : World) (h : spec_l06Word.f a0_0 a0_1 = some r) :
  Calls Try.prog 41 #[.agg #[.int .i64 a0_0,.int .i64 a0_1]] w fun e w' => e = .returned (.bool r) ∧ Below w.heap.size w w':=by
 have hu31:=Try.underlying31
 have HB:=aMk (Below.refl w.heap.size w)
 have H : ((spec_l01Ip.f a0_0).bind fun t134 => (if t134 = true then ((spec_l01Ip.f a0_1).bind fun t135 => (some t135)) else (some false))) = some r:=h
 clear h
 replace H:=Option.bind_eq_some_iff.mp H
 obtain ⟨t134,A20,H⟩:=H
 replace H : (if t134 = true then ((spec_l01Ip.f a0_1).bind fun t135 => (some t135)) else (some false)) = some r:=H
 have A2:=aMk A20
 clear A20
 by_cases c3 : t134 = true
 ·subst c3
  have H1 : ((spec_l01Ip.f a0_1).bind fun t135 => (some t135)) = some r:=by rw [if_pos rfl] at H;exact H
  clear H
  have H:=H1
  clear H1
  replace H:=Option.bind_eq_some_iff.mp H
  obtain ⟨t135,A40,H⟩:=H
  replace H : (some t135) = some r:=H
  have A4:=aMk A40
  clear A40
  obtain rfl:=Option.some.inj H
  go_enter Try.func41,Try.ntmps41
  go_wp2_with (first|((with_reducible refine gate_dst (N:=1) rfl ?_);refine bxE (N:=1) (cs:=#[.int .i64 a0_0,.int .i64 a0_1]) (t:=31) ?_;intro gb133 hg w5 hbox hb;have n0_:=aMk (bSt hb);have n1_:=aMk (hbox);have n2_:=aMk ((by rw [hg];exact bSz : w.heap.size ≤ gb133));have n3_:=aMk ((by rw [hg];exact bSz : w.heap.size ≤ gb133));clear HB;have HB:=n0_;have BK133:=n1_;have GW133:=n2_;have GE133:=n3_;clear n0_ n1_ n2_ n3_;clear hb hbox hg;obtain ⟨hcz6_0,hcz6_1,hfz6_0,hfz6_1⟩:=bC2 BK133.out)|((with_reducible refine gate_callee (f:=60) rfl ?_);refine gLs 5 Try.func60 #[.int .i64 a0_0] ?_;(with_reducible refine (spec_l01Ip.calls a0_0 true _ A2.out).mono ?_);rintro e w' ⟨rfl,⟨nd,rfl⟩⟩;refine ⟨_,rfl,?_⟩)|(go_at_call 60;(with_reducible refine (spec_l01Ip.calls a0_1 t135 _ A4.out).mono ?_);rintro e w' ⟨rfl,⟨nd,rfl⟩⟩))
  go_ret
  exact ⟨eRf,by repeat (first|(with_reducible first|exact HB.out|apply bwA|apply bwN|apply bw1|refine below_set ?_ GE133.out)|exact HB.out)⟩
 ·replace c3:=Bool.eq_false_iff.mpr c3
  subst c3
  have H1 : (some false) = some r:=by rw [if_neg (show ¬ (false = true) by decide)] at H;exact H
  clear H
  have H:=H1
  clear H1
  obtain rfl:=Option.some.inj H
  go_enter Try.func41,Try.ntmps41
  go_wp2_with (first|((with_reducible refine gate_dst (N:=1) rfl ?_);refine bxE (N:=1) (cs:=#[.int .i64 a0_0,.int .i64 a0_1]) (t:=31) ?_;intro gb133 hg w7 hbox hb;have n0_:=aMk (bSt hb);have n1_:=aMk (hbox);have n2_:=aMk ((by rw [hg];exact bSz : w.heap.size ≤ gb133));have n3_:=aMk ((by rw [hg];exact bSz : w.heap.size ≤ gb133));clear HB;have HB:=n0_;have BK133:=n1_;have GW133:=n2_;have GE133:=n3_;clear n0_ n1_ n2_ n3_;clear hb hbox hg;obtain ⟨hcz8_0,hcz8_1,hfz8_0,hfz8_1⟩:=bC2 BK133.out)|((with_reducible refine gate_callee (f:=60) rfl ?_);refine gLs 5 Try.func60 #[.int .i64 a0_0] ?_;(with_reducible refine (spec_l01Ip.calls a0_0 false _ A2.out).mono ?_);rintro e w' ⟨rfl,⟨nd,rfl⟩⟩;refine ⟨_,rfl,?_⟩))
  go_ret
  exact ⟨eRf,by repeat (first|(with_reducible first|exact HB.out|apply bwA|apply bwN|apply bw1|refine below_set ?_ GE133.out)|exact HB.out)⟩
end
section
/-! ### spec_l06Size: function 62 -/
def spec_l06Size.f (a0_0 : Int) (a0_1 : Int) : Option (Int × Int):=some (Go.bits .and .i64 a0_0 2147483647,a0_1)
set_option maxHeartbeats 8000000 in
set_option maxRecDepth 100000 in
theorem spec_l06Size.calls (a0_0 : Int) (a0_1 : Int) (r1 : Int) (r2 : Int) (w : World) (h : spec_l06Size.f a0_0 a0_1 = some (r1,r2)) :
  Calls Try.prog 62 #[.agg #[.int .i64 a0_0,.int .i64 a0_1]] w fun e w' => e = .returned (.agg #[.int .i64 r1,.int .i64 r2]) ∧ Below w.heap.size w w':=by
 have hu31:=Try.underlying31
 have HB:=aMk (Below.refl w.heap.size w)
 have H : (some (Go.bits .and .i64 a0_0 2147483647,a0_1)) = some (r1,r2):=h
 clear h
 simp only [Option.some.injEq,Prod.mk.injEq] at H
 obtain ⟨rfl,rfl⟩:=H
 go_enter Try.func62,Try.ntmps62
 go_wp2_with (first|((with_reducible refine gate_dst (N:=1) rfl ?_);refine bxE (N:=1) (cs:=#[.int .i64 a0_0,.int .i64 a0_1]) (t:=31) ?_;intro gb136 hg w2 hbox hb;have n0_:=aMk (bSt hb);have n1_:=aMk (hbox);have n2_:=aMk ((by rw [hg];exact bSz : w.heap.size ≤ gb136));have n3_:=aMk ((by rw [hg];exact bSz : w.heap.size ≤ gb136));clear HB;have HB:=n0_;have BK136:=n1_;have GW136:=n2_;have GE136:=n3_;clear n0_ n1_ n2_ n3_;clear hb hbox hg)|((with_reducible refine gate_dst (N:=2) rfl ?_);refine bxE (N:=2) (cs:=#[.int .i64 0,.int .i64 0]) (t:=31) ?_;intro gb137 hg w3 hbox hb;have n0_:=aMk (bkB BK136.out hb);have n1_:=aMk (below_step (by repeat (first|(with_reducible first|exact HB.out|apply bwA|apply bwN|apply bw1|refine below_set ?_ GE136.out)|exact HB.out)) hb);have n2_:=aMk (hbox);have n3_:=aMk ((by rw [hg];exact (below_size (by repeat (first|(with_reducible first|exact HB.out|apply bwA|apply bwN|apply bw1|refine below_set ?_ GE136.out)|exact HB.out))) : w.heap.size ≤ gb137));have n4_:=aMk ((by rw [hg];exact (below_size (by repeat (first|(with_reducible first|exact HB.out|apply bwA|apply bwN|apply bw1|refine below_set ?_ GE136.out)|exact HB.out))) : w.heap.size ≤ gb137));have n5_:=aMk ((bkL BK136.out hg : gb136 ≠ gb137));have n6_:=aMk ((bkG BK136.out hg : gb137 ≠ gb136));clear BK136;clear HB;have BK136:=n0_;have HB:=n1_;have BK137:=n2_;have GW137:=n3_;have GE137:=n4_;have NB136_137:=n5_;have NB137_136:=n6_;clear n0_ n1_ n2_ n3_ n4_ n5_ n6_;clear hb hbox hg;have hnb4:=NB136_137.out;have hnc4:=NB137_136.out;obtain ⟨hcz5_0,hcz5_1,hfz5_0,hfz5_1⟩:=bC2 BK136.out;obtain ⟨hcz6_0,hcz6_1,hfz6_0,hfz6_1⟩:=bC2 BK137.out))
 refine bodyPost_ret (results_cell_row rfl _ _ gb137 31 #[.int .i64 (Go.bits .and .i64 a0_0 2147483647),.int .i64 a0_1] (0,0) _ rfl (by refine pB ?_;refine blk_put (cs:=#[.int .i64 (Go.bits .and .i64 a0_0 2147483647),.int .i64 0]) ?_ 1 _ rfl;refine pB ?_;refine blk_put (cs:=#[.int .i64 0,.int .i64 0]) ?_ 0 _ rfl;refine pB ?_;exact BK137.out) Try.underlying31 rfl (by kernel_rfl)) rfl ?_
 exact ⟨eRf,by repeat (first|(with_reducible first|exact HB.out|apply bwA|apply bwN|apply bw1|refine below_set ?_ GE136.out|refine below_set ?_ GE137.out)|exact HB.out)⟩
end
section
/-! ### spec_l06Minus: function 63 -/
def spec_l06Minus.f (a0_0 : Int) (a0_1 : Int) : Option (Bool):=some ((a0_0 / 2147483648) == 1)
set_option maxHeartbeats 8000000 in
set_option maxRecDepth 100000 in
theorem spec_l06Minus.calls (a0_0 : Int) (a0_1 : Int) (r : Bool) (w : World) (h : spec_l06Minus.f a0_0 a0_1 = some r) :
  Calls Try.prog 63 #[.agg #[.int .i64 a0_0,.int .i64 a0_1]] w fun e w' => e = .returned (.bool r) ∧ Below w.heap.size w w':=by
 have hu31:=Try.underlying31
 have HB:=aMk (Below.refl w.heap.size w)
 have H : (some ((a0_0 / 2147483648) == 1)) = some r:=h
 clear h
 obtain rfl:=Option.some.inj H
 go_enter Try.func63,Try.ntmps63
 go_wp2_with (first|((with_reducible refine gate_dst (N:=1) rfl ?_);refine bxE (N:=1) (cs:=#[.int .i64 a0_0,.int .i64 a0_1]) (t:=31) ?_;intro gb138 hg w2 hbox hb;have n0_:=aMk (bSt hb);have n1_:=aMk (hbox);have n2_:=aMk ((by rw [hg];exact bSz : w.heap.size ≤ gb138));have n3_:=aMk ((by rw [hg];exact bSz : w.heap.size ≤ gb138));clear HB;have HB:=n0_;have BK138:=n1_;have GW138:=n2_;have GE138:=n3_;clear n0_ n1_ n2_ n3_;clear hb hbox hg;obtain ⟨hcz3_0,hcz3_1,hfz3_0,hfz3_1⟩:=bC2 BK138.out))
 go_ret
 exact ⟨eRf,by repeat (first|(with_reducible first|exact HB.out|apply bwA|apply bwN|apply bw1|refine below_set ?_ GE138.out)|exact HB.out)⟩
end
section
attribute [local go_sem high] eqA31
/-! ### spec_l06Class: function 45 -/
mutual
def spec_l06Class.j0 : Nat → Bool → Bool → Int → Int → Option (Int)
 | 0,_,_,_,_ => none
 | k + 1,x4,x9,x143000,x143001 => if x9 = true then (some 0) else (if x143000 = 2146435072 then (spec_l06Class.j1 k x4 x4 x143000 x143001) else (spec_l06Class.j1 k x4 false x143000 x143001))
def spec_l06Class.j1 : Nat → Bool → Bool → Int → Int → Option (Int)
 | 0,_,_,_,_ => none
 | k + 1,x4,x23,x143000,x143001 => if x23 = true then (some 1) else (if x143000 = 2146435072 then (some 6) else (if (x143000 == 0 && (x143001 == 0)) = true then (spec_l06Class.j2 k x4 x4 x143000 x143001) else (spec_l06Class.j2 k x4 false x143000 x143001)))
def spec_l06Class.j2 : Nat → Bool → Bool → Int → Int → Option (Int)
 | 0,_,_,_,_ => none
 | k + 1,x4,x34,x143000,x143001 => if x34 = true then (some 3) else (if (x143000 == 0 && (x143001 == 0)) = true then (some 4) else (if x4 = true then (some 2) else (some 5)))
end
def spec_l06Class.f (k : Nat) (a0_0 : Int) (a0_1 : Int) : Option (Int):=(spec_l06Size.f a0_0 a0_1).bind fun bt140 => ((spec_l06Minus.f a0_0 a0_1).bind fun t143 => (if bt140.1 > 2146435072 then (spec_l06Class.j0 k t143 true bt140.1 bt140.2) else (if bt140.1 = 2146435072 then (spec_l06Class.j0 k t143 (decide (bt140.2 > 0)) bt140.1 bt140.2) else (spec_l06Class.j0 k t143 false bt140.1 bt140.2))))
theorem spec_l06Class.mono_l : ∀ k,(∀ y0 y1 y2 y3,LeO (spec_l06Class.j0 k y0 y1 y2 y3) (spec_l06Class.j0 (k + 1) y0 y1 y2 y3)) ∧ (∀ y0 y1 y2 y3,LeO (spec_l06Class.j1 k y0 y1 y2 y3) (spec_l06Class.j1 (k + 1) y0 y1 y2 y3)) ∧ (∀ y0 y1 y2 y3,LeO (spec_l06Class.j2 k y0 y1 y2 y3) (spec_l06Class.j2 (k + 1) y0 y1 y2 y3))
 | 0 => ⟨fun _ _ _ _ r h => by simp [spec_l06Class.j0] at h,fun _ _ _ _ r h => by simp [spec_l06Class.j1] at h,fun _ _ _ _ r h => by simp [spec_l06Class.j2] at h⟩
 | k + 1 => by
  obtain ⟨ih0,ih1,ih2⟩:=spec_l06Class.mono_l k
  refine ⟨?_,?_,?_⟩
  ·intro y0 y1 y2 y3
   unfold spec_l06Class.j0
   repeat' first
   | (with_reducible exact ih0 _ _ _ _)
   | (with_reducible exact ih1 _ _ _ _)
   | (with_reducible exact ih2 _ _ _ _)
   | (with_reducible exact LeO.refl _)
   | (with_reducible exact LeO.none _)
   | (with_reducible refine LeO.ite ?_ ?_)
   | (with_reducible refine LeO.bind ?_ (fun _ => ?_))
   | exact ih0 _ _ _ _
   | exact ih1 _ _ _ _
   | exact ih2 _ _ _ _
   | exact LeO.none _
   | refine LeO.ite ?_ ?_
   | refine LeO.bind ?_ (fun _ => ?_)
  ·intro y0 y1 y2 y3
   unfold spec_l06Class.j1
   repeat' first
   | (with_reducible exact ih0 _ _ _ _)
   | (with_reducible exact ih1 _ _ _ _)
   | (with_reducible exact ih2 _ _ _ _)
   | (with_reducible exact LeO.refl _)
   | (with_reducible exact LeO.none _)
   | (with_reducible refine LeO.ite ?_ ?_)
   | (with_reducible refine LeO.bind ?_ (fun _ => ?_))
   | exact ih0 _ _ _ _
   | exact ih1 _ _ _ _
   | exact ih2 _ _ _ _
   | exact LeO.none _
   | refine LeO.ite ?_ ?_
   | refine LeO.bind ?_ (fun _ => ?_)
  ·intro y0 y1 y2 y3
   unfold spec_l06Class.j2
   repeat' first
   | (with_reducible exact ih0 _ _ _ _)
   | (with_reducible exact ih1 _ _ _ _)
   | (with_reducible exact ih2 _ _ _ _)
   | (with_reducible exact LeO.refl _)
   | (with_reducible exact LeO.none _)
   | (with_reducible refine LeO.ite ?_ ?_)
   | (with_reducible refine LeO.bind ?_ (fun _ => ?_))
   | exact ih0 _ _ _ _
   | exact ih1 _ _ _ _
   | exact ih2 _ _ _ _
   | exact LeO.none _
   | refine LeO.ite ?_ ?_
   | refine LeO.bind ?_ (fun _ => ?_)
theorem spec_l06Class.mono : ∀ a0 a1 k,LeO (spec_l06Class.f k a0 a1) (spec_l06Class.f (k + 1) a0 a1):=by
 intro a0 a1 k
 obtain ⟨ih0,ih1,ih2⟩:=spec_l06Class.mono_l k
 unfold spec_l06Class.f
 repeat' first
   | (with_reducible exact ih0 _ _ _ _)
   | (with_reducible exact ih1 _ _ _ _)
   | (with_reducible exact ih2 _ _ _ _)
   | (with_reducible exact LeO.refl _)
   | (with_reducible exact LeO.none _)
   | (with_reducible refine LeO.ite ?_ ?_)
   | (with_reducible refine LeO.bind ?_ (fun _ => ?_))
   | exact ih0 _ _ _ _
   | exact ih1 _ _ _ _
   | exact ih2 _ _ _ _
   | exact LeO.none _
   | refine LeO.ite ?_ ?_
   | refine LeO.bind ?_ (fun _ => ?_)
set_option maxHeartbeats 8000000 in
set_option maxRecDepth 100000 in
theorem spec_l06Class.calls (k : Nat) (a0_0 : Int) (a0_1 : Int) (r : Int) (w : World) (h : spec_l06Class.f k a0_0 a0_1 = some r) :
  Calls Try.prog 45 #[.agg #[.int .i64 a0_0,.int .i64 a0_1]] w fun e w' => e = .returned (.int .i64 r) ∧ Below w.heap.size w w':=by
 have hu31:=Try.underlying31
 have HB:=aMk (Below.refl w.heap.size w)
 have H : ((spec_l06Size.f a0_0 a0_1).bind fun bt140 => ((spec_l06Minus.f a0_0 a0_1).bind fun t143 => (if bt140.1 > 2146435072 then (spec_l06Class.j0 k t143 true bt140.1 bt140.2) else (if bt140.1 = 2146435072 then (spec_l06Class.j0 k t143 (decide (bt140.2 > 0)) bt140.1 bt140.2) else (spec_l06Class.j0 k t143 false bt140.1 bt140.2))))) = some r:=h
 clear h
 replace H:=Option.bind_eq_some_iff.mp H
 obtain ⟨⟨t140,t141⟩,A20,H⟩:=H
 replace H : ((spec_l06Minus.f a0_0 a0_1).bind fun t143 => (if t140 > 2146435072 then (spec_l06Class.j0 k t143 true t140 t141) else (if t140 = 2146435072 then (spec_l06Class.j0 k t143 (decide (t141 > 0)) t140 t141) else (spec_l06Class.j0 k t143 false t140 t141)))) = some r:=H
 have A2:=aMk A20
 clear A20
 replace H:=Option.bind_eq_some_iff.mp H
 obtain ⟨t143,A30,H⟩:=H
 replace H : (if t140 > 2146435072 then (spec_l06Class.j0 k t143 true t140 t141) else (if t140 = 2146435072 then (spec_l06Class.j0 k t143 (decide (t141 > 0)) t140 t141) else (spec_l06Class.j0 k t143 false t140 t141))) = some r:=H
 have A3:=aMk A30
 clear A30
 have HC4:=aMk H
 clear H
 go_enter Try.func45,Try.ntmps45
 go_upto_region 3 with (first|((with_reducible refine gate_dst (N:=1) rfl ?_);refine bxE (N:=1) (cs:=#[.int .i64 a0_0,.int .i64 a0_1]) (t:=31) ?_;intro gb139 hg w5 hbox hb;have n0_:=aMk (bSt hb);have n1_:=aMk (hbox);have n2_:=aMk ((by rw [hg];exact bSz : w.heap.size ≤ gb139));have n3_:=aMk ((by rw [hg];exact bSz : w.heap.size ≤ gb139));clear HB;have HB:=n0_;have BK139:=n1_;have GW139:=n2_;have GE139:=n3_;clear n0_ n1_ n2_ n3_;clear hb hbox hg;obtain ⟨hcz6_0,hcz6_1,hfz6_0,hfz6_1⟩:=bC2 BK139.out)|((with_reducible refine gate_callee (f:=62) rfl ?_);refine gLs 6 Try.func62 #[.agg #[.int .i64 a0_0,.int .i64 a0_1]] ?_;(with_reducible refine (spec_l06Size.calls a0_0 a0_1 t140 t141 _ A2.out).mono ?_);rintro e w7 ⟨rfl,hb⟩;refine ⟨_,rfl,?_⟩;have n0_:=aMk (bkB BK139.out hb);have n1_:=aMk (below_step (by repeat (first|(with_reducible first|exact HB.out|apply bwA|apply bwN|apply bw1|refine below_set ?_ GE139.out)|exact HB.out)) hb);clear BK139;clear HB;have BK139:=n0_;have HB:=n1_;clear n0_ n1_;(try clear hb);(try clear hb2);(try clear hk);(try clear hi))|((with_reducible refine gate_dst (N:=3) rfl ?_);refine bxE (N:=3) (cs:=#[.int .i64 0,.int .i64 0]) (t:=31) ?_;intro gb142 hg w8 hbox hb;have n0_:=aMk (bkB BK139.out hb);have n1_:=aMk (below_step (by repeat (first|(with_reducible first|exact HB.out|apply bwA|apply bwN|apply bw1|refine below_set ?_ GE139.out)|exact HB.out)) hb);have n2_:=aMk (hbox);have n3_:=aMk ((by rw [hg];exact (below_size (by repeat (first|(with_reducible first|exact HB.out|apply bwA|apply bwN|apply bw1|refine below_set ?_ GE139.out)|exact HB.out))) : w.heap.size ≤ gb142));have n4_:=aMk ((by rw [hg];exact (below_size (by repeat (first|(with_reducible first|exact HB.out|apply bwA|apply bwN|apply bw1|refine below_set ?_ GE139.out)|exact HB.out))) : w.heap.size ≤ gb142));have n5_:=aMk ((bkL BK139.out hg : gb139 ≠ gb142));have n6_:=aMk ((bkG BK139.out hg : gb142 ≠ gb139));clear BK139;clear HB;have BK139:=n0_;have HB:=n1_;have BK142:=n2_;have GW142:=n3_;have GE142:=n4_;have NB139_142:=n5_;have NB142_139:=n6_;clear n0_ n1_ n2_ n3_ n4_ n5_ n6_;clear hb hbox hg;have hnb9:=NB142_139.out;have hnc9:=NB139_142.out;obtain ⟨hcz10_0,hcz10_1,hfz10_0,hfz10_1⟩:=bC2 BK142.out;obtain ⟨hcz11_0,hcz11_1,hfz11_0,hfz11_1⟩:=bC2 BK139.out)|((with_reducible refine gate_callee (f:=63) rfl ?_);refine gLs 8 Try.func63 #[.agg #[.int .i64 a0_0,.int .i64 a0_1]] ?_;(with_reducible refine (spec_l06Minus.calls a0_0 a0_1 t143 _ A3.out).mono ?_);rintro e w12 ⟨rfl,hb⟩;refine ⟨_,rfl,?_⟩;have n0_:=aMk (blk_below (g:=gb139) (o:=.cells #[.int .i64 a0_0,.int .i64 a0_1] 31 (0,0)) (by refine pB ?_;refine blk_far ?_ NB139_142.out _;refine pB ?_;refine blk_far ?_ NB139_142.out _;refine pB ?_;exact BK139.out) hb);have n1_:=aMk (blk_below (g:=gb142) (o:=.cells #[.int .i64 t140,.int .i64 t141] 31 (0,0)) (by refine pB ?_;refine blk_put (cs:=#[.int .i64 t140,.int .i64 0]) ?_ 1 _ rfl;refine pB ?_;refine blk_put (cs:=#[.int .i64 0,.int .i64 0]) ?_ 0 _ rfl;refine pB ?_;exact BK142.out) hb);have n2_:=aMk (below_step (by repeat (first|(with_reducible first|exact HB.out|apply bwA|apply bwN|apply bw1|refine below_set ?_ GE139.out|refine below_set ?_ GE142.out)|exact HB.out)) hb);clear BK139;clear BK142;clear HB;have BK139:=n0_;have BK142:=n1_;have HB:=n2_;clear n0_ n1_ n2_;(try clear hb);(try clear hb2);(try clear hk);(try clear hi)))
 (try simp only [Act.put,List.setIfInBounds_toArray,List.set_cons_zero,List.set_cons_succ])
 go_cut [9] (fun v9 wc => ∃ (kq : Nat) (x9_3 : Bool),v9 = .bool x9_3 ∧ Aside0 (spec_l06Class.j0 kq t143 x9_3 t140 t141 = some r) ∧ Aside0 (kq ≤ k) ∧ Aside0 (wc.heap[gb139]? = some (.cells #[.int .i64 a0_0,.int .i64 a0_1] 31 (0,0))) ∧ Aside0 (wc.heap[gb142]? = some (.cells #[.int .i64 t140,.int .i64 t141] 31 (0,0))) ∧ Aside0 (Below w.heap.size w wc))
 case first =>
  have H:=HC4.out
  clear HC4
  by_cases c13 : t140 > 2146435072
  ·rw [if_pos c13] at H
   have c13b0 : decide (2146435072 < t140) = true:=decide_eq_true c13
   clear c13
   (first|rw [c13b0]|(simp only [i64_w,i32_w];rw [c13b0]) | skip)
   have H':=aMk H
   clear H
   have hnb14:=NB142_139.out
   have hnc14:=NB139_142.out
   obtain ⟨hcz15_0,hcz15_1,hfz15_0,hfz15_1⟩:=bC2 BK142.out
   go_wp2
   go_meet
   case rel => exact ⟨_,(true),(by first | rfl|(simp;done)|(simp [*];done)|(simp [ne_nil_b];done)|(simp [ne_nil_b, *];done)),H',⟨by first | omega|exact Nat.le_refl _⟩,⟨by refine pB ?_;exact BK139.out⟩,⟨by refine pB ?_;exact BK142.out⟩,⟨by repeat (first|(with_reducible first|exact HB.out|apply bwA|apply bwN|apply bw1|refine below_set ?_ GE139.out|refine below_set ?_ GE142.out)|exact HB.out)⟩⟩
  ·rw [if_neg c13] at H
   have c13b0 : decide (2146435072 < t140) = false:=decide_eq_false c13
   clear c13
   (first|rw [c13b0]|(simp only [i64_w,i32_w];rw [c13b0]) | skip)
   by_cases c16 : t140 = 2146435072
   ·rw [if_pos c16] at H
    have c16b0 : (t140 == 2146435072) = true:=beq_iff_eq.mpr c16
    have c16b1 : (t140 != 2146435072) = false:=bne_eq_false_iff_eq.mpr c16
    clear c16
    have H':=aMk H
    clear H
    have hnb17:=NB142_139.out
    have hnc17:=NB139_142.out
    obtain ⟨hcz18_0,hcz18_1,hfz18_0,hfz18_1⟩:=bC2 BK142.out
    go_wp2
    go_meet
    case rel => exact ⟨_,(decide (t141 > 0)),(by first | rfl|(simp;done)|(simp [*];done)|(simp [ne_nil_b];done)|(simp [ne_nil_b, *];done)),H',⟨by first | omega|exact Nat.le_refl _⟩,⟨by refine pB ?_;exact BK139.out⟩,⟨by refine pB ?_;exact BK142.out⟩,⟨by repeat (first|(with_reducible first|exact HB.out|apply bwA|apply bwN|apply bw1|refine below_set ?_ GE139.out|refine below_set ?_ GE142.out)|exact HB.out)⟩⟩
   ·rw [if_neg c16] at H
    have c16b0 : (t140 == 2146435072) = false:=beq_eq_false_iff_ne.mpr c16
    have c16b1 : (t140 != 2146435072) = true:=bne_iff_ne.mpr c16
    have H':=aMk H
    clear H
    have hnb19:=NB142_139.out
    have hnc19:=NB139_142.out
    obtain ⟨hcz20_0,hcz20_1,hfz20_0,hfz20_1⟩:=bC2 BK142.out
    go_wp2
    go_meet
    case rel => exact ⟨_,(false),(by first | rfl|(simp;done)|(simp [*];done)|(simp [ne_nil_b];done)|(simp [ne_nil_b, *];done)),H',⟨by first | omega|exact Nat.le_refl _⟩,⟨by refine pB ?_;exact BK139.out⟩,⟨by refine pB ?_;exact BK142.out⟩,⟨by repeat (first|(with_reducible first|exact HB.out|apply bwA|apply bwN|apply bw1|refine below_set ?_ GE139.out|refine below_set ?_ GE142.out)|exact HB.out)⟩⟩
 case rest =>
  clear HC4
  try clear c1
  try clear p2
  try clear c4
  try clear c6
  try clear c9
  try clear c13
  try clear c13b0
  try clear c14
  try clear c16
  try clear c16b0
  try clear c16b1
  try clear c17
  try clear c19
  try clear hcz10_0
  try clear hcz10_1
  try clear hcz11_0
  try clear hcz11_1
  try clear hcz15_0
  try clear hcz15_1
  try clear hcz18_0
  try clear hcz18_1
  try clear hcz20_0
  try clear hcz20_1
  try clear hcz6_0
  try clear hcz6_1
  try clear hfz10_0
  try clear hfz10_1
  try clear hfz11_0
  try clear hfz11_1
  try clear hfz15_0
  try clear hfz15_1
  try clear hfz18_0
  try clear hfz18_1
  try clear hfz20_0
  try clear hfz20_1
  try clear hfz6_0
  try clear hfz6_1
  obtain ⟨kq,x9_3,rfl,HA,HJ3,BK139,BK142,HB⟩:=hcut
  cases kq with
  | zero => exact absurd HA.out (by simp [spec_l06Class.j0])
  | succ kj3 =>
   have H:=HA.out
   clear HA
   simp only [spec_l06Class.j0] at H
   by_cases c21 : x9_3 = true
   ·subst c21
    have H1 : (some 0) = some r:=by rw [if_pos rfl] at H;exact H
    clear H
    have H:=H1
    clear H1
    obtain rfl:=Option.some.inj H
    go_wp2
    go_ret
    exact ⟨eRf,by repeat (first|(with_reducible first|exact HB.out|apply bwA|apply bwN|apply bw1|refine below_set ?_ GE139.out|refine below_set ?_ GE142.out)|exact HB.out)⟩
   ·replace c21:=Bool.eq_false_iff.mpr c21
    subst c21
    have H1 : (if t140 = 2146435072 then (spec_l06Class.j1 kj3 t143 t143 t140 t141) else (spec_l06Class.j1 kj3 t143 false t140 t141)) = some r:=by rw [if_neg (show ¬ (false = true) by decide)] at H;exact H
    clear H
    have H:=H1
    clear H1
    have HC22:=aMk H
    clear H
    go_upto_region 5 with (fail)
    go_cut [23] (fun v23 wc => ∃ (kq : Nat) (x23_21 : Bool),v23 = .bool x23_21 ∧ Aside0 (spec_l06Class.j1 kq t143 x23_21 t140 t141 = some r) ∧ Aside0 (kq ≤ kj3) ∧ Aside0 (wc.heap[gb139]? = some (.cells #[.int .i64 a0_0,.int .i64 a0_1] 31 (0,0))) ∧ Aside0 (wc.heap[gb142]? = some (.cells #[.int .i64 t140,.int .i64 t141] 31 (0,0))) ∧ Aside0 (Below w.heap.size w wc))
    case first =>
     have H:=HC22.out
     clear HC22
     by_cases c23 : t140 = 2146435072
     ·rw [if_pos c23] at H
      have c23b0 : (t140 == 2146435072) = true:=beq_iff_eq.mpr c23
      have c23b1 : (t140 != 2146435072) = false:=bne_eq_false_iff_eq.mpr c23
      clear c23
      (first|rw [c23b0]|(simp only [i64_w,i32_w];rw [c23b0]) | skip)
      have H':=aMk H
      clear H
      have hnb24:=NB142_139.out
      have hnc24:=NB139_142.out
      obtain ⟨hcz25_0,hcz25_1,hfz25_0,hfz25_1⟩:=bC2 BK142.out
      go_wp2
      go_meet
      case rel => exact ⟨_,(t143),(by first | rfl|(simp;done)|(simp [*];done)|(simp [ne_nil_b];done)|(simp [ne_nil_b, *];done)),H',⟨by have:=HJ3.out;first | omega|exact Nat.le_refl _⟩,⟨by refine pB ?_;exact BK139.out⟩,⟨by refine pB ?_;exact BK142.out⟩,⟨by repeat (first|(with_reducible first|exact HB.out|apply bwA|apply bwN|apply bw1|refine below_set ?_ GE139.out|refine below_set ?_ GE142.out)|exact HB.out)⟩⟩
     ·rw [if_neg c23] at H
      have c23b0 : (t140 == 2146435072) = false:=beq_eq_false_iff_ne.mpr c23
      have c23b1 : (t140 != 2146435072) = true:=bne_iff_ne.mpr c23
      (first|rw [c23b0]|(simp only [i64_w,i32_w];rw [c23b0]) | skip)
      have H':=aMk H
      clear H
      have hnb26:=NB142_139.out
      have hnc26:=NB139_142.out
      obtain ⟨hcz27_0,hcz27_1,hfz27_0,hfz27_1⟩:=bC2 BK142.out
      go_wp2
      go_meet
      case rel => exact ⟨_,(false),(by first | rfl|(simp;done)|(simp [*];done)|(simp [ne_nil_b];done)|(simp [ne_nil_b, *];done)),H',⟨by have:=HJ3.out;first | omega|exact Nat.le_refl _⟩,⟨by refine pB ?_;exact BK139.out⟩,⟨by refine pB ?_;exact BK142.out⟩,⟨by repeat (first|(with_reducible first|exact HB.out|apply bwA|apply bwN|apply bw1|refine below_set ?_ GE139.out|refine below_set ?_ GE142.out)|exact HB.out)⟩⟩
    case rest =>
     clear HC22
     try clear c1
     try clear c2
     try clear p2
     try clear c4
     try clear c6
     try clear c9
     try clear c13
     try clear c13b0
     try clear c14
     try clear c16
     try clear c16b0
     try clear c16b1
     try clear c17
     try clear c19
     try clear c21
     try clear c23
     try clear c23b0
     try clear c23b1
     try clear c24
     try clear c26
     try clear hcz10_0
     try clear hcz10_1
     try clear hcz11_0
     try clear hcz11_1
     try clear hcz15_0
     try clear hcz15_1
     try clear hcz18_0
     try clear hcz18_1
     try clear hcz20_0
     try clear hcz20_1
     try clear hcz25_0
     try clear hcz25_1
     try clear hcz27_0
     try clear hcz27_1
     try clear hcz6_0
     try clear hcz6_1
     try clear hfz10_0
     try clear hfz10_1
     try clear hfz11_0
     try clear hfz11_1
     try clear hfz15_0
     try clear hfz15_1
     try clear hfz18_0
     try clear hfz18_1
     try clear hfz20_0
     try clear hfz20_1
     try clear hfz25_0
     try clear hfz25_1
     try clear hfz27_0
     try clear hfz27_1
     try clear hfz6_0
     try clear hfz6_1
     try clear p2
     obtain ⟨kq,x23_21,rfl,HA,HJ21,BK139,BK142,HB⟩:=hcut
     cases kq with
     | zero => exact absurd HA.out (by simp [spec_l06Class.j1])
     | succ kj21 =>
      have H:=HA.out
      clear HA
      simp only [spec_l06Class.j1] at H
      by_cases c28 : x23_21 = true
      ·subst c28
       have H1 : (some 1) = some r:=by rw [if_pos rfl] at H;exact H
       clear H
       have H:=H1
       clear H1
       obtain rfl:=Option.some.inj H
       go_wp2
       go_ret
       exact ⟨eRf,by repeat (first|(with_reducible first|exact HB.out|apply bwA|apply bwN|apply bw1|refine below_set ?_ GE139.out|refine below_set ?_ GE142.out)|exact HB.out)⟩
      ·replace c28:=Bool.eq_false_iff.mpr c28
       subst c28
       have H1 : (if t140 = 2146435072 then (some 6) else (if (t140 == 0 && (t141 == 0)) = true then (spec_l06Class.j2 kj21 t143 t143 t140 t141) else (spec_l06Class.j2 kj21 t143 false t140 t141))) = some r:=by rw [if_neg (show ¬ (false = true) by decide)] at H;exact H
       clear H
       have H:=H1
       clear H1
       by_cases c29 : t140 = 2146435072
       ·rw [if_pos c29] at H
        have c29b0 : (t140 == 2146435072) = true:=beq_iff_eq.mpr c29
        have c29b1 : (t140 != 2146435072) = false:=bne_eq_false_iff_eq.mpr c29
        clear c29
        obtain rfl:=Option.some.inj H
        have hnb30:=NB142_139.out
        have hnc30:=NB139_142.out
        obtain ⟨hcz31_0,hcz31_1,hfz31_0,hfz31_1⟩:=bC2 BK142.out
        go_wp2
        go_ret
        exact ⟨eRf,by repeat (first|(with_reducible first|exact HB.out|apply bwA|apply bwN|apply bw1|refine below_set ?_ GE139.out|refine below_set ?_ GE142.out)|exact HB.out)⟩
       ·rw [if_neg c29] at H
        have c29b0 : (t140 == 2146435072) = false:=beq_eq_false_iff_ne.mpr c29
        have c29b1 : (t140 != 2146435072) = true:=bne_iff_ne.mpr c29
        have HC32:=aMk H
        clear H
        have hnb33:=NB142_139.out
        have hnc33:=NB139_142.out
        obtain ⟨hcz34_0,hcz34_1,hfz34_0,hfz34_1⟩:=bC2 BK142.out
        go_upto_region 9 with (fail)
        go_cut [34] (fun v34 wc => ∃ (kq : Nat) (x34_31 : Bool),v34 = .bool x34_31 ∧ Aside0 (spec_l06Class.j2 kq t143 x34_31 t140 t141 = some r) ∧ Aside0 (kq ≤ kj21) ∧ Aside0 (wc.heap[gb139]? = some (.cells #[.int .i64 a0_0,.int .i64 a0_1] 31 (0,0))) ∧ Aside0 (wc.heap[gb142]? = some (.cells #[.int .i64 t140,.int .i64 t141] 31 (0,0))) ∧ Aside0 (Below w.heap.size w wc))
        case first =>
         have H:=HC32.out
         clear HC32
         by_cases c35 : (t140 == 0 && (t141 == 0)) = true
         ·rw [if_pos c35] at H
          have c35b0 : (t140 == 0 && (t141 == 0)) = true:=c35
          (try (have c35b1 : decide (t140 = 0 && (t141 == 0)) = true:=by simpa using c35))
          (try (have c35b2 : (t140 == 0 && (t141 == 0)) = true:=by simpa using c35))
          clear c35
          (first|rw [c35b0]|(simp only [i64_w,i32_w];rw [c35b0]) | skip)
          have H':=aMk H
          clear H
          have hnb36:=NB142_139.out
          have hnc36:=NB139_142.out
          obtain ⟨hcz37_0,hcz37_1,hfz37_0,hfz37_1⟩:=bC2 BK142.out
          go_wp2
          go_meet
          case rel => exact ⟨_,(t143),(by first | rfl|(simp;done)|(simp [*];done)|(simp [ne_nil_b];done)|(simp [ne_nil_b, *];done)),H',⟨by have:=HJ3.out;have:=HJ21.out;first | omega|exact Nat.le_refl _⟩,⟨by refine pB ?_;exact BK139.out⟩,⟨by refine pB ?_;exact BK142.out⟩,⟨by repeat (first|(with_reducible first|exact HB.out|apply bwA|apply bwN|apply bw1|refine below_set ?_ GE139.out|refine below_set ?_ GE142.out)|exact HB.out)⟩⟩
         ·rw [if_neg c35] at H
          have c35b0 : (t140 == 0 && (t141 == 0)) = false:=by simpa using c35
          (try (have c35b1 : decide (t140 = 0 && (t141 == 0)) = false:=by simpa using c35))
          (try (have c35b2 : (t140 == 0 && (t141 == 0)) = false:=by simpa using c35))
          (try (have c35b3 : ¬ (t140 = 0 && (t141 == 0)):=by simpa using c35))
          clear c35
          (first|rw [c35b0]|(simp only [i64_w,i32_w];rw [c35b0]) | skip)
          have H':=aMk H
          clear H
          have hnb38:=NB142_139.out
          have hnc38:=NB139_142.out
          obtain ⟨hcz39_0,hcz39_1,hfz39_0,hfz39_1⟩:=bC2 BK142.out
          go_wp2
          go_meet
          case rel => exact ⟨_,(false),(by first | rfl|(simp;done)|(simp [*];done)|(simp [ne_nil_b];done)|(simp [ne_nil_b, *];done)),H',⟨by have:=HJ3.out;have:=HJ21.out;first | omega|exact Nat.le_refl _⟩,⟨by refine pB ?_;exact BK139.out⟩,⟨by refine pB ?_;exact BK142.out⟩,⟨by repeat (first|(with_reducible first|exact HB.out|apply bwA|apply bwN|apply bw1|refine below_set ?_ GE139.out|refine below_set ?_ GE142.out)|exact HB.out)⟩⟩
        case rest =>
         clear HC32
         try clear c1
         try clear c2
         try clear p2
         try clear c3
         try clear c4
         try clear c6
         try clear c9
         try clear c13
         try clear c13b0
         try clear c14
         try clear c16
         try clear c16b0
         try clear c16b1
         try clear c17
         try clear c19
         try clear c21
         try clear c23
         try clear c23b0
         try clear c23b1
         try clear c24
         try clear c26
         try clear c28
         try clear c29
         try clear c29b0
         try clear c29b1
         try clear c30
         try clear c33
         try clear c35
         try clear c35b0
         try clear c35b1
         try clear c35b2
         try clear c36
         try clear c38
         try clear hcz10_0
         try clear hcz10_1
         try clear hcz11_0
         try clear hcz11_1
         try clear hcz15_0
         try clear hcz15_1
         try clear hcz18_0
         try clear hcz18_1
         try clear hcz20_0
         try clear hcz20_1
         try clear hcz25_0
         try clear hcz25_1
         try clear hcz27_0
         try clear hcz27_1
         try clear hcz31_0
         try clear hcz31_1
         try clear hcz34_0
         try clear hcz34_1
         try clear hcz37_0
         try clear hcz37_1
         try clear hcz39_0
         try clear hcz39_1
         try clear hcz6_0
         try clear hcz6_1
         try clear hfz10_0
         try clear hfz10_1
         try clear hfz11_0
         try clear hfz11_1
         try clear hfz15_0
         try clear hfz15_1
         try clear hfz18_0
         try clear hfz18_1
         try clear hfz20_0
         try clear hfz20_1
         try clear hfz25_0
         try clear hfz25_1
         try clear hfz27_0
         try clear hfz27_1
         try clear hfz31_0
         try clear hfz31_1
         try clear hfz34_0
         try clear hfz34_1
         try clear hfz37_0
         try clear hfz37_1
         try clear hfz39_0
         try clear hfz39_1
         try clear hfz6_0
         try clear hfz6_1
         try clear p2
         obtain ⟨kq,x34_31,rfl,HA,HJ31,BK139,BK142,HB⟩:=hcut
         cases kq with
         | zero => exact absurd HA.out (by simp [spec_l06Class.j2])
         | succ kj31 =>
          have H:=HA.out
          clear HA
          simp only [spec_l06Class.j2] at H
          by_cases c40 : x34_31 = true
          ·subst c40
           have H1 : (some 3) = some r:=by rw [if_pos rfl] at H;exact H
           clear H
           have H:=H1
           clear H1
           obtain rfl:=Option.some.inj H
           go_wp2
           go_ret
           exact ⟨eRf,by repeat (first|(with_reducible first|exact HB.out|apply bwA|apply bwN|apply bw1|refine below_set ?_ GE139.out|refine below_set ?_ GE142.out)|exact HB.out)⟩
          ·replace c40:=Bool.eq_false_iff.mpr c40
           subst c40
           have H1 : (if (t140 == 0 && (t141 == 0)) = true then (some 4) else (if t143 = true then (some 2) else (some 5))) = some r:=by rw [if_neg (show ¬ (false = true) by decide)] at H;exact H
           clear H
           have H:=H1
           clear H1
           by_cases c41 : (t140 == 0 && (t141 == 0)) = true
           ·rw [if_pos c41] at H
            have c41b0 : (t140 == 0 && (t141 == 0)) = true:=c41
            (try (have c41b1 : decide (t140 = 0 && (t141 == 0)) = true:=by simpa using c41))
            (try (have c41b2 : (t140 == 0 && (t141 == 0)) = true:=by simpa using c41))
            clear c41
            obtain rfl:=Option.some.inj H
            have hnb42:=NB142_139.out
            have hnc42:=NB139_142.out
            obtain ⟨hcz43_0,hcz43_1,hfz43_0,hfz43_1⟩:=bC2 BK142.out
            go_wp2
            go_ret
            exact ⟨eRf,by repeat (first|(with_reducible first|exact HB.out|apply bwA|apply bwN|apply bw1|refine below_set ?_ GE139.out|refine below_set ?_ GE142.out)|exact HB.out)⟩
           ·rw [if_neg c41] at H
            have c41b0 : (t140 == 0 && (t141 == 0)) = false:=by simpa using c41
            (try (have c41b1 : decide (t140 = 0 && (t141 == 0)) = false:=by simpa using c41))
            (try (have c41b2 : (t140 == 0 && (t141 == 0)) = false:=by simpa using c41))
            (try (have c41b3 : ¬ (t140 = 0 && (t141 == 0)):=by simpa using c41))
            clear c41
            by_cases c44 : t143 = true
            ·subst c44
             have H1 : (some 2) = some r:=by rw [if_pos rfl] at H;exact H
             clear H
             have H:=H1
             clear H1
             obtain rfl:=Option.some.inj H
             have hnb45:=NB142_139.out
             have hnc45:=NB139_142.out
             obtain ⟨hcz46_0,hcz46_1,hfz46_0,hfz46_1⟩:=bC2 BK142.out
             go_wp2
             go_ret
             exact ⟨eRf,by repeat (first|(with_reducible first|exact HB.out|apply bwA|apply bwN|apply bw1|refine below_set ?_ GE139.out|refine below_set ?_ GE142.out)|exact HB.out)⟩
            ·replace c44:=Bool.eq_false_iff.mpr c44
             subst c44
             have H1 : (some 5) = some r:=by rw [if_neg (show ¬ (false = true) by decide)] at H;exact H
             clear H
             have H:=H1
             clear H1
             obtain rfl:=Option.some.inj H
             have hnb47:=NB142_139.out
             have hnc47:=NB139_142.out
             obtain ⟨hcz48_0,hcz48_1,hfz48_0,hfz48_1⟩:=bC2 BK142.out
             go_wp2
             go_ret
             exact ⟨eRf,by repeat (first|(with_reducible first|exact HB.out|apply bwA|apply bwN|apply bw1|refine below_set ?_ GE139.out|refine below_set ?_ GE142.out)|exact HB.out)⟩
end
section
/-! ### spec_l01Bit: function 61 -/
def spec_l01Bit.f (a0 : Bool) : Option (Int):=if a0 = true then (some 1) else (some 0)
set_option maxHeartbeats 8000000 in
set_option maxRecDepth 100000 in
theorem spec_l01Bit.calls (a0 : Bool) (r : Int) (w : World) (h : spec_l01Bit.f a0 = some r) :
  Calls Try.prog 61 #[.bool a0] w fun e w' => e = .returned (.int .i64 r) ∧ Drawn0 w w':=by
 have H : (if a0 = true then (some 1) else (some 0)) = some r:=h
 clear h
 by_cases c2 : a0 = true
 ·subst c2
  have H1 : (some 1) = some r:=by rw [if_pos rfl] at H;exact H
  clear H
  have H:=H1
  clear H1
  obtain rfl:=Option.some.inj H
  go_enter Try.func61,Try.ntmps61
  go_wp2
  go_ret
  exact ⟨by first | rfl|(simp;done)|(simp [*];done)|(simp [ne_nil_b];done)|(simp [ne_nil_b, *];done),by repeat (first|exact Drawn0.refl _|apply Drawn0.step)⟩
 ·replace c2:=Bool.eq_false_iff.mpr c2
  subst c2
  have H1 : (some 0) = some r:=by rw [if_neg (show ¬ (false = true) by decide)] at H;exact H
  clear H
  have H:=H1
  clear H1
  obtain rfl:=Option.some.inj H
  go_enter Try.func61,Try.ntmps61
  go_wp2
  go_ret
  exact ⟨by first | rfl|(simp;done)|(simp [*];done)|(simp [ne_nil_b];done)|(simp [ne_nil_b, *];done),by repeat (first|exact Drawn0.refl _|apply Drawn0.step)⟩
end
section
attribute [local go_sem high] eqA31
/-! ### spec_l06Order: function 42 -/
def spec_l06Order.f (k : Nat) (a0_0 : Int) (a0_1 : Int) (a1_0 : Int) (a1_1 : Int) : Option (Int):=(spec_l06Class.f k a0_0 a0_1).bind fun t146 => ((spec_l06Class.f k a1_0 a1_1).bind fun t147 => (if t146 = t147 then (if t146 = 0 then (some 0) else ((spec_l06Size.f a0_0 a0_1).bind fun bt149 => ((spec_l06Size.f a1_0 a1_1).bind fun bt152 => (if (bt149.1 == bt152.1 && (bt149.2 == bt152.2)) = true then (some 0) else (if bt149.1 > bt152.1 then ((spec_l06Minus.f a0_0 a0_1).bind fun t155 => ((spec_l01Bit.f (!t155)).bind fun t156 => (some (wrap64 ((wrap64 (2 * t156)) - 1))))) else (if bt149.1 = bt152.1 then ((spec_l06Minus.f a0_0 a0_1).bind fun t157 => ((spec_l01Bit.f ((decide (bt149.2 > bt152.2)) != t157)).bind fun t158 => (some (wrap64 ((wrap64 (2 * t158)) - 1))))) else ((spec_l06Minus.f a0_0 a0_1).bind fun t159 => ((spec_l01Bit.f t159).bind fun t160 => (some (wrap64 ((wrap64 (2 * t160)) - 1))))))))))) else ((spec_l01Bit.f (decide (t146 > t147))).bind fun t148 => (some (wrap64 ((wrap64 (2 * t148)) - 1))))))
theorem spec_l06Order.mono : ∀ a0 a1 a2 a3 k,LeO (spec_l06Order.f k a0 a1 a2 a3) (spec_l06Order.f (k + 1) a0 a1 a2 a3):=by
 intro a0 a1 a2 a3 k
 unfold spec_l06Order.f
 repeat' first
   | (with_reducible exact spec_l06Class.mono ..)
   | (with_reducible exact LeO.refl _)
   | (with_reducible exact LeO.none _)
   | (with_reducible refine LeO.ite ?_ ?_)
   | (with_reducible refine LeO.bind ?_ (fun _ => ?_))
   | exact spec_l06Class.mono ..
   | exact LeO.none _
   | refine LeO.ite ?_ ?_
   | refine LeO.bind ?_ (fun _ => ?_)
set_option maxHeartbeats 8000000 in
set_option maxRecDepth 100000 in
theorem spec_l06Order.calls (k : Nat) (a0_0 : Int) (a0_1 : Int) (a1_0 : Int) (a1_1 : Int) (r : Int) (w : World) (h : spec_l06Order.f k a0_0 a0_1 a1_0 a1_1 = some r) :
  Calls Try.prog 42 #[.agg #[.int .i64 a0_0,.int .i64 a0_1],.agg #[.int .i64 a1_0,.int .i64 a1_1]] w fun e w' => e = .returned (.int .i64 r) ∧ Below w.heap.size w w':=by
 have hu31:=Try.underlying31
 have HB:=aMk (Below.refl w.heap.size w)
 have H : ((spec_l06Class.f k a0_0 a0_1).bind fun t146 => ((spec_l06Class.f k a1_0 a1_1).bind fun t147 => (if t146 = t147 then (if t146 = 0 then (some 0) else ((spec_l06Size.f a0_0 a0_1).bind fun bt149 => ((spec_l06Size.f a1_0 a1_1).bind fun bt152 => (if (bt149.1 == bt152.1 && (bt149.2 == bt152.2)) = true then (some 0) else (if bt149.1 > bt152.1 then ((spec_l06Minus.f a0_0 a0_1).bind fun t155 => ((spec_l01Bit.f (!t155)).bind fun t156 => (some (wrap64 ((wrap64 (2 * t156)) - 1))))) else (if bt149.1 = bt152.1 then ((spec_l06Minus.f a0_0 a0_1).bind fun t157 => ((spec_l01Bit.f ((decide (bt149.2 > bt152.2)) != t157)).bind fun t158 => (some (wrap64 ((wrap64 (2 * t158)) - 1))))) else ((spec_l06Minus.f a0_0 a0_1).bind fun t159 => ((spec_l01Bit.f t159).bind fun t160 => (some (wrap64 ((wrap64 (2 * t160)) - 1))))))))))) else ((spec_l01Bit.f (decide (t146 > t147))).bind fun t148 => (some (wrap64 ((wrap64 (2 * t148)) - 1))))))) = some r:=h
 clear h
 replace H:=Option.bind_eq_some_iff.mp H
 obtain ⟨t146,A30,H⟩:=H
 replace H : ((spec_l06Class.f k a1_0 a1_1).bind fun t147 => (if t146 = t147 then (if t146 = 0 then (some 0) else ((spec_l06Size.f a0_0 a0_1).bind fun bt149 => ((spec_l06Size.f a1_0 a1_1).bind fun bt152 => (if (bt149.1 == bt152.1 && (bt149.2 == bt152.2)) = true then (some 0) else (if bt149.1 > bt152.1 then ((spec_l06Minus.f a0_0 a0_1).bind fun t155 => ((spec_l01Bit.f (!t155)).bind fun t156 => (some (wrap64 ((wrap64 (2 * t156)) - 1))))) else (if bt149.1 = bt152.1 then ((spec_l06Minus.f a0_0 a0_1).bind fun t157 => ((spec_l01Bit.f ((decide (bt149.2 > bt152.2)) != t157)).bind fun t158 => (some (wrap64 ((wrap64 (2 * t158)) - 1))))) else ((spec_l06Minus.f a0_0 a0_1).bind fun t159 => ((spec_l01Bit.f t159).bind fun t160 => (some (wrap64 ((wrap64 (2 * t160)) - 1))))))))))) else ((spec_l01Bit.f (decide (t146 > t147))).bind fun t148 => (some (wrap64 ((wrap64 (2 * t148)) - 1)))))) = some r:=H
 have A3:=aMk A30
 clear A30
 replace H:=Option.bind_eq_some_iff.mp H
 obtain ⟨t147,A40,H⟩:=H
 replace H : (if t146 = t147 then (if t146 = 0 then (some 0) else ((spec_l06Size.f a0_0 a0_1).bind fun bt149 => ((spec_l06Size.f a1_0 a1_1).bind fun bt152 => (if (bt149.1 == bt152.1 && (bt149.2 == bt152.2)) = true then (some 0) else (if bt149.1 > bt152.1 then ((spec_l06Minus.f a0_0 a0_1).bind fun t155 => ((spec_l01Bit.f (!t155)).bind fun t156 => (some (wrap64 ((wrap64 (2 * t156)) - 1))))) else (if bt149.1 = bt152.1 then ((spec_l06Minus.f a0_0 a0_1).bind fun t157 => ((spec_l01Bit.f ((decide (bt149.2 > bt152.2)) != t157)).bind fun t158 => (some (wrap64 ((wrap64 (2 * t158)) - 1))))) else ((spec_l06Minus.f a0_0 a0_1).bind fun t159 => ((spec_l01Bit.f t159).bind fun t160 => (some (wrap64 ((wrap64 (2 * t160)) - 1))))))))))) else ((spec_l01Bit.f (decide (t146 > t147))).bind fun t148 => (some (wrap64 ((wrap64 (2 * t148)) - 1))))) = some r:=H
 have A4:=aMk A40
 clear A40
 by_cases c5 : t146 = t147
 ·rw [if_pos c5] at H
  have c5b0 : (t146 == t147) = true:=beq_iff_eq.mpr c5
  have c5b1 : (t146 != t147) = false:=bne_eq_false_iff_eq.mpr c5
  clear c5
  by_cases c6 : t146 = 0
  ·rw [if_pos c6] at H
   have c6b0 : (t146 == 0) = true:=beq_iff_eq.mpr c6
   have c6b1 : (t146 != 0) = false:=bne_eq_false_iff_eq.mpr c6
   clear c6
   obtain rfl:=Option.some.inj H
   go_enter Try.func42,Try.ntmps42
   go_wp2_with (first|((with_reducible refine gate_dst (N:=2) rfl ?_);refine bxE (N:=2) (cs:=#[.int .i64 a0_0,.int .i64 a0_1]) (t:=31) ?_;intro gb144 hg w7 hbox hb;have n0_:=aMk (bSt hb);have n1_:=aMk (hbox);have n2_:=aMk ((by rw [hg];exact bSz : w.heap.size ≤ gb144));have n3_:=aMk ((by rw [hg];exact bSz : w.heap.size ≤ gb144));clear HB;have HB:=n0_;have BK144:=n1_;have GW144:=n2_;have GE144:=n3_;clear n0_ n1_ n2_ n3_;clear hb hbox hg)|((with_reducible refine gate_dst (N:=3) rfl ?_);refine bxE (N:=3) (cs:=#[.int .i64 a1_0,.int .i64 a1_1]) (t:=31) ?_;intro gb145 hg w8 hbox hb;have n0_:=aMk (bkB BK144.out hb);have n1_:=aMk (below_step (by repeat (first|(with_reducible first|exact HB.out|apply bwA|apply bwN|apply bw1|refine below_set ?_ GE144.out)|exact HB.out)) hb);have n2_:=aMk (hbox);have n3_:=aMk ((by rw [hg];exact (below_size (by repeat (first|(with_reducible first|exact HB.out|apply bwA|apply bwN|apply bw1|refine below_set ?_ GE144.out)|exact HB.out))) : w.heap.size ≤ gb145));have n4_:=aMk ((by rw [hg];exact (below_size (by repeat (first|(with_reducible first|exact HB.out|apply bwA|apply bwN|apply bw1|refine below_set ?_ GE144.out)|exact HB.out))) : w.heap.size ≤ gb145));have n5_:=aMk ((bkL BK144.out hg : gb144 ≠ gb145));have n6_:=aMk ((bkG BK144.out hg : gb145 ≠ gb144));clear BK144;clear HB;have BK144:=n0_;have HB:=n1_;have BK145:=n2_;have GW145:=n3_;have GE145:=n4_;have NB144_145:=n5_;have NB145_144:=n6_;clear n0_ n1_ n2_ n3_ n4_ n5_ n6_;clear hb hbox hg;have hnb9:=NB144_145.out;have hnc9:=NB145_144.out;obtain ⟨hcz10_0,hcz10_1,hfz10_0,hfz10_1⟩:=bC2 BK144.out)|((with_reducible refine gate_callee (f:=45) rfl ?_);refine gLs 11 Try.func45 #[.agg #[.int .i64 a0_0,.int .i64 a0_1]] ?_;(with_reducible refine (spec_l06Class.calls k a0_0 a0_1 t146 _ A3.out).mono ?_);rintro e w11 ⟨rfl,hb⟩;refine ⟨_,rfl,?_⟩;have n0_:=aMk (bkB BK144.out hb);have n1_:=aMk (bkB BK145.out hb);have n2_:=aMk (below_step (by repeat (first|(with_reducible first|exact HB.out|apply bwA|apply bwN|apply bw1|refine below_set ?_ GE144.out|refine below_set ?_ GE145.out)|exact HB.out)) hb);clear BK144;clear BK145;clear HB;have BK144:=n0_;have BK145:=n1_;have HB:=n2_;clear n0_ n1_ n2_;(try clear hb);(try clear hb2);(try clear hk);(try clear hi);obtain ⟨hcz12_0,hcz12_1,hfz12_0,hfz12_1⟩:=bC2 BK145.out)|((with_reducible refine gate_callee (f:=45) rfl ?_);refine gLs 13 Try.func45 #[.agg #[.int .i64 a1_0,.int .i64 a1_1]] ?_;(with_reducible refine (spec_l06Class.calls k a1_0 a1_1 t147 _ A4.out).mono ?_);rintro e w13 ⟨rfl,hb⟩;refine ⟨_,rfl,?_⟩;have n0_:=aMk (bkB BK144.out hb);have n1_:=aMk (bkB BK145.out hb);have n2_:=aMk (below_step (by repeat (first|(with_reducible first|exact HB.out|apply bwA|apply bwN|apply bw1|refine below_set ?_ GE144.out|refine below_set ?_ GE145.out)|exact HB.out)) hb);clear BK144;clear BK145;clear HB;have BK144:=n0_;have BK145:=n1_;have HB:=n2_;clear n0_ n1_ n2_;(try clear hb);(try clear hb2);(try clear hk);(try clear hi)))
   go_ret
   exact ⟨eRf,by repeat (first|(with_reducible first|exact HB.out|apply bwA|apply bwN|apply bw1|refine below_set ?_ GE144.out|refine below_set ?_ GE145.out)|exact HB.out)⟩
  ·rw [if_neg c6] at H
   have c6b0 : (t146 == 0) = false:=beq_eq_false_iff_ne.mpr c6
   have c6b1 : (t146 != 0) = true:=bne_iff_ne.mpr c6
   replace H:=Option.bind_eq_some_iff.mp H
   obtain ⟨⟨t149,t150⟩,A140,H⟩:=H
   replace H : ((spec_l06Size.f a1_0 a1_1).bind fun bt152 => (if (t149 == bt152.1 && (t150 == bt152.2)) = true then (some 0) else (if t149 > bt152.1 then ((spec_l06Minus.f a0_0 a0_1).bind fun t155 => ((spec_l01Bit.f (!t155)).bind fun t156 => (some (wrap64 ((wrap64 (2 * t156)) - 1))))) else (if t149 = bt152.1 then ((spec_l06Minus.f a0_0 a0_1).bind fun t157 => ((spec_l01Bit.f ((decide (t150 > bt152.2)) != t157)).bind fun t158 => (some (wrap64 ((wrap64 (2 * t158)) - 1))))) else ((spec_l06Minus.f a0_0 a0_1).bind fun t159 => ((spec_l01Bit.f t159).bind fun t160 => (some (wrap64 ((wrap64 (2 * t160)) - 1))))))))) = some r:=H
   have A14:=aMk A140
   clear A140
   replace H:=Option.bind_eq_some_iff.mp H
   obtain ⟨⟨t152,t153⟩,A150,H⟩:=H
   replace H : (if (t149 == t152 && (t150 == t153)) = true then (some 0) else (if t149 > t152 then ((spec_l06Minus.f a0_0 a0_1).bind fun t155 => ((spec_l01Bit.f (!t155)).bind fun t156 => (some (wrap64 ((wrap64 (2 * t156)) - 1))))) else (if t149 = t152 then ((spec_l06Minus.f a0_0 a0_1).bind fun t157 => ((spec_l01Bit.f ((decide (t150 > t153)) != t157)).bind fun t158 => (some (wrap64 ((wrap64 (2 * t158)) - 1))))) else ((spec_l06Minus.f a0_0 a0_1).bind fun t159 => ((spec_l01Bit.f t159).bind fun t160 => (some (wrap64 ((wrap64 (2 * t160)) - 1)))))))) = some r:=H
   have A15:=aMk A150
   clear A150
   by_cases c16 : (t149 == t152 && (t150 == t153)) = true
   ·rw [if_pos c16] at H
    have c16b0 : (t149 == t152 && (t150 == t153)) = true:=c16
    (try (have c16b1 : decide (t149 = t152 && (t150 == t153)) = true:=by simpa using c16))
    (try (have c16b2 : (t149 == t152 && (t150 == t153)) = true:=by simpa using c16))
    clear c16
    obtain rfl:=Option.some.inj H
    go_enter Try.func42,Try.ntmps42
    go_wp2_with (first|((with_reducible refine gate_dst (N:=2) rfl ?_);refine bxE (N:=2) (cs:=#[.int .i64 a0_0,.int .i64 a0_1]) (t:=31) ?_;intro gb144 hg w17 hbox hb;have n0_:=aMk (bSt hb);have n1_:=aMk (hbox);have n2_:=aMk ((by rw [hg];exact bSz : w.heap.size ≤ gb144));have n3_:=aMk ((by rw [hg];exact bSz : w.heap.size ≤ gb144));clear HB;have HB:=n0_;have BK144:=n1_;have GW144:=n2_;have GE144:=n3_;clear n0_ n1_ n2_ n3_;clear hb hbox hg)|((with_reducible refine gate_dst (N:=3) rfl ?_);refine bxE (N:=3) (cs:=#[.int .i64 a1_0,.int .i64 a1_1]) (t:=31) ?_;intro gb145 hg w18 hbox hb;have n0_:=aMk (bkB BK144.out hb);have n1_:=aMk (below_step (by repeat (first|(with_reducible first|exact HB.out|apply bwA|apply bwN|apply bw1|refine below_set ?_ GE144.out)|exact HB.out)) hb);have n2_:=aMk (hbox);have n3_:=aMk ((by rw [hg];exact (below_size (by repeat (first|(with_reducible first|exact HB.out|apply bwA|apply bwN|apply bw1|refine below_set ?_ GE144.out)|exact HB.out))) : w.heap.size ≤ gb145));have n4_:=aMk ((by rw [hg];exact (below_size (by repeat (first|(with_reducible first|exact HB.out|apply bwA|apply bwN|apply bw1|refine below_set ?_ GE144.out)|exact HB.out))) : w.heap.size ≤ gb145));have n5_:=aMk ((bkL BK144.out hg : gb144 ≠ gb145));have n6_:=aMk ((bkG BK144.out hg : gb145 ≠ gb144));clear BK144;clear HB;have BK144:=n0_;have HB:=n1_;have BK145:=n2_;have GW145:=n3_;have GE145:=n4_;have NB144_145:=n5_;have NB145_144:=n6_;clear n0_ n1_ n2_ n3_ n4_ n5_ n6_;clear hb hbox hg;have hnb19:=NB144_145.out;have hnc19:=NB145_144.out;obtain ⟨hcz20_0,hcz20_1,hfz20_0,hfz20_1⟩:=bC2 BK144.out)|((with_reducible refine gate_callee (f:=45) rfl ?_);refine gLs 11 Try.func45 #[.agg #[.int .i64 a0_0,.int .i64 a0_1]] ?_;(with_reducible refine (spec_l06Class.calls k a0_0 a0_1 t146 _ A3.out).mono ?_);rintro e w21 ⟨rfl,hb⟩;refine ⟨_,rfl,?_⟩;have n0_:=aMk (bkB BK144.out hb);have n1_:=aMk (bkB BK145.out hb);have n2_:=aMk (below_step (by repeat (first|(with_reducible first|exact HB.out|apply bwA|apply bwN|apply bw1|refine below_set ?_ GE144.out|refine below_set ?_ GE145.out)|exact HB.out)) hb);clear BK144;clear BK145;clear HB;have BK144:=n0_;have BK145:=n1_;have HB:=n2_;clear n0_ n1_ n2_;(try clear hb);(try clear hb2);(try clear hk);(try clear hi);obtain ⟨hcz22_0,hcz22_1,hfz22_0,hfz22_1⟩:=bC2 BK145.out)|((with_reducible refine gate_callee (f:=45) rfl ?_);refine gLs 13 Try.func45 #[.agg #[.int .i64 a1_0,.int .i64 a1_1]] ?_;(with_reducible refine (spec_l06Class.calls k a1_0 a1_1 t147 _ A4.out).mono ?_);rintro e w23 ⟨rfl,hb⟩;refine ⟨_,rfl,?_⟩;have n0_:=aMk (bkB BK144.out hb);have n1_:=aMk (bkB BK145.out hb);have n2_:=aMk (below_step (by repeat (first|(with_reducible first|exact HB.out|apply bwA|apply bwN|apply bw1|refine below_set ?_ GE144.out|refine below_set ?_ GE145.out)|exact HB.out)) hb);clear BK144;clear BK145;clear HB;have BK144:=n0_;have BK145:=n1_;have HB:=n2_;clear n0_ n1_ n2_;(try clear hb);(try clear hb2);(try clear hk);(try clear hi);obtain ⟨hcz24_0,hcz24_1,hfz24_0,hfz24_1⟩:=bC2 BK144.out)|((with_reducible refine gate_callee (f:=62) rfl ?_);refine gLs 26 Try.func62 #[.agg #[.int .i64 a0_0,.int .i64 a0_1]] ?_;(with_reducible refine (spec_l06Size.calls a0_0 a0_1 t149 t150 _ A14.out).mono ?_);rintro e w25 ⟨rfl,hb⟩;refine ⟨_,rfl,?_⟩;have n0_:=aMk (bkB BK144.out hb);have n1_:=aMk (bkB BK145.out hb);have n2_:=aMk (below_step (by repeat (first|(with_reducible first|exact HB.out|apply bwA|apply bwN|apply bw1|refine below_set ?_ GE144.out|refine below_set ?_ GE145.out)|exact HB.out)) hb);clear BK144;clear BK145;clear HB;have BK144:=n0_;have BK145:=n1_;have HB:=n2_;clear n0_ n1_ n2_;(try clear hb);(try clear hb2);(try clear hk);(try clear hi))|((with_reducible refine gate_dst (N:=7) rfl ?_);refine bxE (N:=7) (cs:=#[.int .i64 0,.int .i64 0]) (t:=31) ?_;intro gb151 hg w26 hbox hb;have n0_:=aMk (bkB BK144.out hb);have n1_:=aMk (bkB BK145.out hb);have n2_:=aMk (below_step (by repeat (first|(with_reducible first|exact HB.out|apply bwA|apply bwN|apply bw1|refine below_set ?_ GE144.out|refine below_set ?_ GE145.out)|exact HB.out)) hb);have n3_:=aMk (hbox);have n4_:=aMk ((by rw [hg];exact (below_size (by repeat (first|(with_reducible first|exact HB.out|apply bwA|apply bwN|apply bw1|refine below_set ?_ GE144.out|refine below_set ?_ GE145.out)|exact HB.out))) : w.heap.size ≤ gb151));have n5_:=aMk ((by rw [hg];exact (below_size (by repeat (first|(with_reducible first|exact HB.out|apply bwA|apply bwN|apply bw1|refine below_set ?_ GE144.out|refine below_set ?_ GE145.out)|exact HB.out))) : w.heap.size ≤ gb151));have n6_:=aMk ((bkL BK144.out hg : gb144 ≠ gb151));have n7_:=aMk ((bkG BK144.out hg : gb151 ≠ gb144));have n8_:=aMk ((bkL BK145.out hg : gb145 ≠ gb151));have n9_:=aMk ((bkG BK145.out hg : gb151 ≠ gb145));clear BK144;clear BK145;clear HB;have BK144:=n0_;have BK145:=n1_;have HB:=n2_;have BK151:=n3_;have GW151:=n4_;have GE151:=n5_;have NB144_151:=n6_;have NB151_144:=n7_;have NB145_151:=n8_;have NB151_145:=n9_;clear n0_ n1_ n2_ n3_ n4_ n5_ n6_ n7_ n8_ n9_;clear hb hbox hg;have hnb27:=NB151_144.out;have hnc27:=NB144_151.out;have hnb28:=NB151_145.out;have hnc28:=NB145_151.out;obtain ⟨hcz29_0,hcz29_1,hfz29_0,hfz29_1⟩:=bC2 BK151.out;obtain ⟨hcz30_0,hcz30_1,hfz30_0,hfz30_1⟩:=bC2 BK145.out)|((with_reducible refine gate_callee (f:=62) rfl ?_);refine gLs 28 Try.func62 #[.agg #[.int .i64 a1_0,.int .i64 a1_1]] ?_;(with_reducible refine (spec_l06Size.calls a1_0 a1_1 t152 t153 _ A15.out).mono ?_);rintro e w31 ⟨rfl,hb⟩;refine ⟨_,rfl,?_⟩;have n0_:=aMk (blk_below (g:=gb144) (o:=.cells #[.int .i64 a0_0,.int .i64 a0_1] 31 (0,0)) (by refine pB ?_;refine blk_far ?_ NB144_151.out _;refine pB ?_;refine blk_far ?_ NB144_151.out _;refine pB ?_;exact BK144.out) hb);have n1_:=aMk (blk_below (g:=gb145) (o:=.cells #[.int .i64 a1_0,.int .i64 a1_1] 31 (0,0)) (by refine pB ?_;refine blk_far ?_ NB145_151.out _;refine pB ?_;refine blk_far ?_ NB145_151.out _;refine pB ?_;exact BK145.out) hb);have n2_:=aMk (blk_below (g:=gb151) (o:=.cells #[.int .i64 t149,.int .i64 t150] 31 (0,0)) (by refine pB ?_;refine blk_put (cs:=#[.int .i64 t149,.int .i64 0]) ?_ 1 _ rfl;refine pB ?_;refine blk_put (cs:=#[.int .i64 0,.int .i64 0]) ?_ 0 _ rfl;refine pB ?_;exact BK151.out) hb);have n3_:=aMk (below_step (by repeat (first|(with_reducible first|exact HB.out|apply bwA|apply bwN|apply bw1|refine below_set ?_ GE144.out|refine below_set ?_ GE145.out|refine below_set ?_ GE151.out)|exact HB.out)) hb);clear BK144;clear BK145;clear BK151;clear HB;have BK144:=n0_;have BK145:=n1_;have BK151:=n2_;have HB:=n3_;clear n0_ n1_ n2_ n3_;(try clear hb);(try clear hb2);(try clear hk);(try clear hi))|((with_reducible refine gate_dst (N:=8) rfl ?_);refine bxE (N:=8) (cs:=#[.int .i64 0,.int .i64 0]) (t:=31) ?_;intro gb154 hg w32 hbox hb;have n0_:=aMk (bkB BK144.out hb);have n1_:=aMk (bkB BK145.out hb);have n2_:=aMk (bkB BK151.out hb);have n3_:=aMk (below_step (by repeat (first|(with_reducible first|exact HB.out|apply bwA|apply bwN|apply bw1|refine below_set ?_ GE144.out|refine below_set ?_ GE145.out|refine below_set ?_ GE151.out)|exact HB.out)) hb);have n4_:=aMk (hbox);have n5_:=aMk ((by rw [hg];exact (below_size (by repeat (first|(with_reducible first|exact HB.out|apply bwA|apply bwN|apply bw1|refine below_set ?_ GE144.out|refine below_set ?_ GE145.out|refine below_set ?_ GE151.out)|exact HB.out))) : w.heap.size ≤ gb154));have n6_:=aMk ((by rw [hg];exact (below_size (by repeat (first|(with_reducible first|exact HB.out|apply bwA|apply bwN|apply bw1|refine below_set ?_ GE144.out|refine below_set ?_ GE145.out|refine below_set ?_ GE151.out)|exact HB.out))) : w.heap.size ≤ gb154));have n7_:=aMk ((bkL BK144.out hg : gb144 ≠ gb154));have n8_:=aMk ((bkG BK144.out hg : gb154 ≠ gb144));have n9_:=aMk ((bkL BK145.out hg : gb145 ≠ gb154));have n10_:=aMk ((bkG BK145.out hg : gb154 ≠ gb145));have n11_:=aMk ((bkL BK151.out hg : gb151 ≠ gb154));have n12_:=aMk ((bkG BK151.out hg : gb154 ≠ gb151));clear BK144;clear BK145;clear BK151;clear HB;have BK144:=n0_;have BK145:=n1_;have BK151:=n2_;have HB:=n3_;have BK154:=n4_;have GW154:=n5_;have GE154:=n6_;have NB144_154:=n7_;have NB154_144:=n8_;have NB145_154:=n9_;have NB154_145:=n10_;have NB151_154:=n11_;have NB154_151:=n12_;clear n0_ n1_ n2_ n3_ n4_ n5_ n6_ n7_ n8_ n9_ n10_ n11_ n12_;clear hb hbox hg;have hnb33:=NB154_144.out;have hnc33:=NB144_154.out;have hnb34:=NB154_145.out;have hnc34:=NB145_154.out;have hnb35:=NB154_151.out;have hnc35:=NB151_154.out;obtain ⟨hcz36_0,hcz36_1,hfz36_0,hfz36_1⟩:=bC2 BK154.out;obtain ⟨hcz37_0,hcz37_1,hfz37_0,hfz37_1⟩:=bC2 BK151.out))
    go_ret
    exact ⟨eRf,by repeat (first|(with_reducible first|exact HB.out|apply bwA|apply bwN|apply bw1|refine below_set ?_ GE144.out|refine below_set ?_ GE145.out|refine below_set ?_ GE151.out|refine below_set ?_ GE154.out)|exact HB.out)⟩
   ·rw [if_neg c16] at H
    have c16b0 : (t149 == t152 && (t150 == t153)) = false:=by simpa using c16
    (try (have c16b1 : decide (t149 = t152 && (t150 == t153)) = false:=by simpa using c16))
    (try (have c16b2 : (t149 == t152 && (t150 == t153)) = false:=by simpa using c16))
    (try (have c16b3 : ¬ (t149 = t152 && (t150 == t153)):=by simpa using c16))
    clear c16
    by_cases c38 : t149 > t152
    ·rw [if_pos c38] at H
     have c38b0 : decide (t152 < t149) = true:=decide_eq_true c38
     clear c38
     replace H:=Option.bind_eq_some_iff.mp H
     obtain ⟨t155,A390,H⟩:=H
     replace H : ((spec_l01Bit.f (!t155)).bind fun t156 => (some (wrap64 ((wrap64 (2 * t156)) - 1)))) = some r:=H
     have A39:=aMk A390
     clear A390
     replace H:=Option.bind_eq_some_iff.mp H
     obtain ⟨t156,A400,H⟩:=H
     replace H : (some (wrap64 ((wrap64 (2 * t156)) - 1))) = some r:=H
     have A40:=aMk A400
     clear A400
     obtain rfl:=Option.some.inj H
     go_enter Try.func42,Try.ntmps42
     go_wp2_with (first|((with_reducible refine gate_dst (N:=2) rfl ?_);refine bxE (N:=2) (cs:=#[.int .i64 a0_0,.int .i64 a0_1]) (t:=31) ?_;intro gb144 hg w41 hbox hb;have n0_:=aMk (bSt hb);have n1_:=aMk (hbox);have n2_:=aMk ((by rw [hg];exact bSz : w.heap.size ≤ gb144));have n3_:=aMk ((by rw [hg];exact bSz : w.heap.size ≤ gb144));clear HB;have HB:=n0_;have BK144:=n1_;have GW144:=n2_;have GE144:=n3_;clear n0_ n1_ n2_ n3_;clear hb hbox hg)|((with_reducible refine gate_dst (N:=3) rfl ?_);refine bxE (N:=3) (cs:=#[.int .i64 a1_0,.int .i64 a1_1]) (t:=31) ?_;intro gb145 hg w42 hbox hb;have n0_:=aMk (bkB BK144.out hb);have n1_:=aMk (below_step (by repeat (first|(with_reducible first|exact HB.out|apply bwA|apply bwN|apply bw1|refine below_set ?_ GE144.out)|exact HB.out)) hb);have n2_:=aMk (hbox);have n3_:=aMk ((by rw [hg];exact (below_size (by repeat (first|(with_reducible first|exact HB.out|apply bwA|apply bwN|apply bw1|refine below_set ?_ GE144.out)|exact HB.out))) : w.heap.size ≤ gb145));have n4_:=aMk ((by rw [hg];exact (below_size (by repeat (first|(with_reducible first|exact HB.out|apply bwA|apply bwN|apply bw1|refine below_set ?_ GE144.out)|exact HB.out))) : w.heap.size ≤ gb145));have n5_:=aMk ((bkL BK144.out hg : gb144 ≠ gb145));have n6_:=aMk ((bkG BK144.out hg : gb145 ≠ gb144));clear BK144;clear HB;have BK144:=n0_;have HB:=n1_;have BK145:=n2_;have GW145:=n3_;have GE145:=n4_;have NB144_145:=n5_;have NB145_144:=n6_;clear n0_ n1_ n2_ n3_ n4_ n5_ n6_;clear hb hbox hg;have hnb43:=NB144_145.out;have hnc43:=NB145_144.out;obtain ⟨hcz44_0,hcz44_1,hfz44_0,hfz44_1⟩:=bC2 BK144.out)|((with_reducible refine gate_callee (f:=45) rfl ?_);refine gLs 11 Try.func45 #[.agg #[.int .i64 a0_0,.int .i64 a0_1]] ?_;(with_reducible refine (spec_l06Class.calls k a0_0 a0_1 t146 _ A3.out).mono ?_);rintro e w45 ⟨rfl,hb⟩;refine ⟨_,rfl,?_⟩;have n0_:=aMk (bkB BK144.out hb);have n1_:=aMk (bkB BK145.out hb);have n2_:=aMk (below_step (by repeat (first|(with_reducible first|exact HB.out|apply bwA|apply bwN|apply bw1|refine below_set ?_ GE144.out|refine below_set ?_ GE145.out)|exact HB.out)) hb);clear BK144;clear BK145;clear HB;have BK144:=n0_;have BK145:=n1_;have HB:=n2_;clear n0_ n1_ n2_;(try clear hb);(try clear hb2);(try clear hk);(try clear hi);obtain ⟨hcz46_0,hcz46_1,hfz46_0,hfz46_1⟩:=bC2 BK145.out)|((with_reducible refine gate_callee (f:=45) rfl ?_);refine gLs 13 Try.func45 #[.agg #[.int .i64 a1_0,.int .i64 a1_1]] ?_;(with_reducible refine (spec_l06Class.calls k a1_0 a1_1 t147 _ A4.out).mono ?_);rintro e w47 ⟨rfl,hb⟩;refine ⟨_,rfl,?_⟩;have n0_:=aMk (bkB BK144.out hb);have n1_:=aMk (bkB BK145.out hb);have n2_:=aMk (below_step (by repeat (first|(with_reducible first|exact HB.out|apply bwA|apply bwN|apply bw1|refine below_set ?_ GE144.out|refine below_set ?_ GE145.out)|exact HB.out)) hb);clear BK144;clear BK145;clear HB;have BK144:=n0_;have BK145:=n1_;have HB:=n2_;clear n0_ n1_ n2_;(try clear hb);(try clear hb2);(try clear hk);(try clear hi);obtain ⟨hcz48_0,hcz48_1,hfz48_0,hfz48_1⟩:=bC2 BK144.out)|((with_reducible refine gate_callee (f:=62) rfl ?_);refine gLs 26 Try.func62 #[.agg #[.int .i64 a0_0,.int .i64 a0_1]] ?_;(with_reducible refine (spec_l06Size.calls a0_0 a0_1 t149 t150 _ A14.out).mono ?_);rintro e w49 ⟨rfl,hb⟩;refine ⟨_,rfl,?_⟩;have n0_:=aMk (bkB BK144.out hb);have n1_:=aMk (bkB BK145.out hb);have n2_:=aMk (below_step (by repeat (first|(with_reducible first|exact HB.out|apply bwA|apply bwN|apply bw1|refine below_set ?_ GE144.out|refine below_set ?_ GE145.out)|exact HB.out)) hb);clear BK144;clear BK145;clear HB;have BK144:=n0_;have BK145:=n1_;have HB:=n2_;clear n0_ n1_ n2_;(try clear hb);(try clear hb2);(try clear hk);(try clear hi))|((with_reducible refine gate_dst (N:=7) rfl ?_);refine bxE (N:=7) (cs:=#[.int .i64 0,.int .i64 0]) (t:=31) ?_;intro gb151 hg w50 hbox hb;have n0_:=aMk (bkB BK144.out hb);have n1_:=aMk (bkB BK145.out hb);have n2_:=aMk (below_step (by repeat (first|(with_reducible first|exact HB.out|apply bwA|apply bwN|apply bw1|refine below_set ?_ GE144.out|refine below_set ?_ GE145.out)|exact HB.out)) hb);have n3_:=aMk (hbox);have n4_:=aMk ((by rw [hg];exact (below_size (by repeat (first|(with_reducible first|exact HB.out|apply bwA|apply bwN|apply bw1|refine below_set ?_ GE144.out|refine below_set ?_ GE145.out)|exact HB.out))) : w.heap.size ≤ gb151));have n5_:=aMk ((by rw [hg];exact (below_size (by repeat (first|(with_reducible first|exact HB.out|apply bwA|apply bwN|apply bw1|refine below_set ?_ GE144.out|refine below_set ?_ GE145.out)|exact HB.out))) : w.heap.size ≤ gb151));have n6_:=aMk ((bkL BK144.out hg : gb144 ≠ gb151));have n7_:=aMk ((bkG BK144.out hg : gb151 ≠ gb144));have n8_:=aMk ((bkL BK145.out hg : gb145 ≠ gb151));have n9_:=aMk ((bkG BK145.out hg : gb151 ≠ gb145));clear BK144;clear BK145;clear HB;have BK144:=n0_;have BK145:=n1_;have HB:=n2_;have BK151:=n3_;have GW151:=n4_;have GE151:=n5_;have NB144_151:=n6_;have NB151_144:=n7_;have NB145_151:=n8_;have NB151_145:=n9_;clear n0_ n1_ n2_ n3_ n4_ n5_ n6_ n7_ n8_ n9_;clear hb hbox hg;have hnb51:=NB151_144.out;have hnc51:=NB144_151.out;have hnb52:=NB151_145.out;have hnc52:=NB145_151.out;obtain ⟨hcz53_0,hcz53_1,hfz53_0,hfz53_1⟩:=bC2 BK151.out;obtain ⟨hcz54_0,hcz54_1,hfz54_0,hfz54_1⟩:=bC2 BK145.out)|((with_reducible refine gate_callee (f:=62) rfl ?_);refine gLs 28 Try.func62 #[.agg #[.int .i64 a1_0,.int .i64 a1_1]] ?_;(with_reducible refine (spec_l06Size.calls a1_0 a1_1 t152 t153 _ A15.out).mono ?_);rintro e w55 ⟨rfl,hb⟩;refine ⟨_,rfl,?_⟩;have n0_:=aMk (blk_below (g:=gb144) (o:=.cells #[.int .i64 a0_0,.int .i64 a0_1] 31 (0,0)) (by refine pB ?_;refine blk_far ?_ NB144_151.out _;refine pB ?_;refine blk_far ?_ NB144_151.out _;refine pB ?_;exact BK144.out) hb);have n1_:=aMk (blk_below (g:=gb145) (o:=.cells #[.int .i64 a1_0,.int .i64 a1_1] 31 (0,0)) (by refine pB ?_;refine blk_far ?_ NB145_151.out _;refine pB ?_;refine blk_far ?_ NB145_151.out _;refine pB ?_;exact BK145.out) hb);have n2_:=aMk (blk_below (g:=gb151) (o:=.cells #[.int .i64 t149,.int .i64 t150] 31 (0,0)) (by refine pB ?_;refine blk_put (cs:=#[.int .i64 t149,.int .i64 0]) ?_ 1 _ rfl;refine pB ?_;refine blk_put (cs:=#[.int .i64 0,.int .i64 0]) ?_ 0 _ rfl;refine pB ?_;exact BK151.out) hb);have n3_:=aMk (below_step (by repeat (first|(with_reducible first|exact HB.out|apply bwA|apply bwN|apply bw1|refine below_set ?_ GE144.out|refine below_set ?_ GE145.out|refine below_set ?_ GE151.out)|exact HB.out)) hb);clear BK144;clear BK145;clear BK151;clear HB;have BK144:=n0_;have BK145:=n1_;have BK151:=n2_;have HB:=n3_;clear n0_ n1_ n2_ n3_;(try clear hb);(try clear hb2);(try clear hk);(try clear hi))|((with_reducible refine gate_dst (N:=8) rfl ?_);refine bxE (N:=8) (cs:=#[.int .i64 0,.int .i64 0]) (t:=31) ?_;intro gb154 hg w56 hbox hb;have n0_:=aMk (bkB BK144.out hb);have n1_:=aMk (bkB BK145.out hb);have n2_:=aMk (bkB BK151.out hb);have n3_:=aMk (below_step (by repeat (first|(with_reducible first|exact HB.out|apply bwA|apply bwN|apply bw1|refine below_set ?_ GE144.out|refine below_set ?_ GE145.out|refine below_set ?_ GE151.out)|exact HB.out)) hb);have n4_:=aMk (hbox);have n5_:=aMk ((by rw [hg];exact (below_size (by repeat (first|(with_reducible first|exact HB.out|apply bwA|apply bwN|apply bw1|refine below_set ?_ GE144.out|refine below_set ?_ GE145.out|refine below_set ?_ GE151.out)|exact HB.out))) : w.heap.size ≤ gb154));have n6_:=aMk ((by rw [hg];exact (below_size (by repeat (first|(with_reducible first|exact HB.out|apply bwA|apply bwN|apply bw1|refine below_set ?_ GE144.out|refine below_set ?_ GE145.out|refine below_set ?_ GE151.out)|exact HB.out))) : w.heap.size ≤ gb154));have n7_:=aMk ((bkL BK144.out hg : gb144 ≠ gb154));have n8_:=aMk ((bkG BK144.out hg : gb154 ≠ gb144));have n9_:=aMk ((bkL BK145.out hg : gb145 ≠ gb154));have n10_:=aMk ((bkG BK145.out hg : gb154 ≠ gb145));have n11_:=aMk ((bkL BK151.out hg : gb151 ≠ gb154));have n12_:=aMk ((bkG BK151.out hg : gb154 ≠ gb151));clear BK144;clear BK145;clear BK151;clear HB;have BK144:=n0_;have BK145:=n1_;have BK151:=n2_;have HB:=n3_;have BK154:=n4_;have GW154:=n5_;have GE154:=n6_;have NB144_154:=n7_;have NB154_144:=n8_;have NB145_154:=n9_;have NB154_145:=n10_;have NB151_154:=n11_;have NB154_151:=n12_;clear n0_ n1_ n2_ n3_ n4_ n5_ n6_ n7_ n8_ n9_ n10_ n11_ n12_;clear hb hbox hg;have hnb57:=NB154_144.out;have hnc57:=NB144_154.out;have hnb58:=NB154_145.out;have hnc58:=NB145_154.out;have hnb59:=NB154_151.out;have hnc59:=NB151_154.out;obtain ⟨hcz60_0,hcz60_1,hfz60_0,hfz60_1⟩:=bC2 BK154.out;obtain ⟨hcz61_0,hcz61_1,hfz61_0,hfz61_1⟩:=bC2 BK151.out;obtain ⟨hcz62_0,hcz62_1,hfz62_0,hfz62_1⟩:=bC2 BK144.out)|((with_reducible refine gate_callee (f:=63) rfl ?_);refine gLs 53 Try.func63 #[.agg #[.int .i64 a0_0,.int .i64 a0_1]] ?_;(with_reducible refine (spec_l06Minus.calls a0_0 a0_1 t155 _ A39.out).mono ?_);rintro e w63 ⟨rfl,hb⟩;refine ⟨_,rfl,?_⟩;have n0_:=aMk (blk_below (g:=gb144) (o:=.cells #[.int .i64 a0_0,.int .i64 a0_1] 31 (0,0)) (by refine pB ?_;refine blk_far ?_ NB144_154.out _;refine pB ?_;refine blk_far ?_ NB144_154.out _;refine pB ?_;exact BK144.out) hb);have n1_:=aMk (blk_below (g:=gb145) (o:=.cells #[.int .i64 a1_0,.int .i64 a1_1] 31 (0,0)) (by refine pB ?_;refine blk_far ?_ NB145_154.out _;refine pB ?_;refine blk_far ?_ NB145_154.out _;refine pB ?_;exact BK145.out) hb);have n2_:=aMk (blk_below (g:=gb151) (o:=.cells #[.int .i64 t149,.int .i64 t150] 31 (0,0)) (by refine pB ?_;refine blk_far ?_ NB151_154.out _;refine pB ?_;refine blk_far ?_ NB151_154.out _;refine pB ?_;exact BK151.out) hb);have n3_:=aMk (blk_below (g:=gb154) (o:=.cells #[.int .i64 t152,.int .i64 t153] 31 (0,0)) (by refine pB ?_;refine blk_put (cs:=#[.int .i64 t152,.int .i64 0]) ?_ 1 _ rfl;refine pB ?_;refine blk_put (cs:=#[.int .i64 0,.int .i64 0]) ?_ 0 _ rfl;refine pB ?_;exact BK154.out) hb);have n4_:=aMk (below_step (by repeat (first|(with_reducible first|exact HB.out|apply bwA|apply bwN|apply bw1|refine below_set ?_ GE144.out|refine below_set ?_ GE145.out|refine below_set ?_ GE151.out|refine below_set ?_ GE154.out)|exact HB.out)) hb);clear BK144;clear BK145;clear BK151;clear BK154;clear HB;have BK144:=n0_;have BK145:=n1_;have BK151:=n2_;have BK154:=n3_;have HB:=n4_;clear n0_ n1_ n2_ n3_ n4_;(try clear hb);(try clear hb2);(try clear hk);(try clear hi))|((with_reducible refine gate_callee (f:=61) rfl ?_);refine gLs 55 Try.func61 #[.bool (!t155)] ?_;(with_reducible refine (spec_l01Bit.calls (!t155) t156 _ A40.out).mono ?_);rintro e w' ⟨rfl,⟨nd,rfl⟩⟩;refine ⟨_,rfl,?_⟩))
     go_ret
     exact ⟨eRf,by repeat (first|(with_reducible first|exact HB.out|apply bwA|apply bwN|apply bw1|refine below_set ?_ GE144.out|refine below_set ?_ GE145.out|refine below_set ?_ GE151.out|refine below_set ?_ GE154.out)|exact HB.out)⟩
    ·rw [if_neg c38] at H
     have c38b0 : decide (t152 < t149) = false:=decide_eq_false c38
     clear c38
     by_cases c64 : t149 = t152
     ·rw [if_pos c64] at H
      have c64b0 : (t149 == t152) = true:=beq_iff_eq.mpr c64
      try have c64e : (t150 == t153) = false:=by have h_:=c16b0;rw [c64b0,Bool.true_and] at h_;exact h_
      have c64b1 : (t149 != t152) = false:=bne_eq_false_iff_eq.mpr c64
      clear c64
      replace H:=Option.bind_eq_some_iff.mp H
      obtain ⟨t157,A650,H⟩:=H
      replace H : ((spec_l01Bit.f ((decide (t150 > t153)) != t157)).bind fun t158 => (some (wrap64 ((wrap64 (2 * t158)) - 1)))) = some r:=H
      have A65:=aMk A650
      clear A650
      replace H:=Option.bind_eq_some_iff.mp H
      obtain ⟨t158,A660,H⟩:=H
      replace H : (some (wrap64 ((wrap64 (2 * t158)) - 1))) = some r:=H
      have A66:=aMk A660
      clear A660
      obtain rfl:=Option.some.inj H
      go_enter Try.func42,Try.ntmps42
      go_wp2_with (first|((with_reducible refine gate_dst (N:=2) rfl ?_);refine bxE (N:=2) (cs:=#[.int .i64 a0_0,.int .i64 a0_1]) (t:=31) ?_;intro gb144 hg w67 hbox hb;have n0_:=aMk (bSt hb);have n1_:=aMk (hbox);have n2_:=aMk ((by rw [hg];exact bSz : w.heap.size ≤ gb144));have n3_:=aMk ((by rw [hg];exact bSz : w.heap.size ≤ gb144));clear HB;have HB:=n0_;have BK144:=n1_;have GW144:=n2_;have GE144:=n3_;clear n0_ n1_ n2_ n3_;clear hb hbox hg)|((with_reducible refine gate_dst (N:=3) rfl ?_);refine bxE (N:=3) (cs:=#[.int .i64 a1_0,.int .i64 a1_1]) (t:=31) ?_;intro gb145 hg w68 hbox hb;have n0_:=aMk (bkB BK144.out hb);have n1_:=aMk (below_step (by repeat (first|(with_reducible first|exact HB.out|apply bwA|apply bwN|apply bw1|refine below_set ?_ GE144.out)|exact HB.out)) hb);have n2_:=aMk (hbox);have n3_:=aMk ((by rw [hg];exact (below_size (by repeat (first|(with_reducible first|exact HB.out|apply bwA|apply bwN|apply bw1|refine below_set ?_ GE144.out)|exact HB.out))) : w.heap.size ≤ gb145));have n4_:=aMk ((by rw [hg];exact (below_size (by repeat (first|(with_reducible first|exact HB.out|apply bwA|apply bwN|apply bw1|refine below_set ?_ GE144.out)|exact HB.out))) : w.heap.size ≤ gb145));have n5_:=aMk ((bkL BK144.out hg : gb144 ≠ gb145));have n6_:=aMk ((bkG BK144.out hg : gb145 ≠ gb144));clear BK144;clear HB;have BK144:=n0_;have HB:=n1_;have BK145:=n2_;have GW145:=n3_;have GE145:=n4_;have NB144_145:=n5_;have NB145_144:=n6_;clear n0_ n1_ n2_ n3_ n4_ n5_ n6_;clear hb hbox hg;have hnb69:=NB144_145.out;have hnc69:=NB145_144.out;obtain ⟨hcz70_0,hcz70_1,hfz70_0,hfz70_1⟩:=bC2 BK144.out)|((with_reducible refine gate_callee (f:=45) rfl ?_);refine gLs 11 Try.func45 #[.agg #[.int .i64 a0_0,.int .i64 a0_1]] ?_;(with_reducible refine (spec_l06Class.calls k a0_0 a0_1 t146 _ A3.out).mono ?_);rintro e w71 ⟨rfl,hb⟩;refine ⟨_,rfl,?_⟩;have n0_:=aMk (bkB BK144.out hb);have n1_:=aMk (bkB BK145.out hb);have n2_:=aMk (below_step (by repeat (first|(with_reducible first|exact HB.out|apply bwA|apply bwN|apply bw1|refine below_set ?_ GE144.out|refine below_set ?_ GE145.out)|exact HB.out)) hb);clear BK144;clear BK145;clear HB;have BK144:=n0_;have BK145:=n1_;have HB:=n2_;clear n0_ n1_ n2_;(try clear hb);(try clear hb2);(try clear hk);(try clear hi);obtain ⟨hcz72_0,hcz72_1,hfz72_0,hfz72_1⟩:=bC2 BK145.out)|((with_reducible refine gate_callee (f:=45) rfl ?_);refine gLs 13 Try.func45 #[.agg #[.int .i64 a1_0,.int .i64 a1_1]] ?_;(with_reducible refine (spec_l06Class.calls k a1_0 a1_1 t147 _ A4.out).mono ?_);rintro e w73 ⟨rfl,hb⟩;refine ⟨_,rfl,?_⟩;have n0_:=aMk (bkB BK144.out hb);have n1_:=aMk (bkB BK145.out hb);have n2_:=aMk (below_step (by repeat (first|(with_reducible first|exact HB.out|apply bwA|apply bwN|apply bw1|refine below_set ?_ GE144.out|refine below_set ?_ GE145.out)|exact HB.out)) hb);clear BK144;clear BK145;clear HB;have BK144:=n0_;have BK145:=n1_;have HB:=n2_;clear n0_ n1_ n2_;(try clear hb);(try clear hb2);(try clear hk);(try clear hi);obtain ⟨hcz74_0,hcz74_1,hfz74_0,hfz74_1⟩:=bC2 BK144.out)|((with_reducible refine gate_callee (f:=62) rfl ?_);refine gLs 26 Try.func62 #[.agg #[.int .i64 a0_0,.int .i64 a0_1]] ?_;(with_reducible refine (spec_l06Size.calls a0_0 a0_1 t149 t150 _ A14.out).mono ?_);rintro e w75 ⟨rfl,hb⟩;refine ⟨_,rfl,?_⟩;have n0_:=aMk (bkB BK144.out hb);have n1_:=aMk (bkB BK145.out hb);have n2_:=aMk (below_step (by repeat (first|(with_reducible first|exact HB.out|apply bwA|apply bwN|apply bw1|refine below_set ?_ GE144.out|refine below_set ?_ GE145.out)|exact HB.out)) hb);clear BK144;clear BK145;clear HB;have BK144:=n0_;have BK145:=n1_;have HB:=n2_;clear n0_ n1_ n2_;(try clear hb);(try clear hb2);(try clear hk);(try clear hi))|((with_reducible refine gate_dst (N:=7) rfl ?_);refine bxE (N:=7) (cs:=#[.int .i64 0,.int .i64 0]) (t:=31) ?_;intro gb151 hg w76 hbox hb;have n0_:=aMk (bkB BK144.out hb);have n1_:=aMk (bkB BK145.out hb);have n2_:=aMk (below_step (by repeat (first|(with_reducible first|exact HB.out|apply bwA|apply bwN|apply bw1|refine below_set ?_ GE144.out|refine below_set ?_ GE145.out)|exact HB.out)) hb);have n3_:=aMk (hbox);have n4_:=aMk ((by rw [hg];exact (below_size (by repeat (first|(with_reducible first|exact HB.out|apply bwA|apply bwN|apply bw1|refine below_set ?_ GE144.out|refine below_set ?_ GE145.out)|exact HB.out))) : w.heap.size ≤ gb151));have n5_:=aMk ((by rw [hg];exact (below_size (by repeat (first|(with_reducible first|exact HB.out|apply bwA|apply bwN|apply bw1|refine below_set ?_ GE144.out|refine below_set ?_ GE145.out)|exact HB.out))) : w.heap.size ≤ gb151));have n6_:=aMk ((bkL BK144.out hg : gb144 ≠ gb151));have n7_:=aMk ((bkG BK144.out hg : gb151 ≠ gb144));have n8_:=aMk ((bkL BK145.out hg : gb145 ≠ gb151));have n9_:=aMk ((bkG BK145.out hg : gb151 ≠ gb145));clear BK144;clear BK145;clear HB;have BK144:=n0_;have BK145:=n1_;have HB:=n2_;have BK151:=n3_;have GW151:=n4_;have GE151:=n5_;have NB144_151:=n6_;have NB151_144:=n7_;have NB145_151:=n8_;have NB151_145:=n9_;clear n0_ n1_ n2_ n3_ n4_ n5_ n6_ n7_ n8_ n9_;clear hb hbox hg;have hnb77:=NB151_144.out;have hnc77:=NB144_151.out;have hnb78:=NB151_145.out;have hnc78:=NB145_151.out;obtain ⟨hcz79_0,hcz79_1,hfz79_0,hfz79_1⟩:=bC2 BK151.out;obtain ⟨hcz80_0,hcz80_1,hfz80_0,hfz80_1⟩:=bC2 BK145.out)|((with_reducible refine gate_callee (f:=62) rfl ?_);refine gLs 28 Try.func62 #[.agg #[.int .i64 a1_0,.int .i64 a1_1]] ?_;(with_reducible refine (spec_l06Size.calls a1_0 a1_1 t152 t153 _ A15.out).mono ?_);rintro e w81 ⟨rfl,hb⟩;refine ⟨_,rfl,?_⟩;have n0_:=aMk (blk_below (g:=gb144) (o:=.cells #[.int .i64 a0_0,.int .i64 a0_1] 31 (0,0)) (by refine pB ?_;refine blk_far ?_ NB144_151.out _;refine pB ?_;refine blk_far ?_ NB144_151.out _;refine pB ?_;exact BK144.out) hb);have n1_:=aMk (blk_below (g:=gb145) (o:=.cells #[.int .i64 a1_0,.int .i64 a1_1] 31 (0,0)) (by refine pB ?_;refine blk_far ?_ NB145_151.out _;refine pB ?_;refine blk_far ?_ NB145_151.out _;refine pB ?_;exact BK145.out) hb);have n2_:=aMk (blk_below (g:=gb151) (o:=.cells #[.int .i64 t149,.int .i64 t150] 31 (0,0)) (by refine pB ?_;refine blk_put (cs:=#[.int .i64 t149,.int .i64 0]) ?_ 1 _ rfl;refine pB ?_;refine blk_put (cs:=#[.int .i64 0,.int .i64 0]) ?_ 0 _ rfl;refine pB ?_;exact BK151.out) hb);have n3_:=aMk (below_step (by repeat (first|(with_reducible first|exact HB.out|apply bwA|apply bwN|apply bw1|refine below_set ?_ GE144.out|refine below_set ?_ GE145.out|refine below_set ?_ GE151.out)|exact HB.out)) hb);clear BK144;clear BK145;clear BK151;clear HB;have BK144:=n0_;have BK145:=n1_;have BK151:=n2_;have HB:=n3_;clear n0_ n1_ n2_ n3_;(try clear hb);(try clear hb2);(try clear hk);(try clear hi))|((with_reducible refine gate_dst (N:=8) rfl ?_);refine bxE (N:=8) (cs:=#[.int .i64 0,.int .i64 0]) (t:=31) ?_;intro gb154 hg w82 hbox hb;have n0_:=aMk (bkB BK144.out hb);have n1_:=aMk (bkB BK145.out hb);have n2_:=aMk (bkB BK151.out hb);have n3_:=aMk (below_step (by repeat (first|(with_reducible first|exact HB.out|apply bwA|apply bwN|apply bw1|refine below_set ?_ GE144.out|refine below_set ?_ GE145.out|refine below_set ?_ GE151.out)|exact HB.out)) hb);have n4_:=aMk (hbox);have n5_:=aMk ((by rw [hg];exact (below_size (by repeat (first|(with_reducible first|exact HB.out|apply bwA|apply bwN|apply bw1|refine below_set ?_ GE144.out|refine below_set ?_ GE145.out|refine below_set ?_ GE151.out)|exact HB.out))) : w.heap.size ≤ gb154));have n6_:=aMk ((by rw [hg];exact (below_size (by repeat (first|(with_reducible first|exact HB.out|apply bwA|apply bwN|apply bw1|refine below_set ?_ GE144.out|refine below_set ?_ GE145.out|refine below_set ?_ GE151.out)|exact HB.out))) : w.heap.size ≤ gb154));have n7_:=aMk ((bkL BK144.out hg : gb144 ≠ gb154));have n8_:=aMk ((bkG BK144.out hg : gb154 ≠ gb144));have n9_:=aMk ((bkL BK145.out hg : gb145 ≠ gb154));have n10_:=aMk ((bkG BK145.out hg : gb154 ≠ gb145));have n11_:=aMk ((bkL BK151.out hg : gb151 ≠ gb154));have n12_:=aMk ((bkG BK151.out hg : gb154 ≠ gb151));clear BK144;clear BK145;clear BK151;clear HB;have BK144:=n0_;have BK145:=n1_;have BK151:=n2_;have HB:=n3_;have BK154:=n4_;have GW154:=n5_;have GE154:=n6_;have NB144_154:=n7_;have NB154_144:=n8_;have NB145_154:=n9_;have NB154_145:=n10_;have NB151_154:=n11_;have NB154_151:=n12_;clear n0_ n1_ n2_ n3_ n4_ n5_ n6_ n7_ n8_ n9_ n10_ n11_ n12_;clear hb hbox hg;have hnb83:=NB154_144.out;have hnc83:=NB144_154.out;have hnb84:=NB154_145.out;have hnc84:=NB145_154.out;have hnb85:=NB154_151.out;have hnc85:=NB151_154.out;obtain ⟨hcz86_0,hcz86_1,hfz86_0,hfz86_1⟩:=bC2 BK154.out;obtain ⟨hcz87_0,hcz87_1,hfz87_0,hfz87_1⟩:=bC2 BK151.out;obtain ⟨hcz88_0,hcz88_1,hfz88_0,hfz88_1⟩:=bC2 BK144.out)|((with_reducible refine gate_callee (f:=63) rfl ?_);refine gLs 53 Try.func63 #[.agg #[.int .i64 a0_0,.int .i64 a0_1]] ?_;(with_reducible refine (spec_l06Minus.calls a0_0 a0_1 t157 _ A65.out).mono ?_);rintro e w89 ⟨rfl,hb⟩;refine ⟨_,rfl,?_⟩;have n0_:=aMk (blk_below (g:=gb144) (o:=.cells #[.int .i64 a0_0,.int .i64 a0_1] 31 (0,0)) (by refine pB ?_;refine blk_far ?_ NB144_154.out _;refine pB ?_;refine blk_far ?_ NB144_154.out _;refine pB ?_;exact BK144.out) hb);have n1_:=aMk (blk_below (g:=gb145) (o:=.cells #[.int .i64 a1_0,.int .i64 a1_1] 31 (0,0)) (by refine pB ?_;refine blk_far ?_ NB145_154.out _;refine pB ?_;refine blk_far ?_ NB145_154.out _;refine pB ?_;exact BK145.out) hb);have n2_:=aMk (blk_below (g:=gb151) (o:=.cells #[.int .i64 t149,.int .i64 t150] 31 (0,0)) (by refine pB ?_;refine blk_far ?_ NB151_154.out _;refine pB ?_;refine blk_far ?_ NB151_154.out _;refine pB ?_;exact BK151.out) hb);have n3_:=aMk (blk_below (g:=gb154) (o:=.cells #[.int .i64 t152,.int .i64 t153] 31 (0,0)) (by refine pB ?_;refine blk_put (cs:=#[.int .i64 t152,.int .i64 0]) ?_ 1 _ rfl;refine pB ?_;refine blk_put (cs:=#[.int .i64 0,.int .i64 0]) ?_ 0 _ rfl;refine pB ?_;exact BK154.out) hb);have n4_:=aMk (below_step (by repeat (first|(with_reducible first|exact HB.out|apply bwA|apply bwN|apply bw1|refine below_set ?_ GE144.out|refine below_set ?_ GE145.out|refine below_set ?_ GE151.out|refine below_set ?_ GE154.out)|exact HB.out)) hb);clear BK144;clear BK145;clear BK151;clear BK154;clear HB;have BK144:=n0_;have BK145:=n1_;have BK151:=n2_;have BK154:=n3_;have HB:=n4_;clear n0_ n1_ n2_ n3_ n4_;(try clear hb);(try clear hb2);(try clear hk);(try clear hi))|((with_reducible refine gate_callee (f:=61) rfl ?_);refine gLs 55 Try.func61 #[.bool ((decide (t150 > t153)) != t157)] ?_;(with_reducible refine (spec_l01Bit.calls ((decide (t150 > t153)) != t157) t158 _ A66.out).mono ?_);rintro e w' ⟨rfl,⟨nd,rfl⟩⟩;refine ⟨_,rfl,?_⟩))
      go_ret
      exact ⟨eRf,by repeat (first|(with_reducible first|exact HB.out|apply bwA|apply bwN|apply bw1|refine below_set ?_ GE144.out|refine below_set ?_ GE145.out|refine below_set ?_ GE151.out|refine below_set ?_ GE154.out)|exact HB.out)⟩
     ·rw [if_neg c64] at H
      have c64b0 : (t149 == t152) = false:=beq_eq_false_iff_ne.mpr c64
      have c64b1 : (t149 != t152) = true:=bne_iff_ne.mpr c64
      replace H:=Option.bind_eq_some_iff.mp H
      obtain ⟨t159,A900,H⟩:=H
      replace H : ((spec_l01Bit.f t159).bind fun t160 => (some (wrap64 ((wrap64 (2 * t160)) - 1)))) = some r:=H
      have A90:=aMk A900
      clear A900
      replace H:=Option.bind_eq_some_iff.mp H
      obtain ⟨t160,A910,H⟩:=H
      replace H : (some (wrap64 ((wrap64 (2 * t160)) - 1))) = some r:=H
      have A91:=aMk A910
      clear A910
      obtain rfl:=Option.some.inj H
      go_enter Try.func42,Try.ntmps42
      go_wp2_with (first|((with_reducible refine gate_dst (N:=2) rfl ?_);refine bxE (N:=2) (cs:=#[.int .i64 a0_0,.int .i64 a0_1]) (t:=31) ?_;intro gb144 hg w92 hbox hb;have n0_:=aMk (bSt hb);have n1_:=aMk (hbox);have n2_:=aMk ((by rw [hg];exact bSz : w.heap.size ≤ gb144));have n3_:=aMk ((by rw [hg];exact bSz : w.heap.size ≤ gb144));clear HB;have HB:=n0_;have BK144:=n1_;have GW144:=n2_;have GE144:=n3_;clear n0_ n1_ n2_ n3_;clear hb hbox hg)|((with_reducible refine gate_dst (N:=3) rfl ?_);refine bxE (N:=3) (cs:=#[.int .i64 a1_0,.int .i64 a1_1]) (t:=31) ?_;intro gb145 hg w93 hbox hb;have n0_:=aMk (bkB BK144.out hb);have n1_:=aMk (below_step (by repeat (first|(with_reducible first|exact HB.out|apply bwA|apply bwN|apply bw1|refine below_set ?_ GE144.out)|exact HB.out)) hb);have n2_:=aMk (hbox);have n3_:=aMk ((by rw [hg];exact (below_size (by repeat (first|(with_reducible first|exact HB.out|apply bwA|apply bwN|apply bw1|refine below_set ?_ GE144.out)|exact HB.out))) : w.heap.size ≤ gb145));have n4_:=aMk ((by rw [hg];exact (below_size (by repeat (first|(with_reducible first|exact HB.out|apply bwA|apply bwN|apply bw1|refine below_set ?_ GE144.out)|exact HB.out))) : w.heap.size ≤ gb145));have n5_:=aMk ((bkL BK144.out hg : gb144 ≠ gb145));have n6_:=aMk ((bkG BK144.out hg : gb145 ≠ gb144));clear BK144;clear HB;have BK144:=n0_;have HB:=n1_;have BK145:=n2_;have GW145:=n3_;have GE145:=n4_;have NB144_145:=n5_;have NB145_144:=n6_;clear n0_ n1_ n2_ n3_ n4_ n5_ n6_;clear hb hbox hg;have hnb94:=NB144_145.out;have hnc94:=NB145_144.out;obtain ⟨hcz95_0,hcz95_1,hfz95_0,hfz95_1⟩:=bC2 BK144.out)|((with_reducible refine gate_callee (f:=45) rfl ?_);refine gLs 11 Try.func45 #[.agg #[.int .i64 a0_0,.int .i64 a0_1]] ?_;(with_reducible refine (spec_l06Class.calls k a0_0 a0_1 t146 _ A3.out).mono ?_);rintro e w96 ⟨rfl,hb⟩;refine ⟨_,rfl,?_⟩;have n0_:=aMk (bkB BK144.out hb);have n1_:=aMk (bkB BK145.out hb);have n2_:=aMk (below_step (by repeat (first|(with_reducible first|exact HB.out|apply bwA|apply bwN|apply bw1|refine below_set ?_ GE144.out|refine below_set ?_ GE145.out)|exact HB.out)) hb);clear BK144;clear BK145;clear HB;have BK144:=n0_;have BK145:=n1_;have HB:=n2_;clear n0_ n1_ n2_;(try clear hb);(try clear hb2);(try clear hk);(try clear hi);obtain ⟨hcz97_0,hcz97_1,hfz97_0,hfz97_1⟩:=bC2 BK145.out)|((with_reducible refine gate_callee (f:=45) rfl ?_);refine gLs 13 Try.func45 #[.agg #[.int .i64 a1_0,.int .i64 a1_1]] ?_;(with_reducible refine (spec_l06Class.calls k a1_0 a1_1 t147 _ A4.out).mono ?_);rintro e w98 ⟨rfl,hb⟩;refine ⟨_,rfl,?_⟩;have n0_:=aMk (bkB BK144.out hb);have n1_:=aMk (bkB BK145.out hb);have n2_:=aMk (below_step (by repeat (first|(with_reducible first|exact HB.out|apply bwA|apply bwN|apply bw1|refine below_set ?_ GE144.out|refine below_set ?_ GE145.out)|exact HB.out)) hb);clear BK144;clear BK145;clear HB;have BK144:=n0_;have BK145:=n1_;have HB:=n2_;clear n0_ n1_ n2_;(try clear hb);(try clear hb2);(try clear hk);(try clear hi);obtain ⟨hcz99_0,hcz99_1,hfz99_0,hfz99_1⟩:=bC2 BK144.out)|((with_reducible refine gate_callee (f:=62) rfl ?_);refine gLs 26 Try.func62 #[.agg #[.int .i64 a0_0,.int .i64 a0_1]] ?_;(with_reducible refine (spec_l06Size.calls a0_0 a0_1 t149 t150 _ A14.out).mono ?_);rintro e w100 ⟨rfl,hb⟩;refine ⟨_,rfl,?_⟩;have n0_:=aMk (bkB BK144.out hb);have n1_:=aMk (bkB BK145.out hb);have n2_:=aMk (below_step (by repeat (first|(with_reducible first|exact HB.out|apply bwA|apply bwN|apply bw1|refine below_set ?_ GE144.out|refine below_set ?_ GE145.out)|exact HB.out)) hb);clear BK144;clear BK145;clear HB;have BK144:=n0_;have BK145:=n1_;have HB:=n2_;clear n0_ n1_ n2_;(try clear hb);(try clear hb2);(try clear hk);(try clear hi))|((with_reducible refine gate_dst (N:=7) rfl ?_);refine bxE (N:=7) (cs:=#[.int .i64 0,.int .i64 0]) (t:=31) ?_;intro gb151 hg w101 hbox hb;have n0_:=aMk (bkB BK144.out hb);have n1_:=aMk (bkB BK145.out hb);have n2_:=aMk (below_step (by repeat (first|(with_reducible first|exact HB.out|apply bwA|apply bwN|apply bw1|refine below_set ?_ GE144.out|refine below_set ?_ GE145.out)|exact HB.out)) hb);have n3_:=aMk (hbox);have n4_:=aMk ((by rw [hg];exact (below_size (by repeat (first|(with_reducible first|exact HB.out|apply bwA|apply bwN|apply bw1|refine below_set ?_ GE144.out|refine below_set ?_ GE145.out)|exact HB.out))) : w.heap.size ≤ gb151));have n5_:=aMk ((by rw [hg];exact (below_size (by repeat (first|(with_reducible first|exact HB.out|apply bwA|apply bwN|apply bw1|refine below_set ?_ GE144.out|refine below_set ?_ GE145.out)|exact HB.out))) : w.heap.size ≤ gb151));have n6_:=aMk ((bkL BK144.out hg : gb144 ≠ gb151));have n7_:=aMk ((bkG BK144.out hg : gb151 ≠ gb144));have n8_:=aMk ((bkL BK145.out hg : gb145 ≠ gb151));have n9_:=aMk ((bkG BK145.out hg : gb151 ≠ gb145));clear BK144;clear BK145;clear HB;have BK144:=n0_;have BK145:=n1_;have HB:=n2_;have BK151:=n3_;have GW151:=n4_;have GE151:=n5_;have NB144_151:=n6_;have NB151_144:=n7_;have NB145_151:=n8_;have NB151_145:=n9_;clear n0_ n1_ n2_ n3_ n4_ n5_ n6_ n7_ n8_ n9_;clear hb hbox hg;have hnb102:=NB151_144.out;have hnc102:=NB144_151.out;have hnb103:=NB151_145.out;have hnc103:=NB145_151.out;obtain ⟨hcz104_0,hcz104_1,hfz104_0,hfz104_1⟩:=bC2 BK151.out;obtain ⟨hcz105_0,hcz105_1,hfz105_0,hfz105_1⟩:=bC2 BK145.out)|((with_reducible refine gate_callee (f:=62) rfl ?_);refine gLs 28 Try.func62 #[.agg #[.int .i64 a1_0,.int .i64 a1_1]] ?_;(with_reducible refine (spec_l06Size.calls a1_0 a1_1 t152 t153 _ A15.out).mono ?_);rintro e w106 ⟨rfl,hb⟩;refine ⟨_,rfl,?_⟩;have n0_:=aMk (blk_below (g:=gb144) (o:=.cells #[.int .i64 a0_0,.int .i64 a0_1] 31 (0,0)) (by refine pB ?_;refine blk_far ?_ NB144_151.out _;refine pB ?_;refine blk_far ?_ NB144_151.out _;refine pB ?_;exact BK144.out) hb);have n1_:=aMk (blk_below (g:=gb145) (o:=.cells #[.int .i64 a1_0,.int .i64 a1_1] 31 (0,0)) (by refine pB ?_;refine blk_far ?_ NB145_151.out _;refine pB ?_;refine blk_far ?_ NB145_151.out _;refine pB ?_;exact BK145.out) hb);have n2_:=aMk (blk_below (g:=gb151) (o:=.cells #[.int .i64 t149,.int .i64 t150] 31 (0,0)) (by refine pB ?_;refine blk_put (cs:=#[.int .i64 t149,.int .i64 0]) ?_ 1 _ rfl;refine pB ?_;refine blk_put (cs:=#[.int .i64 0,.int .i64 0]) ?_ 0 _ rfl;refine pB ?_;exact BK151.out) hb);have n3_:=aMk (below_step (by repeat (first|(with_reducible first|exact HB.out|apply bwA|apply bwN|apply bw1|refine below_set ?_ GE144.out|refine below_set ?_ GE145.out|refine below_set ?_ GE151.out)|exact HB.out)) hb);clear BK144;clear BK145;clear BK151;clear HB;have BK144:=n0_;have BK145:=n1_;have BK151:=n2_;have HB:=n3_;clear n0_ n1_ n2_ n3_;(try clear hb);(try clear hb2);(try clear hk);(try clear hi))|((with_reducible refine gate_dst (N:=8) rfl ?_);refine bxE (N:=8) (cs:=#[.int .i64 0,.int .i64 0]) (t:=31) ?_;intro gb154 hg w107 hbox hb;have n0_:=aMk (bkB BK144.out hb);have n1_:=aMk (bkB BK145.out hb);have n2_:=aMk (bkB BK151.out hb);have n3_:=aMk (below_step (by repeat (first|(with_reducible first|exact HB.out|apply bwA|apply bwN|apply bw1|refine below_set ?_ GE144.out|refine below_set ?_ GE145.out|refine below_set ?_ GE151.out)|exact HB.out)) hb);have n4_:=aMk (hbox);have n5_:=aMk ((by rw [hg];exact (below_size (by repeat (first|(with_reducible first|exact HB.out|apply bwA|apply bwN|apply bw1|refine below_set ?_ GE144.out|refine below_set ?_ GE145.out|refine below_set ?_ GE151.out)|exact HB.out))) : w.heap.size ≤ gb154));have n6_:=aMk ((by rw [hg];exact (below_size (by repeat (first|(with_reducible first|exact HB.out|apply bwA|apply bwN|apply bw1|refine below_set ?_ GE144.out|refine below_set ?_ GE145.out|refine below_set ?_ GE151.out)|exact HB.out))) : w.heap.size ≤ gb154));have n7_:=aMk ((bkL BK144.out hg : gb144 ≠ gb154));have n8_:=aMk ((bkG BK144.out hg : gb154 ≠ gb144));have n9_:=aMk ((bkL BK145.out hg : gb145 ≠ gb154));have n10_:=aMk ((bkG BK145.out hg : gb154 ≠ gb145));have n11_:=aMk ((bkL BK151.out hg : gb151 ≠ gb154));have n12_:=aMk ((bkG BK151.out hg : gb154 ≠ gb151));clear BK144;clear BK145;clear BK151;clear HB;have BK144:=n0_;have BK145:=n1_;have BK151:=n2_;have HB:=n3_;have BK154:=n4_;have GW154:=n5_;have GE154:=n6_;have NB144_154:=n7_;have NB154_144:=n8_;have NB145_154:=n9_;have NB154_145:=n10_;have NB151_154:=n11_;have NB154_151:=n12_;clear n0_ n1_ n2_ n3_ n4_ n5_ n6_ n7_ n8_ n9_ n10_ n11_ n12_;clear hb hbox hg;have hnb108:=NB154_144.out;have hnc108:=NB144_154.out;have hnb109:=NB154_145.out;have hnc109:=NB145_154.out;have hnb110:=NB154_151.out;have hnc110:=NB151_154.out;obtain ⟨hcz111_0,hcz111_1,hfz111_0,hfz111_1⟩:=bC2 BK154.out;obtain ⟨hcz112_0,hcz112_1,hfz112_0,hfz112_1⟩:=bC2 BK151.out;obtain ⟨hcz113_0,hcz113_1,hfz113_0,hfz113_1⟩:=bC2 BK144.out)|((with_reducible refine gate_callee (f:=63) rfl ?_);refine gLs 53 Try.func63 #[.agg #[.int .i64 a0_0,.int .i64 a0_1]] ?_;(with_reducible refine (spec_l06Minus.calls a0_0 a0_1 t159 _ A90.out).mono ?_);rintro e w114 ⟨rfl,hb⟩;refine ⟨_,rfl,?_⟩;have n0_:=aMk (blk_below (g:=gb144) (o:=.cells #[.int .i64 a0_0,.int .i64 a0_1] 31 (0,0)) (by refine pB ?_;refine blk_far ?_ NB144_154.out _;refine pB ?_;refine blk_far ?_ NB144_154.out _;refine pB ?_;exact BK144.out) hb);have n1_:=aMk (blk_below (g:=gb145) (o:=.cells #[.int .i64 a1_0,.int .i64 a1_1] 31 (0,0)) (by refine pB ?_;refine blk_far ?_ NB145_154.out _;refine pB ?_;refine blk_far ?_ NB145_154.out _;refine pB ?_;exact BK145.out) hb);have n2_:=aMk (blk_below (g:=gb151) (o:=.cells #[.int .i64 t149,.int .i64 t150] 31 (0,0)) (by refine pB ?_;refine blk_far ?_ NB151_154.out _;refine pB ?_;refine blk_far ?_ NB151_154.out _;refine pB ?_;exact BK151.out) hb);have n3_:=aMk (blk_below (g:=gb154) (o:=.cells #[.int .i64 t152,.int .i64 t153] 31 (0,0)) (by refine pB ?_;refine blk_put (cs:=#[.int .i64 t152,.int .i64 0]) ?_ 1 _ rfl;refine pB ?_;refine blk_put (cs:=#[.int .i64 0,.int .i64 0]) ?_ 0 _ rfl;refine pB ?_;exact BK154.out) hb);have n4_:=aMk (below_step (by repeat (first|(with_reducible first|exact HB.out|apply bwA|apply bwN|apply bw1|refine below_set ?_ GE144.out|refine below_set ?_ GE145.out|refine below_set ?_ GE151.out|refine below_set ?_ GE154.out)|exact HB.out)) hb);clear BK144;clear BK145;clear BK151;clear BK154;clear HB;have BK144:=n0_;have BK145:=n1_;have BK151:=n2_;have BK154:=n3_;have HB:=n4_;clear n0_ n1_ n2_ n3_ n4_;(try clear hb);(try clear hb2);(try clear hk);(try clear hi))|((with_reducible refine gate_callee (f:=61) rfl ?_);refine gLs 55 Try.func61 #[.bool t159] ?_;(with_reducible refine (spec_l01Bit.calls t159 t160 _ A91.out).mono ?_);rintro e w' ⟨rfl,⟨nd,rfl⟩⟩;refine ⟨_,rfl,?_⟩))
      go_ret
      exact ⟨eRf,by repeat (first|(with_reducible first|exact HB.out|apply bwA|apply bwN|apply bw1|refine below_set ?_ GE144.out|refine below_set ?_ GE145.out|refine below_set ?_ GE151.out|refine below_set ?_ GE154.out)|exact HB.out)⟩
 ·rw [if_neg c5] at H
  have c5b0 : (t146 == t147) = false:=beq_eq_false_iff_ne.mpr c5
  have c5b1 : (t146 != t147) = true:=bne_iff_ne.mpr c5
  replace H:=Option.bind_eq_some_iff.mp H
  obtain ⟨t148,A1150,H⟩:=H
  replace H : (some (wrap64 ((wrap64 (2 * t148)) - 1))) = some r:=H
  have A115:=aMk A1150
  clear A1150
  obtain rfl:=Option.some.inj H
  go_enter Try.func42,Try.ntmps42
  go_wp2_with (first|((with_reducible refine gate_dst (N:=2) rfl ?_);refine bxE (N:=2) (cs:=#[.int .i64 a0_0,.int .i64 a0_1]) (t:=31) ?_;intro gb144 hg w116 hbox hb;have n0_:=aMk (bSt hb);have n1_:=aMk (hbox);have n2_:=aMk ((by rw [hg];exact bSz : w.heap.size ≤ gb144));have n3_:=aMk ((by rw [hg];exact bSz : w.heap.size ≤ gb144));clear HB;have HB:=n0_;have BK144:=n1_;have GW144:=n2_;have GE144:=n3_;clear n0_ n1_ n2_ n3_;clear hb hbox hg)|((with_reducible refine gate_dst (N:=3) rfl ?_);refine bxE (N:=3) (cs:=#[.int .i64 a1_0,.int .i64 a1_1]) (t:=31) ?_;intro gb145 hg w117 hbox hb;have n0_:=aMk (bkB BK144.out hb);have n1_:=aMk (below_step (by repeat (first|(with_reducible first|exact HB.out|apply bwA|apply bwN|apply bw1|refine below_set ?_ GE144.out)|exact HB.out)) hb);have n2_:=aMk (hbox);have n3_:=aMk ((by rw [hg];exact (below_size (by repeat (first|(with_reducible first|exact HB.out|apply bwA|apply bwN|apply bw1|refine below_set ?_ GE144.out)|exact HB.out))) : w.heap.size ≤ gb145));have n4_:=aMk ((by rw [hg];exact (below_size (by repeat (first|(with_reducible first|exact HB.out|apply bwA|apply bwN|apply bw1|refine below_set ?_ GE144.out)|exact HB.out))) : w.heap.size ≤ gb145));have n5_:=aMk ((bkL BK144.out hg : gb144 ≠ gb145));have n6_:=aMk ((bkG BK144.out hg : gb145 ≠ gb144));clear BK144;clear HB;have BK144:=n0_;have HB:=n1_;have BK145:=n2_;have GW145:=n3_;have GE145:=n4_;have NB144_145:=n5_;have NB145_144:=n6_;clear n0_ n1_ n2_ n3_ n4_ n5_ n6_;clear hb hbox hg;have hnb118:=NB144_145.out;have hnc118:=NB145_144.out;obtain ⟨hcz119_0,hcz119_1,hfz119_0,hfz119_1⟩:=bC2 BK144.out)|((with_reducible refine gate_callee (f:=45) rfl ?_);refine gLs 11 Try.func45 #[.agg #[.int .i64 a0_0,.int .i64 a0_1]] ?_;(with_reducible refine (spec_l06Class.calls k a0_0 a0_1 t146 _ A3.out).mono ?_);rintro e w120 ⟨rfl,hb⟩;refine ⟨_,rfl,?_⟩;have n0_:=aMk (bkB BK144.out hb);have n1_:=aMk (bkB BK145.out hb);have n2_:=aMk (below_step (by repeat (first|(with_reducible first|exact HB.out|apply bwA|apply bwN|apply bw1|refine below_set ?_ GE144.out|refine below_set ?_ GE145.out)|exact HB.out)) hb);clear BK144;clear BK145;clear HB;have BK144:=n0_;have BK145:=n1_;have HB:=n2_;clear n0_ n1_ n2_;(try clear hb);(try clear hb2);(try clear hk);(try clear hi);obtain ⟨hcz121_0,hcz121_1,hfz121_0,hfz121_1⟩:=bC2 BK145.out)|((with_reducible refine gate_callee (f:=45) rfl ?_);refine gLs 13 Try.func45 #[.agg #[.int .i64 a1_0,.int .i64 a1_1]] ?_;(with_reducible refine (spec_l06Class.calls k a1_0 a1_1 t147 _ A4.out).mono ?_);rintro e w122 ⟨rfl,hb⟩;refine ⟨_,rfl,?_⟩;have n0_:=aMk (bkB BK144.out hb);have n1_:=aMk (bkB BK145.out hb);have n2_:=aMk (below_step (by repeat (first|(with_reducible first|exact HB.out|apply bwA|apply bwN|apply bw1|refine below_set ?_ GE144.out|refine below_set ?_ GE145.out)|exact HB.out)) hb);clear BK144;clear BK145;clear HB;have BK144:=n0_;have BK145:=n1_;have HB:=n2_;clear n0_ n1_ n2_;(try clear hb);(try clear hb2);(try clear hk);(try clear hi))|((with_reducible refine gate_callee (f:=61) rfl ?_);refine gLs 20 Try.func61 #[.bool (decide (t146 > t147))] ?_;(with_reducible refine (spec_l01Bit.calls (decide (t146 > t147)) t148 _ A115.out).mono ?_);rintro e w' ⟨rfl,⟨nd,rfl⟩⟩;refine ⟨_,rfl,?_⟩))
  go_ret
  exact ⟨eRf,by repeat (first|(with_reducible first|exact HB.out|apply bwA|apply bwN|apply bw1|refine below_set ?_ GE144.out|refine below_set ?_ GE145.out)|exact HB.out)⟩
end
section
/-! ### spec_RateWord: function 16 -/
def spec_RateWord.f (k : Nat) (a0_0 : Int) (a0_1 : Int) : Option (ByteArray):=(spec_l06Word.f a0_0 a0_1).bind fun t208 => (if t208 = true then ((spec_l06Class.f k a0_0 a0_1).bind fun t209 => (if t209 = 0 then (some (⟨#[117,110,107,110,111,119,110]⟩ : ByteArray)) else (if t209 < 3 then (some (⟨#[119,114,111,110,103]⟩ : ByteArray)) else (if t209 ≤ 4 then (some (⟨#[105,100,108,101]⟩ : ByteArray)) else (if t209 = 6 then (some (⟨#[101,110,100,108,101,115,115]⟩ : ByteArray)) else ((spec_l06Order.f k a0_0 a0_1 1083129856 0).bind fun t210 => (if t210 < 0 then (some (⟨#[115,108,111,119]⟩ : ByteArray)) else (some (⟨#[102,97,115,116]⟩ : ByteArray))))))))) else (some (⟨#[]⟩ : ByteArray)))
theorem spec_RateWord.mono : ∀ a0 a1 k,LeO (spec_RateWord.f k a0 a1) (spec_RateWord.f (k + 1) a0 a1):=by
 intro a0 a1 k
 unfold spec_RateWord.f
 repeat' first
   | (with_reducible exact spec_l06Class.mono ..)
   | (with_reducible exact spec_l06Order.mono ..)
   | (with_reducible exact LeO.refl _)
   | (with_reducible exact LeO.none _)
   | (with_reducible refine LeO.ite ?_ ?_)
   | (with_reducible refine LeO.bind ?_ (fun _ => ?_))
   | exact spec_l06Class.mono ..
   | exact spec_l06Order.mono ..
   | exact LeO.none _
   | refine LeO.ite ?_ ?_
   | refine LeO.bind ?_ (fun _ => ?_)
set_option maxHeartbeats 8000000 in
set_option maxRecDepth 100000 in
theorem spec_RateWord.calls (k : Nat) (a0_0 : Int) (a0_1 : Int) (r : ByteArray) (w : World) (h : spec_RateWord.f k a0_0 a0_1 = some r) :
  Calls Try.prog 16 #[.agg #[.int .i64 a0_0,.int .i64 a0_1]] w fun e w' => e = .returned (.string r) ∧ Below w.heap.size w w':=by
 have hu31:=Try.underlying31
 have HB:=aMk (Below.refl w.heap.size w)
 have H : ((spec_l06Word.f a0_0 a0_1).bind fun t208 => (if t208 = true then ((spec_l06Class.f k a0_0 a0_1).bind fun t209 => (if t209 = 0 then (some (⟨#[117,110,107,110,111,119,110]⟩ : ByteArray)) else (if t209 < 3 then (some (⟨#[119,114,111,110,103]⟩ : ByteArray)) else (if t209 ≤ 4 then (some (⟨#[105,100,108,101]⟩ : ByteArray)) else (if t209 = 6 then (some (⟨#[101,110,100,108,101,115,115]⟩ : ByteArray)) else ((spec_l06Order.f k a0_0 a0_1 1083129856 0).bind fun t210 => (if t210 < 0 then (some (⟨#[115,108,111,119]⟩ : ByteArray)) else (some (⟨#[102,97,115,116]⟩ : ByteArray))))))))) else (some (⟨#[]⟩ : ByteArray)))) = some r:=h
 clear h
 replace H:=Option.bind_eq_some_iff.mp H
 obtain ⟨t208,A20,H⟩:=H
 replace H : (if t208 = true then ((spec_l06Class.f k a0_0 a0_1).bind fun t209 => (if t209 = 0 then (some (⟨#[117,110,107,110,111,119,110]⟩ : ByteArray)) else (if t209 < 3 then (some (⟨#[119,114,111,110,103]⟩ : ByteArray)) else (if t209 ≤ 4 then (some (⟨#[105,100,108,101]⟩ : ByteArray)) else (if t209 = 6 then (some (⟨#[101,110,100,108,101,115,115]⟩ : ByteArray)) else ((spec_l06Order.f k a0_0 a0_1 1083129856 0).bind fun t210 => (if t210 < 0 then (some (⟨#[115,108,111,119]⟩ : ByteArray)) else (some (⟨#[102,97,115,116]⟩ : ByteArray))))))))) else (some (⟨#[]⟩ : ByteArray))) = some r:=H
 have A2:=aMk A20
 clear A20
 by_cases c3 : t208 = true
 ·subst c3
  have H1 : ((spec_l06Class.f k a0_0 a0_1).bind fun t209 => (if t209 = 0 then (some (⟨#[117,110,107,110,111,119,110]⟩ : ByteArray)) else (if t209 < 3 then (some (⟨#[119,114,111,110,103]⟩ : ByteArray)) else (if t209 ≤ 4 then (some (⟨#[105,100,108,101]⟩ : ByteArray)) else (if t209 = 6 then (some (⟨#[101,110,100,108,101,115,115]⟩ : ByteArray)) else ((spec_l06Order.f k a0_0 a0_1 1083129856 0).bind fun t210 => (if t210 < 0 then (some (⟨#[115,108,111,119]⟩ : ByteArray)) else (some (⟨#[102,97,115,116]⟩ : ByteArray))))))))) = some r:=by rw [if_pos rfl] at H;exact H
  clear H
  have H:=H1
  clear H1
  replace H:=Option.bind_eq_some_iff.mp H
  obtain ⟨t209,A40,H⟩:=H
  replace H : (if t209 = 0 then (some (⟨#[117,110,107,110,111,119,110]⟩ : ByteArray)) else (if t209 < 3 then (some (⟨#[119,114,111,110,103]⟩ : ByteArray)) else (if t209 ≤ 4 then (some (⟨#[105,100,108,101]⟩ : ByteArray)) else (if t209 = 6 then (some (⟨#[101,110,100,108,101,115,115]⟩ : ByteArray)) else ((spec_l06Order.f k a0_0 a0_1 1083129856 0).bind fun t210 => (if t210 < 0 then (some (⟨#[115,108,111,119]⟩ : ByteArray)) else (some (⟨#[102,97,115,116]⟩ : ByteArray)))))))) = some r:=H
  have A4:=aMk A40
  clear A40
  by_cases c5 : t209 = 0
  ·rw [if_pos c5] at H
   have c5b0 : (t209 == 0) = true:=beq_iff_eq.mpr c5
   have c5b1 : (t209 != 0) = false:=bne_eq_false_iff_eq.mpr c5
   clear c5
   obtain rfl:=Option.some.inj H
   go_enter Try.func16,Try.ntmps16
   go_wp2_with (first|((with_reducible refine gate_dst (N:=1) rfl ?_);refine bxE (N:=1) (cs:=#[.int .i64 a0_0,.int .i64 a0_1]) (t:=31) ?_;intro gb207 hg w6 hbox hb;have n0_:=aMk (bSt hb);have n1_:=aMk (hbox);have n2_:=aMk ((by rw [hg];exact bSz : w.heap.size ≤ gb207));have n3_:=aMk ((by rw [hg];exact bSz : w.heap.size ≤ gb207));clear HB;have HB:=n0_;have BK207:=n1_;have GW207:=n2_;have GE207:=n3_;clear n0_ n1_ n2_ n3_;clear hb hbox hg;obtain ⟨hcz7_0,hcz7_1,hfz7_0,hfz7_1⟩:=bC2 BK207.out)|((with_reducible refine gate_callee (f:=41) rfl ?_);refine gLs 5 Try.func41 #[.agg #[.int .i64 a0_0,.int .i64 a0_1]] ?_;(with_reducible refine (spec_l06Word.calls a0_0 a0_1 true _ A2.out).mono ?_);rintro e w8 ⟨rfl,hb⟩;refine ⟨_,rfl,?_⟩;have n0_:=aMk (bkB BK207.out hb);have n1_:=aMk (below_step (by repeat (first|(with_reducible first|exact HB.out|apply bwA|apply bwN|apply bw1|refine below_set ?_ GE207.out)|exact HB.out)) hb);clear BK207;clear HB;have BK207:=n0_;have HB:=n1_;clear n0_ n1_;(try clear hb);(try clear hb2);(try clear hk);(try clear hi);obtain ⟨hcz9_0,hcz9_1,hfz9_0,hfz9_1⟩:=bC2 BK207.out)|((with_reducible refine gate_callee (f:=45) rfl ?_);refine gLs 8 Try.func45 #[.agg #[.int .i64 a0_0,.int .i64 a0_1]] ?_;(with_reducible refine (spec_l06Class.calls k a0_0 a0_1 t209 _ A4.out).mono ?_);rintro e w10 ⟨rfl,hb⟩;refine ⟨_,rfl,?_⟩;have n0_:=aMk (bkB BK207.out hb);have n1_:=aMk (below_step (by repeat (first|(with_reducible first|exact HB.out|apply bwA|apply bwN|apply bw1|refine below_set ?_ GE207.out)|exact HB.out)) hb);clear BK207;clear HB;have BK207:=n0_;have HB:=n1_;clear n0_ n1_;(try clear hb);(try clear hb2);(try clear hk);(try clear hi)))
   go_ret
   exact ⟨eRf,by repeat (first|(with_reducible first|exact HB.out|apply bwA|apply bwN|apply bw1|refine below_set ?_ GE207.out)|exact HB.out)⟩
  ·rw [if_neg c5] at H
   have c5b0 : (t209 == 0) = false:=beq_eq_false_iff_ne.mpr c5
   have c5b1 : (t209 != 0) = true:=bne_iff_ne.mpr c5
   by_cases c11 : t209 < 3
   ·rw [if_pos c11] at H
    have c11b0 : decide (t209 < 3) = true:=decide_eq_true c11
    clear c11
    obtain rfl:=Option.some.inj H
    go_enter Try.func16,Try.ntmps16
    go_wp2_with (first|((with_reducible refine gate_dst (N:=1) rfl ?_);refine bxE (N:=1) (cs:=#[.int .i64 a0_0,.int .i64 a0_1]) (t:=31) ?_;intro gb207 hg w12 hbox hb;have n0_:=aMk (bSt hb);have n1_:=aMk (hbox);have n2_:=aMk ((by rw [hg];exact bSz : w.heap.size ≤ gb207));have n3_:=aMk ((by rw [hg];exact bSz : w.heap.size ≤ gb207));clear HB;have HB:=n0_;have BK207:=n1_;have GW207:=n2_;have GE207:=n3_;clear n0_ n1_ n2_ n3_;clear hb hbox hg;obtain ⟨hcz13_0,hcz13_1,hfz13_0,hfz13_1⟩:=bC2 BK207.out)|((with_reducible refine gate_callee (f:=41) rfl ?_);refine gLs 5 Try.func41 #[.agg #[.int .i64 a0_0,.int .i64 a0_1]] ?_;(with_reducible refine (spec_l06Word.calls a0_0 a0_1 true _ A2.out).mono ?_);rintro e w14 ⟨rfl,hb⟩;refine ⟨_,rfl,?_⟩;have n0_:=aMk (bkB BK207.out hb);have n1_:=aMk (below_step (by repeat (first|(with_reducible first|exact HB.out|apply bwA|apply bwN|apply bw1|refine below_set ?_ GE207.out)|exact HB.out)) hb);clear BK207;clear HB;have BK207:=n0_;have HB:=n1_;clear n0_ n1_;(try clear hb);(try clear hb2);(try clear hk);(try clear hi);obtain ⟨hcz15_0,hcz15_1,hfz15_0,hfz15_1⟩:=bC2 BK207.out)|((with_reducible refine gate_callee (f:=45) rfl ?_);refine gLs 8 Try.func45 #[.agg #[.int .i64 a0_0,.int .i64 a0_1]] ?_;(with_reducible refine (spec_l06Class.calls k a0_0 a0_1 t209 _ A4.out).mono ?_);rintro e w16 ⟨rfl,hb⟩;refine ⟨_,rfl,?_⟩;have n0_:=aMk (bkB BK207.out hb);have n1_:=aMk (below_step (by repeat (first|(with_reducible first|exact HB.out|apply bwA|apply bwN|apply bw1|refine below_set ?_ GE207.out)|exact HB.out)) hb);clear BK207;clear HB;have BK207:=n0_;have HB:=n1_;clear n0_ n1_;(try clear hb);(try clear hb2);(try clear hk);(try clear hi)))
    go_ret
    exact ⟨eRf,by repeat (first|(with_reducible first|exact HB.out|apply bwA|apply bwN|apply bw1|refine below_set ?_ GE207.out)|exact HB.out)⟩
   ·rw [if_neg c11] at H
    have c11b0 : decide (t209 < 3) = false:=decide_eq_false c11
    clear c11
    by_cases c17 : t209 ≤ 4
    ·rw [if_pos c17] at H
     have c17b0 : decide (t209 ≤ 4) = true:=decide_eq_true c17
     clear c17
     obtain rfl:=Option.some.inj H
     go_enter Try.func16,Try.ntmps16
     go_wp2_with (first|((with_reducible refine gate_dst (N:=1) rfl ?_);refine bxE (N:=1) (cs:=#[.int .i64 a0_0,.int .i64 a0_1]) (t:=31) ?_;intro gb207 hg w18 hbox hb;have n0_:=aMk (bSt hb);have n1_:=aMk (hbox);have n2_:=aMk ((by rw [hg];exact bSz : w.heap.size ≤ gb207));have n3_:=aMk ((by rw [hg];exact bSz : w.heap.size ≤ gb207));clear HB;have HB:=n0_;have BK207:=n1_;have GW207:=n2_;have GE207:=n3_;clear n0_ n1_ n2_ n3_;clear hb hbox hg;obtain ⟨hcz19_0,hcz19_1,hfz19_0,hfz19_1⟩:=bC2 BK207.out)|((with_reducible refine gate_callee (f:=41) rfl ?_);refine gLs 5 Try.func41 #[.agg #[.int .i64 a0_0,.int .i64 a0_1]] ?_;(with_reducible refine (spec_l06Word.calls a0_0 a0_1 true _ A2.out).mono ?_);rintro e w20 ⟨rfl,hb⟩;refine ⟨_,rfl,?_⟩;have n0_:=aMk (bkB BK207.out hb);have n1_:=aMk (below_step (by repeat (first|(with_reducible first|exact HB.out|apply bwA|apply bwN|apply bw1|refine below_set ?_ GE207.out)|exact HB.out)) hb);clear BK207;clear HB;have BK207:=n0_;have HB:=n1_;clear n0_ n1_;(try clear hb);(try clear hb2);(try clear hk);(try clear hi);obtain ⟨hcz21_0,hcz21_1,hfz21_0,hfz21_1⟩:=bC2 BK207.out)|((with_reducible refine gate_callee (f:=45) rfl ?_);refine gLs 8 Try.func45 #[.agg #[.int .i64 a0_0,.int .i64 a0_1]] ?_;(with_reducible refine (spec_l06Class.calls k a0_0 a0_1 t209 _ A4.out).mono ?_);rintro e w22 ⟨rfl,hb⟩;refine ⟨_,rfl,?_⟩;have n0_:=aMk (bkB BK207.out hb);have n1_:=aMk (below_step (by repeat (first|(with_reducible first|exact HB.out|apply bwA|apply bwN|apply bw1|refine below_set ?_ GE207.out)|exact HB.out)) hb);clear BK207;clear HB;have BK207:=n0_;have HB:=n1_;clear n0_ n1_;(try clear hb);(try clear hb2);(try clear hk);(try clear hi)))
     go_ret
     exact ⟨eRf,by repeat (first|(with_reducible first|exact HB.out|apply bwA|apply bwN|apply bw1|refine below_set ?_ GE207.out)|exact HB.out)⟩
    ·rw [if_neg c17] at H
     have c17b0 : decide (t209 ≤ 4) = false:=decide_eq_false c17
     clear c17
     by_cases c23 : t209 = 6
     ·rw [if_pos c23] at H
      have c23b0 : (t209 == 6) = true:=beq_iff_eq.mpr c23
      have c23b1 : (t209 != 6) = false:=bne_eq_false_iff_eq.mpr c23
      clear c23
      obtain rfl:=Option.some.inj H
      go_enter Try.func16,Try.ntmps16
      go_wp2_with (first|((with_reducible refine gate_dst (N:=1) rfl ?_);refine bxE (N:=1) (cs:=#[.int .i64 a0_0,.int .i64 a0_1]) (t:=31) ?_;intro gb207 hg w24 hbox hb;have n0_:=aMk (bSt hb);have n1_:=aMk (hbox);have n2_:=aMk ((by rw [hg];exact bSz : w.heap.size ≤ gb207));have n3_:=aMk ((by rw [hg];exact bSz : w.heap.size ≤ gb207));clear HB;have HB:=n0_;have BK207:=n1_;have GW207:=n2_;have GE207:=n3_;clear n0_ n1_ n2_ n3_;clear hb hbox hg;obtain ⟨hcz25_0,hcz25_1,hfz25_0,hfz25_1⟩:=bC2 BK207.out)|((with_reducible refine gate_callee (f:=41) rfl ?_);refine gLs 5 Try.func41 #[.agg #[.int .i64 a0_0,.int .i64 a0_1]] ?_;(with_reducible refine (spec_l06Word.calls a0_0 a0_1 true _ A2.out).mono ?_);rintro e w26 ⟨rfl,hb⟩;refine ⟨_,rfl,?_⟩;have n0_:=aMk (bkB BK207.out hb);have n1_:=aMk (below_step (by repeat (first|(with_reducible first|exact HB.out|apply bwA|apply bwN|apply bw1|refine below_set ?_ GE207.out)|exact HB.out)) hb);clear BK207;clear HB;have BK207:=n0_;have HB:=n1_;clear n0_ n1_;(try clear hb);(try clear hb2);(try clear hk);(try clear hi);obtain ⟨hcz27_0,hcz27_1,hfz27_0,hfz27_1⟩:=bC2 BK207.out)|((with_reducible refine gate_callee (f:=45) rfl ?_);refine gLs 8 Try.func45 #[.agg #[.int .i64 a0_0,.int .i64 a0_1]] ?_;(with_reducible refine (spec_l06Class.calls k a0_0 a0_1 t209 _ A4.out).mono ?_);rintro e w28 ⟨rfl,hb⟩;refine ⟨_,rfl,?_⟩;have n0_:=aMk (bkB BK207.out hb);have n1_:=aMk (below_step (by repeat (first|(with_reducible first|exact HB.out|apply bwA|apply bwN|apply bw1|refine below_set ?_ GE207.out)|exact HB.out)) hb);clear BK207;clear HB;have BK207:=n0_;have HB:=n1_;clear n0_ n1_;(try clear hb);(try clear hb2);(try clear hk);(try clear hi)))
      go_ret
      exact ⟨eRf,by repeat (first|(with_reducible first|exact HB.out|apply bwA|apply bwN|apply bw1|refine below_set ?_ GE207.out)|exact HB.out)⟩
     ·rw [if_neg c23] at H
      have c23b0 : (t209 == 6) = false:=beq_eq_false_iff_ne.mpr c23
      have c23b1 : (t209 != 6) = true:=bne_iff_ne.mpr c23
      replace H:=Option.bind_eq_some_iff.mp H
      obtain ⟨t210,A290,H⟩:=H
      replace H : (if t210 < 0 then (some (⟨#[115,108,111,119]⟩ : ByteArray)) else (some (⟨#[102,97,115,116]⟩ : ByteArray))) = some r:=H
      have A29:=aMk A290
      clear A290
      by_cases c30 : t210 < 0
      ·rw [if_pos c30] at H
       have c30b0 : decide (t210 < 0) = true:=decide_eq_true c30
       clear c30
       obtain rfl:=Option.some.inj H
       go_enter Try.func16,Try.ntmps16
       go_wp2_with (first|((with_reducible refine gate_dst (N:=1) rfl ?_);refine bxE (N:=1) (cs:=#[.int .i64 a0_0,.int .i64 a0_1]) (t:=31) ?_;intro gb207 hg w31 hbox hb;have n0_:=aMk (bSt hb);have n1_:=aMk (hbox);have n2_:=aMk ((by rw [hg];exact bSz : w.heap.size ≤ gb207));have n3_:=aMk ((by rw [hg];exact bSz : w.heap.size ≤ gb207));clear HB;have HB:=n0_;have BK207:=n1_;have GW207:=n2_;have GE207:=n3_;clear n0_ n1_ n2_ n3_;clear hb hbox hg;obtain ⟨hcz32_0,hcz32_1,hfz32_0,hfz32_1⟩:=bC2 BK207.out)|((with_reducible refine gate_callee (f:=41) rfl ?_);refine gLs 5 Try.func41 #[.agg #[.int .i64 a0_0,.int .i64 a0_1]] ?_;(with_reducible refine (spec_l06Word.calls a0_0 a0_1 true _ A2.out).mono ?_);rintro e w33 ⟨rfl,hb⟩;refine ⟨_,rfl,?_⟩;have n0_:=aMk (bkB BK207.out hb);have n1_:=aMk (below_step (by repeat (first|(with_reducible first|exact HB.out|apply bwA|apply bwN|apply bw1|refine below_set ?_ GE207.out)|exact HB.out)) hb);clear BK207;clear HB;have BK207:=n0_;have HB:=n1_;clear n0_ n1_;(try clear hb);(try clear hb2);(try clear hk);(try clear hi);obtain ⟨hcz34_0,hcz34_1,hfz34_0,hfz34_1⟩:=bC2 BK207.out)|((with_reducible refine gate_callee (f:=45) rfl ?_);refine gLs 8 Try.func45 #[.agg #[.int .i64 a0_0,.int .i64 a0_1]] ?_;(with_reducible refine (spec_l06Class.calls k a0_0 a0_1 t209 _ A4.out).mono ?_);rintro e w35 ⟨rfl,hb⟩;refine ⟨_,rfl,?_⟩;have n0_:=aMk (bkB BK207.out hb);have n1_:=aMk (below_step (by repeat (first|(with_reducible first|exact HB.out|apply bwA|apply bwN|apply bw1|refine below_set ?_ GE207.out)|exact HB.out)) hb);clear BK207;clear HB;have BK207:=n0_;have HB:=n1_;clear n0_ n1_;(try clear hb);(try clear hb2);(try clear hk);(try clear hi);obtain ⟨hcz36_0,hcz36_1,hfz36_0,hfz36_1⟩:=bC2 BK207.out)|((with_reducible refine gate_callee (f:=42) rfl ?_);refine gLs 24 Try.func42 #[.agg #[.int .i64 a0_0,.int .i64 a0_1],.agg #[.int .i64 1083129856,.int .i64 0]] ?_;(with_reducible refine (spec_l06Order.calls k a0_0 a0_1 1083129856 0 t210 _ A29.out).mono ?_);rintro e w37 ⟨rfl,hb⟩;refine ⟨_,rfl,?_⟩;have n0_:=aMk (bkB BK207.out hb);have n1_:=aMk (below_step (by repeat (first|(with_reducible first|exact HB.out|apply bwA|apply bwN|apply bw1|refine below_set ?_ GE207.out)|exact HB.out)) hb);clear BK207;clear HB;have BK207:=n0_;have HB:=n1_;clear n0_ n1_;(try clear hb);(try clear hb2);(try clear hk);(try clear hi)))
       go_ret
       exact ⟨eRf,by repeat (first|(with_reducible first|exact HB.out|apply bwA|apply bwN|apply bw1|refine below_set ?_ GE207.out)|exact HB.out)⟩
      ·rw [if_neg c30] at H
       have c30b0 : decide (t210 < 0) = false:=decide_eq_false c30
       clear c30
       obtain rfl:=Option.some.inj H
       go_enter Try.func16,Try.ntmps16
       go_wp2_with (first|((with_reducible refine gate_dst (N:=1) rfl ?_);refine bxE (N:=1) (cs:=#[.int .i64 a0_0,.int .i64 a0_1]) (t:=31) ?_;intro gb207 hg w38 hbox hb;have n0_:=aMk (bSt hb);have n1_:=aMk (hbox);have n2_:=aMk ((by rw [hg];exact bSz : w.heap.size ≤ gb207));have n3_:=aMk ((by rw [hg];exact bSz : w.heap.size ≤ gb207));clear HB;have HB:=n0_;have BK207:=n1_;have GW207:=n2_;have GE207:=n3_;clear n0_ n1_ n2_ n3_;clear hb hbox hg;obtain ⟨hcz39_0,hcz39_1,hfz39_0,hfz39_1⟩:=bC2 BK207.out)|((with_reducible refine gate_callee (f:=41) rfl ?_);refine gLs 5 Try.func41 #[.agg #[.int .i64 a0_0,.int .i64 a0_1]] ?_;(with_reducible refine (spec_l06Word.calls a0_0 a0_1 true _ A2.out).mono ?_);rintro e w40 ⟨rfl,hb⟩;refine ⟨_,rfl,?_⟩;have n0_:=aMk (bkB BK207.out hb);have n1_:=aMk (below_step (by repeat (first|(with_reducible first|exact HB.out|apply bwA|apply bwN|apply bw1|refine below_set ?_ GE207.out)|exact HB.out)) hb);clear BK207;clear HB;have BK207:=n0_;have HB:=n1_;clear n0_ n1_;(try clear hb);(try clear hb2);(try clear hk);(try clear hi);obtain ⟨hcz41_0,hcz41_1,hfz41_0,hfz41_1⟩:=bC2 BK207.out)|((with_reducible refine gate_callee (f:=45) rfl ?_);refine gLs 8 Try.func45 #[.agg #[.int .i64 a0_0,.int .i64 a0_1]] ?_;(with_reducible refine (spec_l06Class.calls k a0_0 a0_1 t209 _ A4.out).mono ?_);rintro e w42 ⟨rfl,hb⟩;refine ⟨_,rfl,?_⟩;have n0_:=aMk (bkB BK207.out hb);have n1_:=aMk (below_step (by repeat (first|(with_reducible first|exact HB.out|apply bwA|apply bwN|apply bw1|refine below_set ?_ GE207.out)|exact HB.out)) hb);clear BK207;clear HB;have BK207:=n0_;have HB:=n1_;clear n0_ n1_;(try clear hb);(try clear hb2);(try clear hk);(try clear hi);obtain ⟨hcz43_0,hcz43_1,hfz43_0,hfz43_1⟩:=bC2 BK207.out)|((with_reducible refine gate_callee (f:=42) rfl ?_);refine gLs 24 Try.func42 #[.agg #[.int .i64 a0_0,.int .i64 a0_1],.agg #[.int .i64 1083129856,.int .i64 0]] ?_;(with_reducible refine (spec_l06Order.calls k a0_0 a0_1 1083129856 0 t210 _ A29.out).mono ?_);rintro e w44 ⟨rfl,hb⟩;refine ⟨_,rfl,?_⟩;have n0_:=aMk (bkB BK207.out hb);have n1_:=aMk (below_step (by repeat (first|(with_reducible first|exact HB.out|apply bwA|apply bwN|apply bw1|refine below_set ?_ GE207.out)|exact HB.out)) hb);clear BK207;clear HB;have BK207:=n0_;have HB:=n1_;clear n0_ n1_;(try clear hb);(try clear hb2);(try clear hk);(try clear hi)))
       go_ret
       exact ⟨eRf,by repeat (first|(with_reducible first|exact HB.out|apply bwA|apply bwN|apply bw1|refine below_set ?_ GE207.out)|exact HB.out)⟩
 ·replace c3:=Bool.eq_false_iff.mpr c3
  subst c3
  have H1 : (some (⟨#[]⟩ : ByteArray)) = some r:=by rw [if_neg (show ¬ (false = true) by decide)] at H;exact H
  clear H
  have H:=H1
  clear H1
  obtain rfl:=Option.some.inj H
  go_enter Try.func16,Try.ntmps16
  go_wp2_with (first|((with_reducible refine gate_dst (N:=1) rfl ?_);refine bxE (N:=1) (cs:=#[.int .i64 a0_0,.int .i64 a0_1]) (t:=31) ?_;intro gb207 hg w45 hbox hb;have n0_:=aMk (bSt hb);have n1_:=aMk (hbox);have n2_:=aMk ((by rw [hg];exact bSz : w.heap.size ≤ gb207));have n3_:=aMk ((by rw [hg];exact bSz : w.heap.size ≤ gb207));clear HB;have HB:=n0_;have BK207:=n1_;have GW207:=n2_;have GE207:=n3_;clear n0_ n1_ n2_ n3_;clear hb hbox hg;obtain ⟨hcz46_0,hcz46_1,hfz46_0,hfz46_1⟩:=bC2 BK207.out)|((with_reducible refine gate_callee (f:=41) rfl ?_);refine gLs 5 Try.func41 #[.agg #[.int .i64 a0_0,.int .i64 a0_1]] ?_;(with_reducible refine (spec_l06Word.calls a0_0 a0_1 false _ A2.out).mono ?_);rintro e w47 ⟨rfl,hb⟩;refine ⟨_,rfl,?_⟩;have n0_:=aMk (bkB BK207.out hb);have n1_:=aMk (below_step (by repeat (first|(with_reducible first|exact HB.out|apply bwA|apply bwN|apply bw1|refine below_set ?_ GE207.out)|exact HB.out)) hb);clear BK207;clear HB;have BK207:=n0_;have HB:=n1_;clear n0_ n1_;(try clear hb);(try clear hb2);(try clear hk);(try clear hi)))
  go_ret
  exact ⟨eRf,by repeat (first|(with_reducible first|exact HB.out|apply bwA|apply bwN|apply bw1|refine below_set ?_ GE207.out)|exact HB.out)⟩
end
section
/-! ### impl_RateWord: function 17 -/
mutual
def impl_RateWord.j0 : Nat → Int → Bool → Int → Int → Option (ByteArray)
 | 0,_,_,_,_ => none
 | k + 1,x7,x10,x212000,x212001 => if x10 = true then (some (⟨#[119,114,111,110,103]⟩ : ByteArray)) else (if x7 = 3 then (impl_RateWord.j1 k x7 (x7 == 3) x212000 x212001) else (impl_RateWord.j1 k x7 (x7 == 4) x212000 x212001))
def impl_RateWord.j1 : Nat → Int → Bool → Int → Int → Option (ByteArray)
 | 0,_,_,_,_ => none
 | k + 1,x7,x13,x212000,x212001 => if x13 = true then (some (⟨#[105,100,108,101]⟩ : ByteArray)) else (if x7 = 6 then (some (⟨#[101,110,100,108,101,115,115]⟩ : ByteArray)) else ((impl_Word_order.f k x212000 x212001 1083129856 0).bind fun t214 => (if t214 < 0 then (some (⟨#[115,108,111,119]⟩ : ByteArray)) else (some (⟨#[102,97,115,116]⟩ : ByteArray)))))
end
def impl_RateWord.f (k : Nat) (a0_0 : Int) (a0_1 : Int) : Option (ByteArray):=(impl_wordOK.f a0_0 a0_1).bind fun t212 => (if t212 = true then ((impl_Word_class.f a0_0 a0_1).bind fun t213 => (if t213 = 0 then (some (⟨#[117,110,107,110,111,119,110]⟩ : ByteArray)) else (if t213 = 1 then (impl_RateWord.j0 k t213 (t213 == 1) a0_0 a0_1) else (impl_RateWord.j0 k t213 (t213 == 2) a0_0 a0_1)))) else (some (⟨#[]⟩ : ByteArray)))
theorem impl_RateWord.mono_l : ∀ k,(∀ y0 y1 y2 y3,LeO (impl_RateWord.j0 k y0 y1 y2 y3) (impl_RateWord.j0 (k + 1) y0 y1 y2 y3)) ∧ (∀ y0 y1 y2 y3,LeO (impl_RateWord.j1 k y0 y1 y2 y3) (impl_RateWord.j1 (k + 1) y0 y1 y2 y3))
 | 0 => ⟨fun _ _ _ _ r h => by simp [impl_RateWord.j0] at h,fun _ _ _ _ r h => by simp [impl_RateWord.j1] at h⟩
 | k + 1 => by
  obtain ⟨ih0,ih1⟩:=impl_RateWord.mono_l k
  refine ⟨?_,?_⟩
  ·intro y0 y1 y2 y3
   unfold impl_RateWord.j0
   repeat' first
   | (with_reducible exact ih0 _ _ _ _)
   | (with_reducible exact ih1 _ _ _ _)
   | (with_reducible exact impl_Word_order.mono ..)
   | (with_reducible exact LeO.refl _)
   | (with_reducible exact LeO.none _)
   | (with_reducible refine LeO.ite ?_ ?_)
   | (with_reducible refine LeO.bind ?_ (fun _ => ?_))
   | exact ih0 _ _ _ _
   | exact ih1 _ _ _ _
   | exact impl_Word_order.mono ..
   | exact LeO.none _
   | refine LeO.ite ?_ ?_
   | refine LeO.bind ?_ (fun _ => ?_)
  ·intro y0 y1 y2 y3
   unfold impl_RateWord.j1
   repeat' first
   | (with_reducible exact ih0 _ _ _ _)
   | (with_reducible exact ih1 _ _ _ _)
   | (with_reducible exact impl_Word_order.mono ..)
   | (with_reducible exact LeO.refl _)
   | (with_reducible exact LeO.none _)
   | (with_reducible refine LeO.ite ?_ ?_)
   | (with_reducible refine LeO.bind ?_ (fun _ => ?_))
   | exact ih0 _ _ _ _
   | exact ih1 _ _ _ _
   | exact impl_Word_order.mono ..
   | exact LeO.none _
   | refine LeO.ite ?_ ?_
   | refine LeO.bind ?_ (fun _ => ?_)
theorem impl_RateWord.mono : ∀ a0 a1 k,LeO (impl_RateWord.f k a0 a1) (impl_RateWord.f (k + 1) a0 a1):=by
 intro a0 a1 k
 obtain ⟨ih0,ih1⟩:=impl_RateWord.mono_l k
 unfold impl_RateWord.f
 repeat' first
   | (with_reducible exact ih0 _ _ _ _)
   | (with_reducible exact ih1 _ _ _ _)
   | (with_reducible exact impl_Word_order.mono ..)
   | (with_reducible exact LeO.refl _)
   | (with_reducible exact LeO.none _)
   | (with_reducible refine LeO.ite ?_ ?_)
   | (with_reducible refine LeO.bind ?_ (fun _ => ?_))
   | exact ih0 _ _ _ _
   | exact ih1 _ _ _ _
   | exact impl_Word_order.mono ..
   | exact LeO.none _
   | refine LeO.ite ?_ ?_
   | refine LeO.bind ?_ (fun _ => ?_)
set_option maxHeartbeats 8000000 in
set_option maxRecDepth 100000 in
theorem impl_RateWord.calls (k : Nat) (a0_0 : Int) (a0_1 : Int) (r : ByteArray) (w : World) (h : impl_RateWord.f k a0_0 a0_1 = some r) :
  Calls Try.prog 17 #[.agg #[.int .i64 a0_0,.int .i64 a0_1]] w fun e w' => e = .returned (.string r) ∧ Below w.heap.size w w':=by
 have hu31:=Try.underlying31
 have HB:=aMk (Below.refl w.heap.size w)
 have H : ((impl_wordOK.f a0_0 a0_1).bind fun t212 => (if t212 = true then ((impl_Word_class.f a0_0 a0_1).bind fun t213 => (if t213 = 0 then (some (⟨#[117,110,107,110,111,119,110]⟩ : ByteArray)) else (if t213 = 1 then (impl_RateWord.j0 k t213 (t213 == 1) a0_0 a0_1) else (impl_RateWord.j0 k t213 (t213 == 2) a0_0 a0_1)))) else (some (⟨#[]⟩ : ByteArray)))) = some r:=h
 clear h
 replace H:=Option.bind_eq_some_iff.mp H
 obtain ⟨t212,A20,H⟩:=H
 replace H : (if t212 = true then ((impl_Word_class.f a0_0 a0_1).bind fun t213 => (if t213 = 0 then (some (⟨#[117,110,107,110,111,119,110]⟩ : ByteArray)) else (if t213 = 1 then (impl_RateWord.j0 k t213 (t213 == 1) a0_0 a0_1) else (impl_RateWord.j0 k t213 (t213 == 2) a0_0 a0_1)))) else (some (⟨#[]⟩ : ByteArray))) = some r:=H
 have A2:=aMk A20
 clear A20
 by_cases c3 : t212 = true
 ·subst c3
  have H1 : ((impl_Word_class.f a0_0 a0_1).bind fun t213 => (if t213 = 0 then (some (⟨#[117,110,107,110,111,119,110]⟩ : ByteArray)) else (if t213 = 1 then (impl_RateWord.j0 k t213 (t213 == 1) a0_0 a0_1) else (impl_RateWord.j0 k t213 (t213 == 2) a0_0 a0_1)))) = some r:=by rw [if_pos rfl] at H;exact H
  clear H
  have H:=H1
  clear H1
  replace H:=Option.bind_eq_some_iff.mp H
  obtain ⟨t213,A40,H⟩:=H
  replace H : (if t213 = 0 then (some (⟨#[117,110,107,110,111,119,110]⟩ : ByteArray)) else (if t213 = 1 then (impl_RateWord.j0 k t213 (t213 == 1) a0_0 a0_1) else (impl_RateWord.j0 k t213 (t213 == 2) a0_0 a0_1))) = some r:=H
  have A4:=aMk A40
  clear A40
  by_cases c5 : t213 = 0
  ·rw [if_pos c5] at H
   have c5b0 : (t213 == 0) = true:=beq_iff_eq.mpr c5
   have c5b1 : (t213 != 0) = false:=bne_eq_false_iff_eq.mpr c5
   clear c5
   obtain rfl:=Option.some.inj H
   go_enter Try.func17,Try.ntmps17
   go_wp2_with (first|((with_reducible refine gate_dst (N:=1) rfl ?_);refine bxE (N:=1) (cs:=#[.int .i64 a0_0,.int .i64 a0_1]) (t:=31) ?_;intro gb211 hg w6 hbox hb;have n0_:=aMk (bSt hb);have n1_:=aMk (hbox);have n2_:=aMk ((by rw [hg];exact bSz : w.heap.size ≤ gb211));have n3_:=aMk ((by rw [hg];exact bSz : w.heap.size ≤ gb211));clear HB;have HB:=n0_;have BK211:=n1_;have GW211:=n2_;have GE211:=n3_;clear n0_ n1_ n2_ n3_;clear hb hbox hg;obtain ⟨hcz7_0,hcz7_1,hfz7_0,hfz7_1⟩:=bC2 BK211.out)|((with_reducible refine gate_callee (f:=43) rfl ?_);refine gLs 4 Try.func43 #[.agg #[.int .i64 a0_0,.int .i64 a0_1]] ?_;(with_reducible refine (impl_wordOK.calls a0_0 a0_1 true _ A2.out).mono ?_);rintro e w8 ⟨rfl,hb⟩;refine ⟨_,rfl,?_⟩;have n0_:=aMk (bkB BK211.out hb);have n1_:=aMk (below_step (by repeat (first|(with_reducible first|exact HB.out|apply bwA|apply bwN|apply bw1|refine below_set ?_ GE211.out)|exact HB.out)) hb);clear BK211;clear HB;have BK211:=n0_;have HB:=n1_;clear n0_ n1_;(try clear hb);(try clear hb2);(try clear hk);(try clear hi);obtain ⟨hcz9_0,hcz9_1,hfz9_0,hfz9_1⟩:=bC2 BK211.out)|((with_reducible refine gate_callee (f:=46) rfl ?_);refine gLs 7 Try.func46 #[.agg #[.int .i64 a0_0,.int .i64 a0_1]] ?_;(with_reducible refine (impl_Word_class.calls a0_0 a0_1 t213 _ A4.out).mono ?_);rintro e w10 ⟨rfl,hb⟩;refine ⟨_,rfl,?_⟩;have n0_:=aMk (bkB BK211.out hb);have n1_:=aMk (below_step (by repeat (first|(with_reducible first|exact HB.out|apply bwA|apply bwN|apply bw1|refine below_set ?_ GE211.out)|exact HB.out)) hb);clear BK211;clear HB;have BK211:=n0_;have HB:=n1_;clear n0_ n1_;(try clear hb);(try clear hb2);(try clear hk);(try clear hi)))
   go_ret
   exact ⟨eRf,by repeat (first|(with_reducible first|exact HB.out|apply bwA|apply bwN|apply bw1|refine below_set ?_ GE211.out)|exact HB.out)⟩
  ·rw [if_neg c5] at H
   have c5b0 : (t213 == 0) = false:=beq_eq_false_iff_ne.mpr c5
   have c5b1 : (t213 != 0) = true:=bne_iff_ne.mpr c5
   have HC11:=aMk H
   clear H
   go_enter Try.func17,Try.ntmps17
   go_upto_if 10 with (first|((with_reducible refine gate_dst (N:=1) rfl ?_);refine bxE (N:=1) (cs:=#[.int .i64 a0_0,.int .i64 a0_1]) (t:=31) ?_;intro gb211 hg w12 hbox hb;have n0_:=aMk (bSt hb);have n1_:=aMk (hbox);have n2_:=aMk ((by rw [hg];exact bSz : w.heap.size ≤ gb211));have n3_:=aMk ((by rw [hg];exact bSz : w.heap.size ≤ gb211));clear HB;have HB:=n0_;have BK211:=n1_;have GW211:=n2_;have GE211:=n3_;clear n0_ n1_ n2_ n3_;clear hb hbox hg;obtain ⟨hcz13_0,hcz13_1,hfz13_0,hfz13_1⟩:=bC2 BK211.out)|((with_reducible refine gate_callee (f:=43) rfl ?_);refine gLs 4 Try.func43 #[.agg #[.int .i64 a0_0,.int .i64 a0_1]] ?_;(with_reducible refine (impl_wordOK.calls a0_0 a0_1 true _ A2.out).mono ?_);rintro e w14 ⟨rfl,hb⟩;refine ⟨_,rfl,?_⟩;have n0_:=aMk (bkB BK211.out hb);have n1_:=aMk (below_step (by repeat (first|(with_reducible first|exact HB.out|apply bwA|apply bwN|apply bw1|refine below_set ?_ GE211.out)|exact HB.out)) hb);clear BK211;clear HB;have BK211:=n0_;have HB:=n1_;clear n0_ n1_;(try clear hb);(try clear hb2);(try clear hk);(try clear hi);obtain ⟨hcz15_0,hcz15_1,hfz15_0,hfz15_1⟩:=bC2 BK211.out)|((with_reducible refine gate_callee (f:=46) rfl ?_);refine gLs 7 Try.func46 #[.agg #[.int .i64 a0_0,.int .i64 a0_1]] ?_;(with_reducible refine (impl_Word_class.calls a0_0 a0_1 t213 _ A4.out).mono ?_);rintro e w16 ⟨rfl,hb⟩;refine ⟨_,rfl,?_⟩;have n0_:=aMk (bkB BK211.out hb);have n1_:=aMk (below_step (by repeat (first|(with_reducible first|exact HB.out|apply bwA|apply bwN|apply bw1|refine below_set ?_ GE211.out)|exact HB.out)) hb);clear BK211;clear HB;have BK211:=n0_;have HB:=n1_;clear n0_ n1_;(try clear hb);(try clear hb2);(try clear hk);(try clear hi)))
   (try simp only [Act.put,List.setIfInBounds_toArray,List.set_cons_zero,List.set_cons_succ])
   go_cut [10] (fun v10 wc => ∃ (kq : Nat) (x10_10 : Bool),v10 = .bool x10_10 ∧ Aside0 (impl_RateWord.j0 kq t213 x10_10 a0_0 a0_1 = some r) ∧ Aside0 (kq ≤ k) ∧ Aside0 (wc.heap[gb211]? = some (.cells #[.int .i64 a0_0,.int .i64 a0_1] 31 (0,0))) ∧ Aside0 (Below w.heap.size w wc))
   case first =>
    have H:=HC11.out
    clear HC11
    by_cases c17 : t213 = 1
    ·rw [if_pos c17] at H
     have c17b0 : (t213 == 1) = true:=beq_iff_eq.mpr c17
     have c17b1 : (t213 != 1) = false:=bne_eq_false_iff_eq.mpr c17
     clear c17
     (first|rw [c17b0]|(simp only [i64_w,i32_w];rw [c17b0]) | skip)
     have H':=aMk H
     clear H
     go_wp2
     go_meet
     case rel => exact ⟨_,((t213 == 1)),(by first | rfl|(simp;done)|(simp [*];done)|(simp [ne_nil_b];done)|(simp [ne_nil_b, *];done)),H',⟨by first | omega|exact Nat.le_refl _⟩,⟨by refine pB ?_;exact BK211.out⟩,⟨by repeat (first|(with_reducible first|exact HB.out|apply bwA|apply bwN|apply bw1|refine below_set ?_ GE211.out)|exact HB.out)⟩⟩
    ·rw [if_neg c17] at H
     have c17b0 : (t213 == 1) = false:=beq_eq_false_iff_ne.mpr c17
     have c17b1 : (t213 != 1) = true:=bne_iff_ne.mpr c17
     (first|rw [c17b0]|(simp only [i64_w,i32_w];rw [c17b0]) | skip)
     have H':=aMk H
     clear H
     go_wp2
     go_meet
     case rel => exact ⟨_,((t213 == 2)),(by first | rfl|(simp;done)|(simp [*];done)|(simp [ne_nil_b];done)|(simp [ne_nil_b, *];done)),H',⟨by first | omega|exact Nat.le_refl _⟩,⟨by refine pB ?_;exact BK211.out⟩,⟨by repeat (first|(with_reducible first|exact HB.out|apply bwA|apply bwN|apply bw1|refine below_set ?_ GE211.out)|exact HB.out)⟩⟩
   case rest =>
    clear HC11
    try clear c1
    try clear p2
    try clear c3
    try clear c4
    try clear c5
    try clear c5b0
    try clear c5b1
    try clear c17
    try clear c17b0
    try clear c17b1
    try clear hcz13_0
    try clear hcz13_1
    try clear hcz15_0
    try clear hcz15_1
    try clear hcz7_0
    try clear hcz7_1
    try clear hcz9_0
    try clear hcz9_1
    try clear hfz13_0
    try clear hfz13_1
    try clear hfz15_0
    try clear hfz15_1
    try clear hfz7_0
    try clear hfz7_1
    try clear hfz9_0
    try clear hfz9_1
    obtain ⟨kq,x10_10,rfl,HA,HJ10,BK211,HB⟩:=hcut
    cases kq with
    | zero => exact absurd HA.out (by simp [impl_RateWord.j0])
    | succ kj10 =>
     have H:=HA.out
     clear HA
     simp only [impl_RateWord.j0] at H
     by_cases c18 : x10_10 = true
     ·subst c18
      have H1 : (some (⟨#[119,114,111,110,103]⟩ : ByteArray)) = some r:=by rw [if_pos rfl] at H;exact H
      clear H
      have H:=H1
      clear H1
      obtain rfl:=Option.some.inj H
      go_wp2
      go_ret
      exact ⟨eRf,by repeat (first|(with_reducible first|exact HB.out|apply bwA|apply bwN|apply bw1|refine below_set ?_ GE211.out)|exact HB.out)⟩
     ·replace c18:=Bool.eq_false_iff.mpr c18
      subst c18
      have H1 : (if t213 = 3 then (impl_RateWord.j1 kj10 t213 (t213 == 3) a0_0 a0_1) else (impl_RateWord.j1 kj10 t213 (t213 == 4) a0_0 a0_1)) = some r:=by rw [if_neg (show ¬ (false = true) by decide)] at H;exact H
      clear H
      have H:=H1
      clear H1
      have HC19:=aMk H
      clear H
      go_upto_if 13 with (fail)
      go_cut [13] (fun v13 wc => ∃ (kq : Nat) (x13_18 : Bool),v13 = .bool x13_18 ∧ Aside0 (impl_RateWord.j1 kq t213 x13_18 a0_0 a0_1 = some r) ∧ Aside0 (kq ≤ kj10) ∧ Aside0 (wc.heap[gb211]? = some (.cells #[.int .i64 a0_0,.int .i64 a0_1] 31 (0,0))) ∧ Aside0 (Below w.heap.size w wc))
      case first =>
       have H:=HC19.out
       clear HC19
       by_cases c20 : t213 = 3
       ·rw [if_pos c20] at H
        have c20b0 : (t213 == 3) = true:=beq_iff_eq.mpr c20
        have c20b1 : (t213 != 3) = false:=bne_eq_false_iff_eq.mpr c20
        clear c20
        (first|rw [c20b0]|(simp only [i64_w,i32_w];rw [c20b0]) | skip)
        have H':=aMk H
        clear H
        go_wp2
        go_meet
        case rel => exact ⟨_,((t213 == 3)),(by first | rfl|(simp;done)|(simp [*];done)|(simp [ne_nil_b];done)|(simp [ne_nil_b, *];done)),H',⟨by have:=HJ10.out;first | omega|exact Nat.le_refl _⟩,⟨by refine pB ?_;exact BK211.out⟩,⟨by repeat (first|(with_reducible first|exact HB.out|apply bwA|apply bwN|apply bw1|refine below_set ?_ GE211.out)|exact HB.out)⟩⟩
       ·rw [if_neg c20] at H
        have c20b0 : (t213 == 3) = false:=beq_eq_false_iff_ne.mpr c20
        have c20b1 : (t213 != 3) = true:=bne_iff_ne.mpr c20
        (first|rw [c20b0]|(simp only [i64_w,i32_w];rw [c20b0]) | skip)
        have H':=aMk H
        clear H
        go_wp2
        go_meet
        case rel => exact ⟨_,((t213 == 4)),(by first | rfl|(simp;done)|(simp [*];done)|(simp [ne_nil_b];done)|(simp [ne_nil_b, *];done)),H',⟨by have:=HJ10.out;first | omega|exact Nat.le_refl _⟩,⟨by refine pB ?_;exact BK211.out⟩,⟨by repeat (first|(with_reducible first|exact HB.out|apply bwA|apply bwN|apply bw1|refine below_set ?_ GE211.out)|exact HB.out)⟩⟩
      case rest =>
       clear HC19
       try clear c1
       try clear c2
       try clear p2
       try clear c3
       try clear c4
       try clear c5
       try clear c5b0
       try clear c5b1
       try clear c17
       try clear c17b0
       try clear c17b1
       try clear c18
       try clear c20
       try clear c20b0
       try clear c20b1
       try clear hcz13_0
       try clear hcz13_1
       try clear hcz15_0
       try clear hcz15_1
       try clear hcz7_0
       try clear hcz7_1
       try clear hcz9_0
       try clear hcz9_1
       try clear hfz13_0
       try clear hfz13_1
       try clear hfz15_0
       try clear hfz15_1
       try clear hfz7_0
       try clear hfz7_1
       try clear hfz9_0
       try clear hfz9_1
       try clear p2
       obtain ⟨kq,x13_18,rfl,HA,HJ18,BK211,HB⟩:=hcut
       cases kq with
       | zero => exact absurd HA.out (by simp [impl_RateWord.j1])
       | succ kj18 =>
        have H:=HA.out
        clear HA
        simp only [impl_RateWord.j1] at H
        by_cases c21 : x13_18 = true
        ·subst c21
         have H1 : (some (⟨#[105,100,108,101]⟩ : ByteArray)) = some r:=by rw [if_pos rfl] at H;exact H
         clear H
         have H:=H1
         clear H1
         obtain rfl:=Option.some.inj H
         go_wp2
         go_ret
         exact ⟨eRf,by repeat (first|(with_reducible first|exact HB.out|apply bwA|apply bwN|apply bw1|refine below_set ?_ GE211.out)|exact HB.out)⟩
        ·replace c21:=Bool.eq_false_iff.mpr c21
         subst c21
         have H1 : (if t213 = 6 then (some (⟨#[101,110,100,108,101,115,115]⟩ : ByteArray)) else ((impl_Word_order.f kj18 a0_0 a0_1 1083129856 0).bind fun t214 => (if t214 < 0 then (some (⟨#[115,108,111,119]⟩ : ByteArray)) else (some (⟨#[102,97,115,116]⟩ : ByteArray))))) = some r:=by rw [if_neg (show ¬ (false = true) by decide)] at H;exact H
         clear H
         have H:=H1
         clear H1
         by_cases c22 : t213 = 6
         ·rw [if_pos c22] at H
          have c22b0 : (t213 == 6) = true:=beq_iff_eq.mpr c22
          have c22b1 : (t213 != 6) = false:=bne_eq_false_iff_eq.mpr c22
          clear c22
          obtain rfl:=Option.some.inj H
          go_wp2
          go_ret
          exact ⟨eRf,by repeat (first|(with_reducible first|exact HB.out|apply bwA|apply bwN|apply bw1|refine below_set ?_ GE211.out)|exact HB.out)⟩
         ·rw [if_neg c22] at H
          have c22b0 : (t213 == 6) = false:=beq_eq_false_iff_ne.mpr c22
          have c22b1 : (t213 != 6) = true:=bne_iff_ne.mpr c22
          replace H:=Option.bind_eq_some_iff.mp H
          obtain ⟨t214,A230,H⟩:=H
          replace H : (if t214 < 0 then (some (⟨#[115,108,111,119]⟩ : ByteArray)) else (some (⟨#[102,97,115,116]⟩ : ByteArray))) = some r:=H
          have A23:=aMk A230
          clear A230
          by_cases c24 : t214 < 0
          ·rw [if_pos c24] at H
           have c24b0 : decide (t214 < 0) = true:=decide_eq_true c24
           clear c24
           obtain rfl:=Option.some.inj H
           obtain ⟨hcz25_0,hcz25_1,hfz25_0,hfz25_1⟩:=bC2 BK211.out
           go_wp2_with (first|((with_reducible refine gate_callee (f:=44) rfl ?_);refine gLs 20 Try.func44 #[.agg #[.int .i64 a0_0,.int .i64 a0_1],.agg #[.int .i64 1083129856,.int .i64 0]] ?_;(with_reducible refine (impl_Word_order.calls kj18 a0_0 a0_1 1083129856 0 t214 _ A23.out).mono ?_);rintro e w26 ⟨rfl,hb⟩;refine ⟨_,rfl,?_⟩;have n0_:=aMk (bkB BK211.out hb);have n1_:=aMk (below_step (by repeat (first|(with_reducible first|exact HB.out|apply bwA|apply bwN|apply bw1|refine below_set ?_ GE211.out)|exact HB.out)) hb);clear BK211;clear HB;have BK211:=n0_;have HB:=n1_;clear n0_ n1_;(try clear hb);(try clear hb2);(try clear hk);(try clear hi)))
           go_ret
           exact ⟨eRf,by repeat (first|(with_reducible first|exact HB.out|apply bwA|apply bwN|apply bw1|refine below_set ?_ GE211.out)|exact HB.out)⟩
          ·rw [if_neg c24] at H
           have c24b0 : decide (t214 < 0) = false:=decide_eq_false c24
           clear c24
           obtain rfl:=Option.some.inj H
           obtain ⟨hcz27_0,hcz27_1,hfz27_0,hfz27_1⟩:=bC2 BK211.out
           go_wp2_with (first|((with_reducible refine gate_callee (f:=44) rfl ?_);refine gLs 20 Try.func44 #[.agg #[.int .i64 a0_0,.int .i64 a0_1],.agg #[.int .i64 1083129856,.int .i64 0]] ?_;(with_reducible refine (impl_Word_order.calls kj18 a0_0 a0_1 1083129856 0 t214 _ A23.out).mono ?_);rintro e w28 ⟨rfl,hb⟩;refine ⟨_,rfl,?_⟩;have n0_:=aMk (bkB BK211.out hb);have n1_:=aMk (below_step (by repeat (first|(with_reducible first|exact HB.out|apply bwA|apply bwN|apply bw1|refine below_set ?_ GE211.out)|exact HB.out)) hb);clear BK211;clear HB;have BK211:=n0_;have HB:=n1_;clear n0_ n1_;(try clear hb);(try clear hb2);(try clear hk);(try clear hi)))
           go_ret
           exact ⟨eRf,by repeat (first|(with_reducible first|exact HB.out|apply bwA|apply bwN|apply bw1|refine below_set ?_ GE211.out)|exact HB.out)⟩
 ·replace c3:=Bool.eq_false_iff.mpr c3
  subst c3
  have H1 : (some (⟨#[]⟩ : ByteArray)) = some r:=by rw [if_neg (show ¬ (false = true) by decide)] at H;exact H
  clear H
  have H:=H1
  clear H1
  obtain rfl:=Option.some.inj H
  go_enter Try.func17,Try.ntmps17
  go_wp2_with (first|((with_reducible refine gate_dst (N:=1) rfl ?_);refine bxE (N:=1) (cs:=#[.int .i64 a0_0,.int .i64 a0_1]) (t:=31) ?_;intro gb211 hg w29 hbox hb;have n0_:=aMk (bSt hb);have n1_:=aMk (hbox);have n2_:=aMk ((by rw [hg];exact bSz : w.heap.size ≤ gb211));have n3_:=aMk ((by rw [hg];exact bSz : w.heap.size ≤ gb211));clear HB;have HB:=n0_;have BK211:=n1_;have GW211:=n2_;have GE211:=n3_;clear n0_ n1_ n2_ n3_;clear hb hbox hg;obtain ⟨hcz30_0,hcz30_1,hfz30_0,hfz30_1⟩:=bC2 BK211.out)|((with_reducible refine gate_callee (f:=43) rfl ?_);refine gLs 4 Try.func43 #[.agg #[.int .i64 a0_0,.int .i64 a0_1]] ?_;(with_reducible refine (impl_wordOK.calls a0_0 a0_1 false _ A2.out).mono ?_);rintro e w31 ⟨rfl,hb⟩;refine ⟨_,rfl,?_⟩;have n0_:=aMk (bkB BK211.out hb);have n1_:=aMk (below_step (by repeat (first|(with_reducible first|exact HB.out|apply bwA|apply bwN|apply bw1|refine below_set ?_ GE211.out)|exact HB.out)) hb);clear BK211;clear HB;have BK211:=n0_;have HB:=n1_;clear n0_ n1_;(try clear hb);(try clear hb2);(try clear hk);(try clear hi)))
  go_ret
  exact ⟨eRf,by repeat (first|(with_reducible first|exact HB.out|apply bwA|apply bwN|apply bw1|refine below_set ?_ GE211.out)|exact HB.out)⟩
end
end Go.Proofs.Ytcakbenoaclbkaa.X
