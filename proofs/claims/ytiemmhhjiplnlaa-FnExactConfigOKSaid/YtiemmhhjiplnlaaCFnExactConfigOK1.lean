/- Texts that the row of FnExactConfigOK stands on: functions of the program and of the reference, each as a Lean function with the same answers, and the plain lemmas. Conditions: none beside those that each theorem names. -/
import Derived.Test.YtiemmhhjiplnlaaCFnExactConfigOK0
namespace Go.Proofs.Ytiemmhhjiplnlaa.X
open Go.RowKit Go.Proofs.YtiemmhhjiplnlaaW.PrintWords Go.Proofs.YtiemmhhjiplnlaaW.PrintLast Go.Proofs.YtiemmhhjiplnlaaW.PrintMore
attribute [local go_sem] max2_int min2_int max_two min_two max_three min_three max_four min_four   -- for this text's walks alone
set_option linter.unusedVariables false
set_option linter.unusedSimpArgs false
open Go.Proofs.YtiemmhhjiplnlaaW.PrintWords renaming blk_drewN -> bDn
open Go.Proofs.YtiemmhhjiplnlaaW.PrintWords renaming blk_drew -> bDr
open Go.Proofs.YtiemmhhjiplnlaaW.PrintWords renaming blk_alloc -> bAl
open Go.Proofs.YtiemmhhjiplnlaaW.PrintWords renaming blk_frozen -> bFr
open Go.Proofs.YtiemmhhjiplnlaaW.PrintWords renaming blk_cell -> bCe
open Go.Proofs.YtiemmhhjiplnlaaW.PrintWords.Aside0 renaming mk -> aMk
open Go.World renaming block_lt_of_cell? -> wLt
open Go.Proofs.YtiemmhhjiplnlaaW.PrintWords renaming pw_below_drewN -> bwN
open Go.Proofs.YtiemmhhjiplnlaaW.PrintWords renaming below_drew1 -> bw1
open Go.Proofs.YtiemmhhjiplnlaaW.PrintWords renaming below_alloc -> bwA
section
theorem bkL {w W : World} {g x : Nat} {o : Obj} (h : w.heap[g]? = some o) (hg : x = W.heap.size) (hW : w.heap[g]? = some o → W.heap[g]? = some o:=by intro h;(with_reducible repeat (first|refine bDn ?_ _|refine bDr ?_|refine bAl ?_ _));exact h) : g ≠ x:=by rw [hg];exact Nat.ne_of_lt (blk_lt (hW h))
theorem bkG {w W : World} {g x : Nat} {o : Obj} (h : w.heap[g]? = some o) (hg : x = W.heap.size) (hW : w.heap[g]? = some o → W.heap[g]? = some o:=by intro h;(with_reducible repeat (first|refine bDn ?_ _|refine bDr ?_|refine bAl ?_ _));exact h) : x ≠ g:=by rw [hg];exact Nat.ne_of_gt (blk_lt (hW h))
theorem bkB {w W w1 : World} {g : Nat} {o : Obj} (h : w.heap[g]? = some o) (hb : Below W.heap.size W w1) (hW : w.heap[g]? = some o → W.heap[g]? = some o:=by intro h;(with_reducible repeat (first|refine bDn ?_ _|refine bDr ?_|refine bAl ?_ _));exact h) : w1.heap[g]? = some o:=blk_below (hW h) hb
theorem bxE {ops : Array Oper} {Q : Exit → Act → World → Prop} {rest : List Oper} {o : Oper} {a : Act} {W : World} {N : Tmp} {cs : Array Value} {t : TypeId} (h : ∀ g,g = W.heap.size → ∀ w1,w1.heap[g]? = some (.cells cs t (0,0)) → Below W.heap.size W w1 → wpList Try.prog ops Q rest (a.put o.dst (.pointer (some ⟨g,0,none⟩))) w1) (hd : o.dst = some N:=by rfl) (hgd : o.guard = none:=by rfl) (hrun : (execOp a.eval o).run Try.prog W = .ok (.value (.pointer (some ⟨W.heap.size,0,none⟩))) (W.alloc (.cells cs t (0,0))):=by first|(go_simp;done)|(go_simp;rfl)) : wpList Try.prog ops Q (o :: rest) a W:=box_event hgd hd hrun h
theorem bXc {w W : World} {a : Addr} {v : Value} (hB : Below w.heap.size w W) (h : w.cell? a = some v) : W.cell? a = some v:=(hB.cell (wLt w _ h)).trans h
theorem eRf {e e' : Ending} (h : e = e':=by first | rfl|(simp [errW_none,errW_some] <;> rfl)|(simp [*,errW_none,errW_some] <;> rfl)) : e = e':=h
theorem gLs {ops : Array Oper} {Q : Exit → Act → World → Prop} {rest : List Oper} {oi : Oper} {a : Act} {w : World} (N : Tmp) {f : FuncId} {fn : Func} {as0 : Array Operand} {ts : Array TypeId} (hf : Try.prog.funcs[f]? = some fn) (args : Array Value) (hC : Calls Try.prog f args w fun e w' => ∃ v,e = Ending.returned v ∧ wpList Try.prog ops Q rest (a.put (some N) v) w') (h5 : oi.op = Op.call { callee:=Callee.value (Operand.func f),args:=as0,argTypes:=ts }:=by rfl) (h1 : oi.dst = some N:=by rfl) (h2 : oi.guard = none:=by rfl) (h3 : (fn.name == "runtime.NumGoroutine") = false:=by kernel_rfl) (h4 : fn.body.isSome = true:=by rfl) (h6 : Array.map a.eval as0 = args:=by (try simp only [List.map_toArray,List.map_cons,List.map_nil]);first | done | rfl|(simp only [List.length_drop,List.length_take];rfl)) : wpList Try.prog ops Q (oi :: rest) a w:=goesL_ (some N) h1 h2 hf h3 h4 args h5 h6 hC
theorem bSt {w W W1 : World} (hb : Below W.heap.size W W1) (h : Below w.heap.size w W:=by repeat (first|(with_reducible first|exact HB.out|apply bwA|apply bwN|apply bw1)|exact HB.out)) : Below w.heap.size w W1:=below_step h hb
theorem bSz {w W : World} (h : Below w.heap.size w W:=by repeat (first|(with_reducible first|exact HB.out|apply bwA|apply bwN|apply bw1)|exact HB.out)) : w.heap.size ≤ W.heap.size:=below_size h
theorem bC2 {w : World} {g : Nat} {t : TypeId} {v0 v1 : Value} (h : w.heap[g]? = some (.cells #[v0,v1] t (0,0))) : w.cell? ⟨g,0,none⟩ = some v0 ∧ w.cell? ⟨g,1,none⟩ = some v1 ∧ w.frozen? ⟨g,0,none⟩ = false ∧ w.frozen? ⟨g,1,none⟩ = false:=⟨(bCe h 0).trans rfl,(bCe h 1).trans rfl,bFr h 0,bFr h 1⟩
theorem bC4 {w : World} {g : Nat} {t : TypeId} {v0 v1 v2 v3 : Value} (h : w.heap[g]? = some (.cells #[v0,v1,v2,v3] t (0,0))) : w.cell? ⟨g,0,none⟩ = some v0 ∧ w.cell? ⟨g,1,none⟩ = some v1 ∧ w.cell? ⟨g,2,none⟩ = some v2 ∧ w.cell? ⟨g,3,none⟩ = some v3 ∧ w.frozen? ⟨g,0,none⟩ = false ∧ w.frozen? ⟨g,1,none⟩ = false ∧ w.frozen? ⟨g,2,none⟩ = false ∧ w.frozen? ⟨g,3,none⟩ = false:=⟨(bCe h 0).trans rfl,(bCe h 1).trans rfl,(bCe h 2).trans rfl,(bCe h 3).trans rfl,bFr h 0,bFr h 1,bFr h 2,bFr h 3⟩
theorem bC5 {w : World} {g : Nat} {t : TypeId} {v0 v1 v2 v3 v4 : Value} (h : w.heap[g]? = some (.cells #[v0,v1,v2,v3,v4] t (0,0))) : w.cell? ⟨g,0,none⟩ = some v0 ∧ w.cell? ⟨g,1,none⟩ = some v1 ∧ w.cell? ⟨g,2,none⟩ = some v2 ∧ w.cell? ⟨g,3,none⟩ = some v3 ∧ w.cell? ⟨g,4,none⟩ = some v4 ∧ w.frozen? ⟨g,0,none⟩ = false ∧ w.frozen? ⟨g,1,none⟩ = false ∧ w.frozen? ⟨g,2,none⟩ = false ∧ w.frozen? ⟨g,3,none⟩ = false ∧ w.frozen? ⟨g,4,none⟩ = false:=⟨(bCe h 0).trans rfl,(bCe h 1).trans rfl,(bCe h 2).trans rfl,(bCe h 3).trans rfl,(bCe h 4).trans rfl,bFr h 0,bFr h 1,bFr h 2,bFr h 3,bFr h 4⟩
theorem bC6 {w : World} {g : Nat} {t : TypeId} {v0 v1 v2 v3 v4 v5 : Value} (h : w.heap[g]? = some (.cells #[v0,v1,v2,v3,v4,v5] t (0,0))) : w.cell? ⟨g,0,none⟩ = some v0 ∧ w.cell? ⟨g,1,none⟩ = some v1 ∧ w.cell? ⟨g,2,none⟩ = some v2 ∧ w.cell? ⟨g,3,none⟩ = some v3 ∧ w.cell? ⟨g,4,none⟩ = some v4 ∧ w.cell? ⟨g,5,none⟩ = some v5 ∧ w.frozen? ⟨g,0,none⟩ = false ∧ w.frozen? ⟨g,1,none⟩ = false ∧ w.frozen? ⟨g,2,none⟩ = false ∧ w.frozen? ⟨g,3,none⟩ = false ∧ w.frozen? ⟨g,4,none⟩ = false ∧ w.frozen? ⟨g,5,none⟩ = false:=⟨(bCe h 0).trans rfl,(bCe h 1).trans rfl,(bCe h 2).trans rfl,(bCe h 3).trans rfl,(bCe h 4).trans rfl,(bCe h 5).trans rfl,bFr h 0,bFr h 1,bFr h 2,bFr h 3,bFr h 4,bFr h 5⟩
theorem bC8 {w : World} {g : Nat} {t : TypeId} {v0 v1 v2 v3 v4 v5 v6 v7 : Value} (h : w.heap[g]? = some (.cells #[v0,v1,v2,v3,v4,v5,v6,v7] t (0,0))) : w.cell? ⟨g,0,none⟩ = some v0 ∧ w.cell? ⟨g,1,none⟩ = some v1 ∧ w.cell? ⟨g,2,none⟩ = some v2 ∧ w.cell? ⟨g,3,none⟩ = some v3 ∧ w.cell? ⟨g,4,none⟩ = some v4 ∧ w.cell? ⟨g,5,none⟩ = some v5 ∧ w.cell? ⟨g,6,none⟩ = some v6 ∧ w.cell? ⟨g,7,none⟩ = some v7 ∧ w.frozen? ⟨g,0,none⟩ = false ∧ w.frozen? ⟨g,1,none⟩ = false ∧ w.frozen? ⟨g,2,none⟩ = false ∧ w.frozen? ⟨g,3,none⟩ = false ∧ w.frozen? ⟨g,4,none⟩ = false ∧ w.frozen? ⟨g,5,none⟩ = false ∧ w.frozen? ⟨g,6,none⟩ = false ∧ w.frozen? ⟨g,7,none⟩ = false:=⟨(bCe h 0).trans rfl,(bCe h 1).trans rfl,(bCe h 2).trans rfl,(bCe h 3).trans rfl,(bCe h 4).trans rfl,(bCe h 5).trans rfl,(bCe h 6).trans rfl,(bCe h 7).trans rfl,bFr h 0,bFr h 1,bFr h 2,bFr h 3,bFr h 4,bFr h 5,bFr h 6,bFr h 7⟩
def errW : Option Int → Value
 | none => .nilIface
 | some c => .iface 0 (.int .i64 c)
theorem errW_none : errW none = .nilIface:=rfl
theorem errW_some (c : Int) : errW (some c) = .iface 0 (.int .i64 c):=rfl

theorem ne_nil_b (l : List UInt8) : (l != []) = !l.isEmpty:=by cases l <;> rfl

theorem info36 : (Try.prog.info? 36).map (fun i => (i.zero,i.size,i.bytes)) = some (some (.agg #[(.int .i64 0),(.int .i64 0),(.int .i64 0),(.int .i64 0),(.int .i64 0),(.bool false)]),6,48):=by kernel_rfl
theorem info54 : (Try.prog.info? 54).map (fun i => (i.zero,i.size,i.bytes)) = some (some (.agg #[(.string ⟨#[]⟩),(.slice none 0 0),(.int .i64 0),(.int .i64 0),(.int .i64 0)]),5,64):=by kernel_rfl
theorem info100 : (Try.prog.info? 100).map (fun i => (i.zero,i.size,i.bytes)) = some (some (.agg #[(.int .i64 0),(.int .i64 0),(.int .i64 0),(.int .i64 0)]),4,32):=by kernel_rfl
/-! #### struct type 23 -/
structure S23 where
 f0 : Int
 f1 : Int
def z23 : S23:=⟨(0 : Int),(0 : Int)⟩
def k23 : Kd S23:=Kd.iso (Kd.pair (Kd.int .i64) (Kd.int .i64)) (fun x : S23 => (x.f0,x.f1))
theorem k23_open {w : World} {x : S23} {cs : List Value} (h : k23.K w x cs) : cs = [.int .i64 x.f0,.int .i64 x.f1]:=by
 obtain ⟨_,_,rfl,rfl,rfl⟩:=h
 exact rfl
def rd_T23 (xs : List S23) (i : Int) : S23:=xs.getD i.toNat z23
/-! #### struct type 26 -/
structure S26 where
 f0 : Int
 f1 : Int
def z26 : S26:=⟨(0 : Int),(0 : Int)⟩
def k26 : Kd S26:=Kd.iso (Kd.pair (Kd.int .i64) (Kd.int .i64)) (fun x : S26 => (x.f0,x.f1))
theorem k26_open {w : World} {x : S26} {cs : List Value} (h : k26.K w x cs) : cs = [.int .i64 x.f0,.int .i64 x.f1]:=by
 obtain ⟨_,_,rfl,rfl,rfl⟩:=h
 exact rfl
theorem k26_openM {w : World} {base : Nat} {ok : Nat → Prop} {x : S26} {cs : List Value} (h : k26.M w base ok x cs) : cs = [.int .i64 x.f0,.int .i64 x.f1]:=by
 obtain ⟨_,_,rfl,rfl,rfl⟩:=h
 exact rfl
theorem k26_mkM (w : World) (base : Nat) (ok : Nat → Prop) (x : S26)  : k26.M w base ok x [.int .i64 x.f0,.int .i64 x.f1]:=⟨[.int .i64 x.f0],[.int .i64 x.f1],rfl,rfl,rfl⟩
def rd_T26 (xs : List S26) (i : Int) : S26:=xs.getD i.toNat z26
def rd_L3 (xs : List (List S26)) (i : Int) : (List S26):=xs.getD i.toNat ([] : List S26)
/-! #### struct type 30 -/
structure S30 where
 f0 : Int
 f1 : Int
def z30 : S30:=⟨(0 : Int),(0 : Int)⟩
def k30 : Kd S30:=Kd.iso (Kd.pair (Kd.int .i64) (Kd.int .i64)) (fun x : S30 => (x.f0,x.f1))
theorem k30_open {w : World} {x : S30} {cs : List Value} (h : k30.K w x cs) : cs = [.int .i64 x.f0,.int .i64 x.f1]:=by
 obtain ⟨_,_,rfl,rfl,rfl⟩:=h
 exact rfl
def rd_T30 (xs : List S30) (i : Int) : S30:=xs.getD i.toNat z30
/-! #### struct type 32 -/
structure S32 where
 f0 : Int
 f1 : S23
 f2 : S30
 f3 : Bool
def z32 : S32:=⟨(0 : Int),z23,z30,false⟩
def k32 : Kd S32:=Kd.iso (Kd.pair (Kd.int .i64) (Kd.pair k23 (Kd.pair k30 Kd.bool))) (fun x : S32 => (x.f0,x.f1,x.f2,x.f3))
theorem k32_open {w : World} {x : S32} {cs : List Value} (h : k32.K w x cs) : cs = [.int .i64 x.f0,.int .i64 x.f1.f0,.int .i64 x.f1.f1,.int .i64 x.f2.f0,.int .i64 x.f2.f1,.bool x.f3]:=by
 obtain ⟨_,_,rfl,rfl,⟨_,_,rfl,s1,⟨_,_,rfl,s3,rfl⟩⟩⟩:=h
 obtain rfl:=k23_open s1
 obtain rfl:=k30_open s3
 exact rfl
def rd_T32 (xs : List S32) (i : Int) : S32:=xs.getD i.toNat z32
theorem at_T32 {w : World} {A : Option Addr} {n : Nat} {xs : List S32} (h : Kd.C k32 w A n xs) (i : Int) (h0 : 0 ≤ i) (h1 : i < n) : ∃ ad ,A = some ad ∧ w.cell? (ad.add (i.toNat * 6)) = some (.int .i64 (rd_T32 xs i).f0) ∧ w.cell? ⟨(ad.add (i.toNat * 6)).block,(ad.add (i.toNat * 6)).off + 1,none⟩ = some (.int .i64 (rd_T32 xs i).f1.f0) ∧ w.cell? ⟨(ad.add (i.toNat * 6)).block,(ad.add (i.toNat * 6)).off + 2,none⟩ = some (.int .i64 (rd_T32 xs i).f1.f1) ∧ w.cell? ⟨(ad.add (i.toNat * 6)).block,(ad.add (i.toNat * 6)).off + 3,none⟩ = some (.int .i64 (rd_T32 xs i).f2.f0) ∧ w.cell? ⟨(ad.add (i.toNat * 6)).block,(ad.add (i.toNat * 6)).off + 4,none⟩ = some (.int .i64 (rd_T32 xs i).f2.f1) ∧ w.cell? ⟨(ad.add (i.toNat * 6)).block,(ad.add (i.toNat * 6)).off + 5,none⟩ = some (.bool (rd_T32 xs i).f3):=by
 obtain ⟨ad,c,e,_,hK,hc0⟩:=Kd.C_get h z32 i h0 h1
 have hc : ∀ j u,c[j]? = some u → w.cell? (ad.add (i.toNat * 6 + j)) = some u:=hc0
 obtain rfl:=k32_open hK
 exact ⟨ad,e,hc 0 _ rfl,by rw [← add_field _ _ 1 (by omega)];exact hc 1 _ rfl,by rw [← add_field _ _ 2 (by omega)];exact hc 2 _ rfl,by rw [← add_field _ _ 3 (by omega)];exact hc 3 _ rfl,by rw [← add_field _ _ 4 (by omega)];exact hc 4 _ rfl,by rw [← add_field _ _ 5 (by omega)];exact hc 5 _ rfl⟩

/-! #### struct type 34 -/
structure S34 where
 f0 : Int
 f1 : Int
def z34 : S34:=⟨(0 : Int),(0 : Int)⟩
def k34 : Kd S34:=Kd.iso (Kd.pair (Kd.int .i64) (Kd.int .i64)) (fun x : S34 => (x.f0,x.f1))
theorem k34_open {w : World} {x : S34} {cs : List Value} (h : k34.K w x cs) : cs = [.int .i64 x.f0,.int .i64 x.f1]:=by
 obtain ⟨_,_,rfl,rfl,rfl⟩:=h
 exact rfl
theorem k34_openM {w : World} {base : Nat} {ok : Nat → Prop} {x : S34} {cs : List Value} (h : k34.M w base ok x cs) : cs = [.int .i64 x.f0,.int .i64 x.f1]:=by
 obtain ⟨_,_,rfl,rfl,rfl⟩:=h
 exact rfl
theorem k34_mkM (w : World) (base : Nat) (ok : Nat → Prop) (x : S34)  : k34.M w base ok x [.int .i64 x.f0,.int .i64 x.f1]:=⟨[.int .i64 x.f0],[.int .i64 x.f1],rfl,rfl,rfl⟩
def rd_T34 (xs : List S34) (i : Int) : S34:=xs.getD i.toNat z34
/-! #### struct type 36 -/
structure S36 where
 f0 : Int
 f1 : S26
 f2 : S34
 f3 : Bool
def z36 : S36:=⟨(0 : Int),z26,z34,false⟩
def k36 : Kd S36:=Kd.iso (Kd.pair (Kd.int .i64) (Kd.pair k26 (Kd.pair k34 Kd.bool))) (fun x : S36 => (x.f0,x.f1,x.f2,x.f3))
theorem k36_open {w : World} {x : S36} {cs : List Value} (h : k36.K w x cs) : cs = [.int .i64 x.f0,.int .i64 x.f1.f0,.int .i64 x.f1.f1,.int .i64 x.f2.f0,.int .i64 x.f2.f1,.bool x.f3]:=by
 obtain ⟨_,_,rfl,rfl,⟨_,_,rfl,s1,⟨_,_,rfl,s3,rfl⟩⟩⟩:=h
 obtain rfl:=k26_open s1
 obtain rfl:=k34_open s3
 exact rfl
theorem k36_openM {w : World} {base : Nat} {ok : Nat → Prop} {x : S36} {cs : List Value} (h : k36.M w base ok x cs) : cs = [.int .i64 x.f0,.int .i64 x.f1.f0,.int .i64 x.f1.f1,.int .i64 x.f2.f0,.int .i64 x.f2.f1,.bool x.f3]:=by
 obtain ⟨_,_,rfl,rfl,⟨_,_,rfl,s1,⟨_,_,rfl,s3,rfl⟩⟩⟩:=h
 obtain rfl:=k26_openM s1
 obtain rfl:=k34_openM s3
 exact rfl
theorem k36_mkM (w : World) (base : Nat) (ok : Nat → Prop) (x : S36)  : k36.M w base ok x [.int .i64 x.f0,.int .i64 x.f1.f0,.int .i64 x.f1.f1,.int .i64 x.f2.f0,.int .i64 x.f2.f1,.bool x.f3]:=⟨[.int .i64 x.f0],[.int .i64 x.f1.f0,.int .i64 x.f1.f1,.int .i64 x.f2.f0,.int .i64 x.f2.f1,.bool x.f3],rfl,rfl,⟨[.int .i64 x.f1.f0,.int .i64 x.f1.f1],[.int .i64 x.f2.f0,.int .i64 x.f2.f1,.bool x.f3],rfl,(k26_mkM w base ok x.f1 ),⟨[.int .i64 x.f2.f0,.int .i64 x.f2.f1],[.bool x.f3],rfl,(k34_mkM w base ok x.f2 ),rfl⟩⟩⟩
def rd_T36 (xs : List S36) (i : Int) : S36:=xs.getD i.toNat z36
theorem at_T36 {w : World} {A : Option Addr} {n : Nat} {xs : List S36} (h : Kd.C k36 w A n xs) (i : Int) (h0 : 0 ≤ i) (h1 : i < n) : ∃ ad ,A = some ad ∧ w.cell? (ad.add (i.toNat * 6)) = some (.int .i64 (rd_T36 xs i).f0) ∧ w.cell? ⟨(ad.add (i.toNat * 6)).block,(ad.add (i.toNat * 6)).off + 1,none⟩ = some (.int .i64 (rd_T36 xs i).f1.f0) ∧ w.cell? ⟨(ad.add (i.toNat * 6)).block,(ad.add (i.toNat * 6)).off + 2,none⟩ = some (.int .i64 (rd_T36 xs i).f1.f1) ∧ w.cell? ⟨(ad.add (i.toNat * 6)).block,(ad.add (i.toNat * 6)).off + 3,none⟩ = some (.int .i64 (rd_T36 xs i).f2.f0) ∧ w.cell? ⟨(ad.add (i.toNat * 6)).block,(ad.add (i.toNat * 6)).off + 4,none⟩ = some (.int .i64 (rd_T36 xs i).f2.f1) ∧ w.cell? ⟨(ad.add (i.toNat * 6)).block,(ad.add (i.toNat * 6)).off + 5,none⟩ = some (.bool (rd_T36 xs i).f3):=by
 obtain ⟨ad,c,e,_,hK,hc0⟩:=Kd.C_get h z36 i h0 h1
 have hc : ∀ j u,c[j]? = some u → w.cell? (ad.add (i.toNat * 6 + j)) = some u:=hc0
 obtain rfl:=k36_open hK
 exact ⟨ad,e,hc 0 _ rfl,by rw [← add_field _ _ 1 (by omega)];exact hc 1 _ rfl,by rw [← add_field _ _ 2 (by omega)];exact hc 2 _ rfl,by rw [← add_field _ _ 3 (by omega)];exact hc 3 _ rfl,by rw [← add_field _ _ 4 (by omega)];exact hc 4 _ rfl,by rw [← add_field _ _ 5 (by omega)];exact hc 5 _ rfl⟩

def rd_L9 (xs : List (List S36)) (i : Int) : (List S36):=xs.getD i.toNat ([] : List S36)
/-! #### struct type 54 -/
structure S54 where
 f0 : ByteArray
 f1 : (List S36)
 f2 : Int
 f3 : Int
 f4 : Int
def z54 : S54:=⟨(⟨#[]⟩ : ByteArray),([] : List S36),(0 : Int),(0 : Int),(0 : Int)⟩
def k54 : Kd S54:=Kd.iso (Kd.pair Kd.string (Kd.pair (Kd.slice 36 k36) (Kd.pair (Kd.int .i64) (Kd.pair (Kd.int .i64) (Kd.int .i64))))) (fun x : S54 => (x.f0,x.f1,x.f2,x.f3,x.f4))
theorem k54_open {w : World} {x : S54} {cs : List Value} (h : k54.K w x cs) : ∃ A1 c1,cs = [.string x.f0,.slice A1 x.f1.length c1,.int .i64 x.f2,.int .i64 x.f3,.int .i64 x.f4] ∧ x.f1.length ≤ c1 ∧ k36.C w A1 x.f1.length x.f1:=by
 obtain ⟨_,_,rfl,rfl,⟨_,_,rfl,⟨A1,c1,rfl,l1,g1⟩,⟨_,_,rfl,rfl,⟨_,_,rfl,rfl,rfl⟩⟩⟩⟩:=h
 exact ⟨A1,c1,rfl,l1,g1⟩
theorem k54_openM {w : World} {base : Nat} {ok : Nat → Prop} {x : S54} {cs : List Value} (h : k54.M w base ok x cs) : ∃ v1,cs = [.string x.f0,v1,.int .i64 x.f2,.int .i64 x.f3,.int .i64 x.f4] ∧ k36.R 36 w base ok v1 x.f1:=by
 obtain ⟨_,_,rfl,rfl,⟨_,_,rfl,⟨v1,rfl,g1⟩,⟨_,_,rfl,rfl,⟨_,_,rfl,rfl,rfl⟩⟩⟩⟩:=h
 exact ⟨v1,rfl,g1⟩
theorem k54_mkM (w : World) (base : Nat) (ok : Nat → Prop) (x : S54) {v1 : Value} (g1 : k36.R 36 w base ok v1 x.f1) : k54.M w base ok x [.string x.f0,v1,.int .i64 x.f2,.int .i64 x.f3,.int .i64 x.f4]:=⟨[.string x.f0],[v1,.int .i64 x.f2,.int .i64 x.f3,.int .i64 x.f4],rfl,rfl,⟨[v1],[.int .i64 x.f2,.int .i64 x.f3,.int .i64 x.f4],rfl,⟨v1,rfl,g1⟩,⟨[.int .i64 x.f2],[.int .i64 x.f3,.int .i64 x.f4],rfl,rfl,⟨[.int .i64 x.f3],[.int .i64 x.f4],rfl,rfl,rfl⟩⟩⟩⟩
def rd_T54 (xs : List S54) (i : Int) : S54:=xs.getD i.toNat z54
theorem at_T54 {w : World} {A : Option Addr} {n : Nat} {xs : List S54} (h : Kd.C k54 w A n xs) (i : Int) (h0 : 0 ≤ i) (h1 : i < n) : ∃ ad A1 c1,A = some ad ∧ w.cell? (ad.add (i.toNat * 5)) = some (.string (rd_T54 xs i).f0) ∧ w.cell? ⟨(ad.add (i.toNat * 5)).block,(ad.add (i.toNat * 5)).off + 1,none⟩ = some (.slice A1 (rd_T54 xs i).f1.length c1) ∧ w.cell? ⟨(ad.add (i.toNat * 5)).block,(ad.add (i.toNat * 5)).off + 2,none⟩ = some (.int .i64 (rd_T54 xs i).f2) ∧ w.cell? ⟨(ad.add (i.toNat * 5)).block,(ad.add (i.toNat * 5)).off + 3,none⟩ = some (.int .i64 (rd_T54 xs i).f3) ∧ w.cell? ⟨(ad.add (i.toNat * 5)).block,(ad.add (i.toNat * 5)).off + 4,none⟩ = some (.int .i64 (rd_T54 xs i).f4) ∧ (rd_T54 xs i).f1.length ≤ c1 ∧ k36.C w A1 (rd_T54 xs i).f1.length (rd_T54 xs i).f1:=by
 obtain ⟨ad,c,e,_,hK,hc0⟩:=Kd.C_get h z54 i h0 h1
 have hc : ∀ j u,c[j]? = some u → w.cell? (ad.add (i.toNat * 5 + j)) = some u:=hc0
 obtain ⟨A1,c1,rfl,l1,g1⟩:=k54_open hK
 exact ⟨ad,A1,c1,e,hc 0 _ rfl,by rw [← add_field _ _ 1 (by omega)];exact hc 1 _ rfl,by rw [← add_field _ _ 2 (by omega)];exact hc 2 _ rfl,by rw [← add_field _ _ 3 (by omega)];exact hc 3 _ rfl,by rw [← add_field _ _ 4 (by omega)];exact hc 4 _ rfl,l1,g1⟩

/-! #### struct type 116 -/
structure S116 where
 f0 : S23
 f1 : S30
def z116 : S116:=⟨z23,z30⟩
def k116 : Kd S116:=Kd.iso (Kd.pair k23 k30) (fun x : S116 => (x.f0,x.f1))
theorem k116_open {w : World} {x : S116} {cs : List Value} (h : k116.K w x cs) : cs = [.int .i64 x.f0.f0,.int .i64 x.f0.f1,.int .i64 x.f1.f0,.int .i64 x.f1.f1]:=by
 obtain ⟨_,_,rfl,s0,s2⟩:=h
 obtain rfl:=k23_open s0
 obtain rfl:=k30_open s2
 exact rfl
def rd_T116 (xs : List S116) (i : Int) : S116:=xs.getD i.toNat z116
theorem at_T116 {w : World} {A : Option Addr} {n : Nat} {xs : List S116} (h : Kd.C k116 w A n xs) (i : Int) (h0 : 0 ≤ i) (h1 : i < n) : ∃ ad ,A = some ad ∧ w.cell? (ad.add (i.toNat * 4)) = some (.int .i64 (rd_T116 xs i).f0.f0) ∧ w.cell? ⟨(ad.add (i.toNat * 4)).block,(ad.add (i.toNat * 4)).off + 1,none⟩ = some (.int .i64 (rd_T116 xs i).f0.f1) ∧ w.cell? ⟨(ad.add (i.toNat * 4)).block,(ad.add (i.toNat * 4)).off + 2,none⟩ = some (.int .i64 (rd_T116 xs i).f1.f0) ∧ w.cell? ⟨(ad.add (i.toNat * 4)).block,(ad.add (i.toNat * 4)).off + 3,none⟩ = some (.int .i64 (rd_T116 xs i).f1.f1):=by
 obtain ⟨ad,c,e,_,hK,hc0⟩:=Kd.C_get h z116 i h0 h1
 have hc : ∀ j u,c[j]? = some u → w.cell? (ad.add (i.toNat * 4 + j)) = some u:=hc0
 obtain rfl:=k116_open hK
 exact ⟨ad,e,hc 0 _ rfl,by rw [← add_field _ _ 1 (by omega)];exact hc 1 _ rfl,by rw [← add_field _ _ 2 (by omega)];exact hc 2 _ rfl,by rw [← add_field _ _ 3 (by omega)];exact hc 3 _ rfl⟩

def rd_L13 (xs : List (List S32)) (i : Int) : (List S32):=xs.getD i.toNat ([] : List S32)
/-! #### struct type 49 -/
structure S49 where
 f0 : ByteArray
 f1 : (List S32)
 f2 : Int
 f3 : Int
 f4 : Int
def z49 : S49:=⟨(⟨#[]⟩ : ByteArray),([] : List S32),(0 : Int),(0 : Int),(0 : Int)⟩
def k49 : Kd S49:=Kd.iso (Kd.pair Kd.string (Kd.pair (Kd.slice 32 k32) (Kd.pair (Kd.int .i64) (Kd.pair (Kd.int .i64) (Kd.int .i64))))) (fun x : S49 => (x.f0,x.f1,x.f2,x.f3,x.f4))
theorem k49_open {w : World} {x : S49} {cs : List Value} (h : k49.K w x cs) : ∃ A1 c1,cs = [.string x.f0,.slice A1 x.f1.length c1,.int .i64 x.f2,.int .i64 x.f3,.int .i64 x.f4] ∧ x.f1.length ≤ c1 ∧ k32.C w A1 x.f1.length x.f1:=by
 obtain ⟨_,_,rfl,rfl,⟨_,_,rfl,⟨A1,c1,rfl,l1,g1⟩,⟨_,_,rfl,rfl,⟨_,_,rfl,rfl,rfl⟩⟩⟩⟩:=h
 exact ⟨A1,c1,rfl,l1,g1⟩
def rd_T49 (xs : List S49) (i : Int) : S49:=xs.getD i.toNat z49
theorem at_T49 {w : World} {A : Option Addr} {n : Nat} {xs : List S49} (h : Kd.C k49 w A n xs) (i : Int) (h0 : 0 ≤ i) (h1 : i < n) : ∃ ad A1 c1,A = some ad ∧ w.cell? (ad.add (i.toNat * 5)) = some (.string (rd_T49 xs i).f0) ∧ w.cell? ⟨(ad.add (i.toNat * 5)).block,(ad.add (i.toNat * 5)).off + 1,none⟩ = some (.slice A1 (rd_T49 xs i).f1.length c1) ∧ w.cell? ⟨(ad.add (i.toNat * 5)).block,(ad.add (i.toNat * 5)).off + 2,none⟩ = some (.int .i64 (rd_T49 xs i).f2) ∧ w.cell? ⟨(ad.add (i.toNat * 5)).block,(ad.add (i.toNat * 5)).off + 3,none⟩ = some (.int .i64 (rd_T49 xs i).f3) ∧ w.cell? ⟨(ad.add (i.toNat * 5)).block,(ad.add (i.toNat * 5)).off + 4,none⟩ = some (.int .i64 (rd_T49 xs i).f4) ∧ (rd_T49 xs i).f1.length ≤ c1 ∧ k32.C w A1 (rd_T49 xs i).f1.length (rd_T49 xs i).f1:=by
 obtain ⟨ad,c,e,_,hK,hc0⟩:=Kd.C_get h z49 i h0 h1
 have hc : ∀ j u,c[j]? = some u → w.cell? (ad.add (i.toNat * 5 + j)) = some u:=hc0
 obtain ⟨A1,c1,rfl,l1,g1⟩:=k49_open hK
 exact ⟨ad,A1,c1,e,hc 0 _ rfl,by rw [← add_field _ _ 1 (by omega)];exact hc 1 _ rfl,by rw [← add_field _ _ 2 (by omega)];exact hc 2 _ rfl,by rw [← add_field _ _ 3 (by omega)];exact hc 3 _ rfl,by rw [← add_field _ _ 4 (by omega)];exact hc 4 _ rfl,l1,g1⟩

/-! #### struct type 100 -/
structure S100 where
 f0 : S26
 f1 : S34
def z100 : S100:=⟨z26,z34⟩
def k100 : Kd S100:=Kd.iso (Kd.pair k26 k34) (fun x : S100 => (x.f0,x.f1))
theorem k100_open {w : World} {x : S100} {cs : List Value} (h : k100.K w x cs) : cs = [.int .i64 x.f0.f0,.int .i64 x.f0.f1,.int .i64 x.f1.f0,.int .i64 x.f1.f1]:=by
 obtain ⟨_,_,rfl,s0,s2⟩:=h
 obtain rfl:=k26_open s0
 obtain rfl:=k34_open s2
 exact rfl
theorem k100_openM {w : World} {base : Nat} {ok : Nat → Prop} {x : S100} {cs : List Value} (h : k100.M w base ok x cs) : cs = [.int .i64 x.f0.f0,.int .i64 x.f0.f1,.int .i64 x.f1.f0,.int .i64 x.f1.f1]:=by
 obtain ⟨_,_,rfl,s0,s2⟩:=h
 obtain rfl:=k26_openM s0
 obtain rfl:=k34_openM s2
 exact rfl
theorem k100_mkM (w : World) (base : Nat) (ok : Nat → Prop) (x : S100)  : k100.M w base ok x [.int .i64 x.f0.f0,.int .i64 x.f0.f1,.int .i64 x.f1.f0,.int .i64 x.f1.f1]:=⟨[.int .i64 x.f0.f0,.int .i64 x.f0.f1],[.int .i64 x.f1.f0,.int .i64 x.f1.f1],rfl,(k26_mkM w base ok x.f0 ),(k34_mkM w base ok x.f1 )⟩
def rd_T100 (xs : List S100) (i : Int) : S100:=xs.getD i.toNat z100
theorem at_T100 {w : World} {A : Option Addr} {n : Nat} {xs : List S100} (h : Kd.C k100 w A n xs) (i : Int) (h0 : 0 ≤ i) (h1 : i < n) : ∃ ad ,A = some ad ∧ w.cell? (ad.add (i.toNat * 4)) = some (.int .i64 (rd_T100 xs i).f0.f0) ∧ w.cell? ⟨(ad.add (i.toNat * 4)).block,(ad.add (i.toNat * 4)).off + 1,none⟩ = some (.int .i64 (rd_T100 xs i).f0.f1) ∧ w.cell? ⟨(ad.add (i.toNat * 4)).block,(ad.add (i.toNat * 4)).off + 2,none⟩ = some (.int .i64 (rd_T100 xs i).f1.f0) ∧ w.cell? ⟨(ad.add (i.toNat * 4)).block,(ad.add (i.toNat * 4)).off + 3,none⟩ = some (.int .i64 (rd_T100 xs i).f1.f1):=by
 obtain ⟨ad,c,e,_,hK,hc0⟩:=Kd.C_get h z100 i h0 h1
 have hc : ∀ j u,c[j]? = some u → w.cell? (ad.add (i.toNat * 4 + j)) = some u:=hc0
 obtain rfl:=k100_open hK
 exact ⟨ad,e,hc 0 _ rfl,by rw [← add_field _ _ 1 (by omega)];exact hc 1 _ rfl,by rw [← add_field _ _ 2 (by omega)];exact hc 2 _ rfl,by rw [← add_field _ _ 3 (by omega)];exact hc 3 _ rfl⟩

def rd_L16 (xs : List (List S100)) (i : Int) : (List S100):=xs.getD i.toNat ([] : List S100)
def rd_L17 (xs : List (List S54)) (i : Int) : (List S54):=xs.getD i.toNat ([] : List S54)
/-! #### struct type 70 -/
structure S70 where
 f0 : S26
 f1 : Int
 f2 : ByteArray
 f3 : ByteArray
 f4 : Int
 f5 : (List S100)
 f6 : (List S54)
def z70 : S70:=⟨z26,(0 : Int),(⟨#[]⟩ : ByteArray),(⟨#[]⟩ : ByteArray),(0 : Int),([] : List S100),([] : List S54)⟩
def k70 : Kd S70:=Kd.iso (Kd.pair k26 (Kd.pair (Kd.int .i64) (Kd.pair Kd.string (Kd.pair Kd.string (Kd.pair (Kd.int .i64) (Kd.pair (Kd.slice 100 k100) (Kd.slice 54 k54))))))) (fun x : S70 => (x.f0,x.f1,x.f2,x.f3,x.f4,x.f5,x.f6))
def rd_T70 (xs : List S70) (i : Int) : S70:=xs.getD i.toNat z70
def rd_L19 (xs : List (List S116)) (i : Int) : (List S116):=xs.getD i.toNat ([] : List S116)
def rd_L20 (xs : List (List S49)) (i : Int) : (List S49):=xs.getD i.toNat ([] : List S49)
/-! #### struct type 64 -/
structure S64 where
 f0 : S23
 f1 : Int
 f2 : ByteArray
 f3 : ByteArray
 f4 : Int
 f5 : (List S116)
 f6 : (List S49)
def z64 : S64:=⟨z23,(0 : Int),(⟨#[]⟩ : ByteArray),(⟨#[]⟩ : ByteArray),(0 : Int),([] : List S116),([] : List S49)⟩
def k64 : Kd S64:=Kd.iso (Kd.pair k23 (Kd.pair (Kd.int .i64) (Kd.pair Kd.string (Kd.pair Kd.string (Kd.pair (Kd.int .i64) (Kd.pair (Kd.slice 116 k116) (Kd.slice 49 k49))))))) (fun x : S64 => (x.f0,x.f1,x.f2,x.f3,x.f4,x.f5,x.f6))
theorem k64_open {w : World} {x : S64} {cs : List Value} (h : k64.K w x cs) : ∃ A6 c6 A7 c7,cs = [.int .i64 x.f0.f0,.int .i64 x.f0.f1,.int .i64 x.f1,.string x.f2,.string x.f3,.int .i64 x.f4,.slice A6 x.f5.length c6,.slice A7 x.f6.length c7] ∧ x.f5.length ≤ c6 ∧ k116.C w A6 x.f5.length x.f5 ∧ x.f6.length ≤ c7 ∧ k49.C w A7 x.f6.length x.f6:=by
 obtain ⟨_,_,rfl,s0,⟨_,_,rfl,rfl,⟨_,_,rfl,rfl,⟨_,_,rfl,rfl,⟨_,_,rfl,rfl,⟨_,_,rfl,⟨A6,c6,rfl,l6,g6⟩,⟨A7,c7,rfl,l7,g7⟩⟩⟩⟩⟩⟩⟩:=h
 obtain rfl:=k23_open s0
 exact ⟨A6,c6,A7,c7,rfl,l6,g6,l7,g7⟩
def rd_T64 (xs : List S64) (i : Int) : S64:=xs.getD i.toNat z64
end
section
/-! ### laws_szPlaceS: function 68 -/
def laws_szPlaceS.f (l0 : List (S116)) (a1 : Int) : Option (Int):=if (wrap64 (a1 - (l0.length : Int))) < 0 then (some (-1)) else (some (wrap64 (a1 - (l0.length : Int))))
set_option maxHeartbeats 8000000 in
set_option maxRecDepth 100000 in
theorem laws_szPlaceS.calls (A0 : Option Addr) (c0 : Nat) (l0 : List (S116)) (a1 : Int) (r : Int) (w : World) (hr0 : Kd.C k116 w A0 l0.length l0) (hc0 : l0.length ≤ c0) (h : laws_szPlaceS.f l0 a1 = some r) :
  Calls Try.prog 68 #[.slice A0 l0.length c0,.int .i64 a1] w fun e w' => e = .returned (.int .i64 r) ∧ Drawn0 w w':=by
 have HR0:=aMk hr0
 have HC0:=aMk hc0
 clear hr0 hc0
 have H : (if (wrap64 (a1 - (l0.length : Int))) < 0 then (some (-1)) else (some (wrap64 (a1 - (l0.length : Int))))) = some r:=h
 clear h
 by_cases c3 : (wrap64 (a1 - (l0.length : Int))) < 0
 ·rw [if_pos c3] at H
  have c3b0 : decide ((wrap64 (a1 - (l0.length : Int))) < 0) = true:=decide_eq_true c3
  clear c3
  obtain rfl:=Option.some.inj H
  go_enter Try.func68,Try.ntmps68
  go_wp2
  go_ret
  exact ⟨by first | rfl|(simp;done)|(simp [*];done)|(simp [ne_nil_b];done)|(simp [ne_nil_b, *];done),by repeat (first|exact Drawn0.refl _|apply Drawn0.step)⟩
 ·rw [if_neg c3] at H
  have c3b0 : decide ((wrap64 (a1 - (l0.length : Int))) < 0) = false:=decide_eq_false c3
  clear c3
  obtain rfl:=Option.some.inj H
  go_enter Try.func68,Try.ntmps68
  go_wp2
  go_ret
  exact ⟨by first | rfl|(simp;done)|(simp [*];done)|(simp [ne_nil_b];done)|(simp [ne_nil_b, *];done),by repeat (first|exact Drawn0.refl _|apply Drawn0.step)⟩
end
section
/-! ### laws_szRuleS: function 53 -/
def laws_szRuleS.f (l0 : List (S32)) (a1 : Int) : Option (Int):=if (wrap64 (a1 - (l0.length : Int))) < 0 then (some (-1)) else (some (wrap64 (a1 - (l0.length : Int))))
set_option maxHeartbeats 8000000 in
set_option maxRecDepth 100000 in
theorem laws_szRuleS.calls (A0 : Option Addr) (c0 : Nat) (l0 : List (S32)) (a1 : Int) (r : Int) (w : World) (hr0 : Kd.C k32 w A0 l0.length l0) (hc0 : l0.length ≤ c0) (h : laws_szRuleS.f l0 a1 = some r) :
  Calls Try.prog 53 #[.slice A0 l0.length c0,.int .i64 a1] w fun e w' => e = .returned (.int .i64 r) ∧ Drawn0 w w':=by
 have HR0:=aMk hr0
 have HC0:=aMk hc0
 clear hr0 hc0
 have H : (if (wrap64 (a1 - (l0.length : Int))) < 0 then (some (-1)) else (some (wrap64 (a1 - (l0.length : Int))))) = some r:=h
 clear h
 by_cases c3 : (wrap64 (a1 - (l0.length : Int))) < 0
 ·rw [if_pos c3] at H
  have c3b0 : decide ((wrap64 (a1 - (l0.length : Int))) < 0) = true:=decide_eq_true c3
  clear c3
  obtain rfl:=Option.some.inj H
  go_enter Try.func53,Try.ntmps53
  go_wp2
  go_ret
  exact ⟨by first | rfl|(simp;done)|(simp [*];done)|(simp [ne_nil_b];done)|(simp [ne_nil_b, *];done),by repeat (first|exact Drawn0.refl _|apply Drawn0.step)⟩
 ·rw [if_neg c3] at H
  have c3b0 : decide ((wrap64 (a1 - (l0.length : Int))) < 0) = false:=decide_eq_false c3
  clear c3
  obtain rfl:=Option.some.inj H
  go_enter Try.func53,Try.ntmps53
  go_wp2
  go_ret
  exact ⟨by first | rfl|(simp;done)|(simp [*];done)|(simp [ne_nil_b];done)|(simp [ne_nil_b, *];done),by repeat (first|exact Drawn0.refl _|apply Drawn0.step)⟩
end
section
/-! ### laws_szRole: function 22 -/
def laws_szRole.f (a0_0 : ByteArray) (l0_1 : List (S32)) (a0_2 : Int) (a0_3 : Int) (a0_4 : Int) (a1 : Int) : Option (Int):=if (wrap64 (a1 - (a0_0.size : Int))) < 0 then (some (-1)) else ((laws_szRuleS.f l0_1 (wrap64 (a1 - (a0_0.size : Int)))).bind fun t224 => (if t224 < 0 then (some (-1)) else (some t224)))
set_option maxHeartbeats 8000000 in
set_option maxRecDepth 100000 in
theorem laws_szRole.calls (a0_0 : ByteArray) (A0_1 : Option Addr) (c0_1 : Nat) (l0_1 : List (S32)) (a0_2 : Int) (a0_3 : Int) (a0_4 : Int) (a1 : Int) (r : Int) (w : World) (hr0_1 : Kd.C k32 w A0_1 l0_1.length l0_1) (hc0_1 : l0_1.length ≤ c0_1) (h : laws_szRole.f a0_0 l0_1 a0_2 a0_3 a0_4 a1 = some r) :
  Calls Try.prog 22 #[.agg #[.string a0_0,.slice A0_1 l0_1.length c0_1,.int .i64 a0_2,.int .i64 a0_3,.int .i64 a0_4],.int .i64 a1] w fun e w' => e = .returned (.int .i64 r) ∧ Below w.heap.size w w':=by
 have hu49:=Try.underlying49
 have HR0_1:=aMk hr0_1
 have HC0_1:=aMk hc0_1
 clear hr0_1 hc0_1
 have HB:=aMk (Below.refl w.heap.size w)
 have H : (if (wrap64 (a1 - (a0_0.size : Int))) < 0 then (some (-1)) else ((laws_szRuleS.f l0_1 (wrap64 (a1 - (a0_0.size : Int)))).bind fun t224 => (if t224 < 0 then (some (-1)) else (some t224)))) = some r:=h
 clear h
 by_cases c3 : (wrap64 (a1 - (a0_0.size : Int))) < 0
 ·rw [if_pos c3] at H
  have c3b0 : decide ((wrap64 (a1 - (a0_0.size : Int))) < 0) = true:=decide_eq_true c3
  clear c3
  obtain rfl:=Option.some.inj H
  go_enter Try.func22,Try.ntmps22
  go_wp2_with (first|((with_reducible refine gate_dst (N:=2) rfl ?_);refine bxE (N:=2) (cs:=#[.string a0_0,.slice A0_1 l0_1.length c0_1,.int .i64 a0_2,.int .i64 a0_3,.int .i64 a0_4]) (t:=49) ?_;intro gb223 hg w4 hbox hb;have n0_:=aMk (bSt hb);have n1_:=aMk (hbox);have n2_:=aMk ((by rw [hg];exact bSz : w.heap.size ≤ gb223));have n3_:=aMk ((by rw [hg];exact bSz : w.heap.size ≤ gb223));clear HB;have HB:=n0_;have BK223:=n1_;have GW223:=n2_;have GE223:=n3_;clear n0_ n1_ n2_ n3_;clear hb hbox hg;obtain ⟨hcz5_0,hcz5_1,hcz5_2,hcz5_3,hcz5_4,hfz5_0,hfz5_1,hfz5_2,hfz5_3,hfz5_4⟩:=bC5 BK223.out))
  go_ret
  exact ⟨eRf,by repeat (first|(with_reducible first|exact HB.out|apply bwA|apply bwN|apply bw1|refine below_set ?_ GE223.out)|exact HB.out)⟩
 ·rw [if_neg c3] at H
  have c3b0 : decide ((wrap64 (a1 - (a0_0.size : Int))) < 0) = false:=decide_eq_false c3
  clear c3
  replace H:=Option.bind_eq_some_iff.mp H
  obtain ⟨t224,A60,H⟩:=H
  replace H : (if t224 < 0 then (some (-1)) else (some t224)) = some r:=H
  have A6:=aMk A60
  clear A60
  by_cases c7 : t224 < 0
  ·rw [if_pos c7] at H
   have c7b0 : decide (t224 < 0) = true:=decide_eq_true c7
   clear c7
   obtain rfl:=Option.some.inj H
   go_enter Try.func22,Try.ntmps22
   go_wp2_with (first|((with_reducible refine gate_dst (N:=2) rfl ?_);refine bxE (N:=2) (cs:=#[.string a0_0,.slice A0_1 l0_1.length c0_1,.int .i64 a0_2,.int .i64 a0_3,.int .i64 a0_4]) (t:=49) ?_;intro gb223 hg w8 hbox hb;have n0_:=aMk (bSt hb);have n1_:=aMk (hbox);have n2_:=aMk ((by rw [hg];exact bSz : w.heap.size ≤ gb223));have n3_:=aMk ((by rw [hg];exact bSz : w.heap.size ≤ gb223));clear HB;have HB:=n0_;have BK223:=n1_;have GW223:=n2_;have GE223:=n3_;clear n0_ n1_ n2_ n3_;clear hb hbox hg;obtain ⟨hcz9_0,hcz9_1,hcz9_2,hcz9_3,hcz9_4,hfz9_0,hfz9_1,hfz9_2,hfz9_3,hfz9_4⟩:=bC5 BK223.out)|((with_reducible refine gate_callee (f:=53) rfl ?_);refine gLs 15 Try.func53 #[.slice A0_1 l0_1.length c0_1,.int .i64 (wrap64 (a1 - (a0_0.size : Int)))] ?_;(with_reducible refine (laws_szRuleS.calls _ _ l0_1 (wrap64 (a1 - (a0_0.size : Int))) t224 _ ?side1 ?side2 A6.out).mono ?_);(case side1 => repeat (first|exact (Kd.C_below HR0_1.out HB.out)|(with_reducible refine Kd.C_alloc ?_ _)|(with_reducible refine Kd.C_drewN ?_ _)|(with_reducible refine Kd.C_drew ?_)));(case side2 => exact HC0_1.out);rintro e w' ⟨rfl,⟨nd,rfl⟩⟩;refine ⟨_,rfl,?_⟩))
   go_ret
   exact ⟨eRf,by repeat (first|(with_reducible first|exact HB.out|apply bwA|apply bwN|apply bw1|refine below_set ?_ GE223.out)|exact HB.out)⟩
  ·rw [if_neg c7] at H
   have c7b0 : decide (t224 < 0) = false:=decide_eq_false c7
   clear c7
   obtain rfl:=Option.some.inj H
   go_enter Try.func22,Try.ntmps22
   go_wp2_with (first|((with_reducible refine gate_dst (N:=2) rfl ?_);refine bxE (N:=2) (cs:=#[.string a0_0,.slice A0_1 l0_1.length c0_1,.int .i64 a0_2,.int .i64 a0_3,.int .i64 a0_4]) (t:=49) ?_;intro gb223 hg w10 hbox hb;have n0_:=aMk (bSt hb);have n1_:=aMk (hbox);have n2_:=aMk ((by rw [hg];exact bSz : w.heap.size ≤ gb223));have n3_:=aMk ((by rw [hg];exact bSz : w.heap.size ≤ gb223));clear HB;have HB:=n0_;have BK223:=n1_;have GW223:=n2_;have GE223:=n3_;clear n0_ n1_ n2_ n3_;clear hb hbox hg;obtain ⟨hcz11_0,hcz11_1,hcz11_2,hcz11_3,hcz11_4,hfz11_0,hfz11_1,hfz11_2,hfz11_3,hfz11_4⟩:=bC5 BK223.out)|((with_reducible refine gate_callee (f:=53) rfl ?_);refine gLs 15 Try.func53 #[.slice A0_1 l0_1.length c0_1,.int .i64 (wrap64 (a1 - (a0_0.size : Int)))] ?_;(with_reducible refine (laws_szRuleS.calls _ _ l0_1 (wrap64 (a1 - (a0_0.size : Int))) t224 _ ?side1 ?side2 A6.out).mono ?_);(case side1 => repeat (first|exact (Kd.C_below HR0_1.out HB.out)|(with_reducible refine Kd.C_alloc ?_ _)|(with_reducible refine Kd.C_drewN ?_ _)|(with_reducible refine Kd.C_drew ?_)));(case side2 => exact HC0_1.out);rintro e w' ⟨rfl,⟨nd,rfl⟩⟩;refine ⟨_,rfl,?_⟩))
   go_ret
   exact ⟨eRf,by repeat (first|(with_reducible first|exact HB.out|apply bwA|apply bwN|apply bw1|refine below_set ?_ GE223.out)|exact HB.out)⟩
end
section
/-! ### laws_szRoleS: function 69 -/
def laws_szRoleS.l0 : Nat → List (S49) → Int → Int → Option (Int)
 | 0,_,_,_ => none
 | k + 1,x0,x1,x5 => if x5 < (x0.length : Int) then (if 0 ≤ x5 then ((laws_szRole.f ((rd_T49 x0 x5).f0) ((rd_T49 x0 x5).f1) ((rd_T49 x0 x5).f2) ((rd_T49 x0 x5).f3) ((rd_T49 x0 x5).f4) x1).bind fun t408 => (if t408 < 0 then (some (-1)) else (laws_szRoleS.l0 k x0 t408 (wrap64 (x5 + 1))))) else (none)) else (some x1)
def laws_szRoleS.f (k : Nat) (l0 : List (S49)) (a1 : Int) : Option (Int):=if (wrap64 (a1 - (l0.length : Int))) < 0 then (some (-1)) else (laws_szRoleS.l0 k l0 (wrap64 (a1 - (l0.length : Int))) 0)
theorem laws_szRoleS.mono_l : ∀ k,(∀ y0 y1 y2,LeO (laws_szRoleS.l0 k y0 y1 y2) (laws_szRoleS.l0 (k + 1) y0 y1 y2))
 | 0 => fun _ _ _ r h => by simp [laws_szRoleS.l0] at h
 | k + 1 => by
  have ih0:=laws_szRoleS.mono_l k
  ·intro y0 y1 y2
   unfold laws_szRoleS.l0
   repeat' first
   | (with_reducible exact ih0 _ _ _)
   | (with_reducible exact LeO.refl _)
   | (with_reducible exact LeO.none _)
   | (with_reducible refine LeO.ite ?_ ?_)
   | (with_reducible refine LeO.bind ?_ (fun _ => ?_))
   | exact ih0 _ _ _
   | exact LeO.none _
   | refine LeO.ite ?_ ?_
   | refine LeO.bind ?_ (fun _ => ?_)
theorem laws_szRoleS.mono : ∀ a0 a1 k,LeO (laws_szRoleS.f k a0 a1) (laws_szRoleS.f (k + 1) a0 a1):=by
 intro a0 a1 k
 have ih0:=laws_szRoleS.mono_l k
 unfold laws_szRoleS.f
 repeat' first
   | (with_reducible exact ih0 _ _ _)
   | (with_reducible exact LeO.refl _)
   | (with_reducible exact LeO.none _)
   | (with_reducible refine LeO.ite ?_ ?_)
   | (with_reducible refine LeO.bind ?_ (fun _ => ?_))
   | exact ih0 _ _ _
   | exact LeO.none _
   | refine LeO.ite ?_ ?_
   | refine LeO.bind ?_ (fun _ => ?_)
set_option maxHeartbeats 8000000 in
set_option maxRecDepth 100000 in
theorem laws_szRoleS.calls (k : Nat) (A0 : Option Addr) (c0 : Nat) (l0 : List (S49)) (a1 : Int) (r : Int) (w : World) (hr0 : Kd.C k49 w A0 l0.length l0) (hc0 : l0.length ≤ c0) (h : laws_szRoleS.f k l0 a1 = some r) :
  Calls Try.prog 69 #[.slice A0 l0.length c0,.int .i64 a1] w fun e w' => e = .returned (.int .i64 r) ∧ Below w.heap.size w w':=by
 have hu49:=Try.underlying49
 have HR0:=aMk hr0
 have HC0:=aMk hc0
 clear hr0 hc0
 have HB:=aMk (Below.refl w.heap.size w)
 have H : (if (wrap64 (a1 - (l0.length : Int))) < 0 then (some (-1)) else (laws_szRoleS.l0 k l0 (wrap64 (a1 - (l0.length : Int))) 0)) = some r:=h
 clear h
 by_cases c3 : (wrap64 (a1 - (l0.length : Int))) < 0
 ·rw [if_pos c3] at H
  have c3b0 : decide ((wrap64 (a1 - (l0.length : Int))) < 0) = true:=decide_eq_true c3
  clear c3
  obtain rfl:=Option.some.inj H
  go_enter Try.func69,Try.ntmps69
  go_wp2
  go_ret
  exact ⟨eRf,by repeat (first|(with_reducible first|exact HB.out|apply bwA|apply bwN|apply bw1)|exact HB.out)⟩
 ·rw [if_neg c3] at H
  have c3b0 : decide ((wrap64 (a1 - (l0.length : Int))) < 0) = false:=decide_eq_false c3
  clear c3
  have H':=aMk H
  clear H
  go_enter Try.func69,Try.ntmps69
  go_wp2
  go_loopg [1,5] k (fun kq v1 v5 w' => ∃ (x1_1 : Int) (x5_1 : Int),v1 = .int .i64 x1_1 ∧ v5 = .int .i64 x5_1 ∧ Aside0 (laws_szRoleS.l0 kq l0 x1_1 x5_1 = some r) ∧ Aside0 (kq ≤ k) ∧ Aside0 (Below w.heap.size w w'))
  case atStart => exact ⟨(wrap64 (a1 - (l0.length : Int))),(0),(by first | rfl|(simp;done)|(simp [*];done)|(simp [ne_nil_b];done)|(simp [ne_nil_b, *];done)),(by first | rfl|(simp;done)|(simp [*];done)|(simp [ne_nil_b];done)|(simp [ne_nil_b, *];done)),H',⟨Nat.le_refl _⟩,⟨by repeat (first|(with_reducible first|exact HB.out|apply bwA|apply bwN|apply bw1)|exact HB.out)⟩⟩
  case round =>
   clear H'
   try clear p2
   try clear c3
   try clear c3b0
   obtain ⟨x1_1,x5_1,rfl,rfl,HA,HK1,HB⟩:=hrel
   cases gk with
   | zero => exact absurd HA.out (by simp [laws_szRoleS.l0])
   | succ k1 =>
    have H:=HA.out
    clear HA
    simp only [laws_szRoleS.l0] at H
    by_cases c4 : x5_1 < (l0.length : Int)
    ·rw [if_pos c4] at H
     have c4b0 : decide (x5_1 < (l0.length : Int)) = true:=decide_eq_true c4
     clear c4
     by_cases c5 : 0 ≤ x5_1
     ·rw [if_pos c5] at H
      have c5b0 : decide (0 ≤ x5_1) = true:=decide_eq_true c5
      clear c5
      replace H:=Option.bind_eq_some_iff.mp H
      obtain ⟨t408,A60,H⟩:=H
      replace H : (if t408 < 0 then (some (-1)) else (laws_szRoleS.l0 k1 l0 t408 (wrap64 (x5_1 + 1)))) = some r:=H
      have A6:=aMk A60
      clear A60
      by_cases c7 : t408 < 0
      ·rw [if_pos c7] at H
       have c7b0 : decide (t408 < 0) = true:=decide_eq_true c7
       clear c7
       obtain rfl:=Option.some.inj H
       have p407 : 0 ≤ (x5_1 : Int):=of_decide_eq_true (by first|(with_reducible assumption) | assumption)
       have q407 : x5_1 < (l0.length : Int):=of_decide_eq_true (by first|(with_reducible assumption) | assumption)
       obtain ⟨ad407,A407_1,c407_1,e407,hx407_0,hx407_1,hx407_2,hx407_3,hx407_4,hl407_1,hi407_1⟩:=at_T49 HR0.out x5_1 p407 q407
       cases e407
       replace hx407_0:=bXc HB.out hx407_0
       replace hx407_1:=bXc HB.out hx407_1
       replace hx407_2:=bXc HB.out hx407_2
       replace hx407_3:=bXc HB.out hx407_3
       replace hx407_4:=bXc HB.out hx407_4
       have HR407_1:=aMk hi407_1
       have HC407_1:=aMk hl407_1
       clear hi407_1 hl407_1
       replace p407:=eq_true p407
       replace q407:=eq_true q407
       go_wp2_with (first|((with_reducible refine gate_callee (f:=22) rfl ?_);refine gLs 23 Try.func22 #[.agg #[.string ((rd_T49 l0 x5_1).f0),.slice A407_1 ((rd_T49 l0 x5_1).f1).length c407_1,.int .i64 ((rd_T49 l0 x5_1).f2),.int .i64 ((rd_T49 l0 x5_1).f3),.int .i64 ((rd_T49 l0 x5_1).f4)],.int .i64 x1_1] ?_;(with_reducible refine (laws_szRole.calls ((rd_T49 l0 x5_1).f0) _ _ ((rd_T49 l0 x5_1).f1) ((rd_T49 l0 x5_1).f2) ((rd_T49 l0 x5_1).f3) ((rd_T49 l0 x5_1).f4) x1_1 t408 _ ?side1 ?side2 A6.out).mono ?_);(case side1 => repeat (first|exact (Kd.C_below HR407_1.out HB.out)|(with_reducible refine Kd.C_alloc ?_ _)|(with_reducible refine Kd.C_drewN ?_ _)|(with_reducible refine Kd.C_drew ?_)));(case side2 => exact HC407_1.out);rintro e w8 ⟨rfl,hb⟩;refine ⟨_,rfl,?_⟩;have n0_:=aMk (bSt hb);clear HB;have HB:=n0_;clear n0_;(try clear hb);(try clear hb2);(try clear hk);(try clear hi)))
       go_ret
       exact ⟨eRf,by repeat (first|(with_reducible first|exact HB.out|apply bwA|apply bwN|apply bw1)|exact HB.out)⟩
      ·rw [if_neg c7] at H
       have c7b0 : decide (t408 < 0) = false:=decide_eq_false c7
       clear c7
       have H':=aMk H
       clear H
       have p407 : 0 ≤ (x5_1 : Int):=of_decide_eq_true (by first|(with_reducible assumption) | assumption)
       have q407 : x5_1 < (l0.length : Int):=of_decide_eq_true (by first|(with_reducible assumption) | assumption)
       obtain ⟨ad407,A407_1,c407_1,e407,hx407_0,hx407_1,hx407_2,hx407_3,hx407_4,hl407_1,hi407_1⟩:=at_T49 HR0.out x5_1 p407 q407
       cases e407
       replace hx407_0:=bXc HB.out hx407_0
       replace hx407_1:=bXc HB.out hx407_1
       replace hx407_2:=bXc HB.out hx407_2
       replace hx407_3:=bXc HB.out hx407_3
       replace hx407_4:=bXc HB.out hx407_4
       have HR407_1:=aMk hi407_1
       have HC407_1:=aMk hl407_1
       clear hi407_1 hl407_1
       replace p407:=eq_true p407
       replace q407:=eq_true q407
       go_wp2_with (first|((with_reducible refine gate_callee (f:=22) rfl ?_);refine gLs 23 Try.func22 #[.agg #[.string ((rd_T49 l0 x5_1).f0),.slice A407_1 ((rd_T49 l0 x5_1).f1).length c407_1,.int .i64 ((rd_T49 l0 x5_1).f2),.int .i64 ((rd_T49 l0 x5_1).f3),.int .i64 ((rd_T49 l0 x5_1).f4)],.int .i64 x1_1] ?_;(with_reducible refine (laws_szRole.calls ((rd_T49 l0 x5_1).f0) _ _ ((rd_T49 l0 x5_1).f1) ((rd_T49 l0 x5_1).f2) ((rd_T49 l0 x5_1).f3) ((rd_T49 l0 x5_1).f4) x1_1 t408 _ ?side1 ?side2 A6.out).mono ?_);(case side1 => repeat (first|exact (Kd.C_below HR407_1.out HB.out)|(with_reducible refine Kd.C_alloc ?_ _)|(with_reducible refine Kd.C_drewN ?_ _)|(with_reducible refine Kd.C_drew ?_)));(case side2 => exact HC407_1.out);rintro e w9 ⟨rfl,hb⟩;refine ⟨_,rfl,?_⟩;have n0_:=aMk (bSt hb);clear HB;have HB:=n0_;clear n0_;(try clear hb);(try clear hb2);(try clear hk);(try clear hi)))
       go_roundg k1
       case measure => have:=HK1.out;omega
       case rel => exact ⟨(t408),(wrap64 (x5_1 + 1)),(by first | rfl|(simp;done)|(simp [*];done)|(simp [ne_nil_b];done)|(simp [ne_nil_b, *];done)),(by first | rfl|(simp;done)|(simp [*];done)|(simp [ne_nil_b];done)|(simp [ne_nil_b, *];done)),H',⟨by have:=HK1.out;omega⟩,⟨by repeat (first|(with_reducible first|exact HB.out|apply bwA|apply bwN|apply bw1)|exact HB.out)⟩⟩
     ·rw [if_neg c5] at H
      exact absurd H (by simp)
    ·rw [if_neg c4] at H
     have c4b0 : decide (x5_1 < (l0.length : Int)) = false:=decide_eq_false c4
     clear c4
     obtain rfl:=Option.some.inj H
     go_wp2
     go_ret
     exact ⟨eRf,by repeat (first|(with_reducible first|exact HB.out|apply bwA|apply bwN|apply bw1)|exact HB.out)⟩
end
section
/-! ### laws_szConfig: function 31 -/
def laws_szConfig.f (k : Nat) (a0_0 : Int) (a0_1 : Int) (a0_2 : Int) (a0_3 : ByteArray) (a0_4 : ByteArray) (a0_5 : Int) (l0_6 : List (S116)) (l0_7 : List (S49)) (a1 : Int) : Option (Int):=if (wrap64 (a1 - (a0_3.size : Int))) < 0 then (some (-1)) else (if (wrap64 ((wrap64 (a1 - (a0_3.size : Int))) - (a0_4.size : Int))) < 0 then (some (-1)) else ((laws_szPlaceS.f l0_6 (wrap64 ((wrap64 (a1 - (a0_3.size : Int))) - (a0_4.size : Int)))).bind fun t410 => (if t410 < 0 then (some (-1)) else ((laws_szRoleS.f k l0_7 t410).bind fun t411 => (if t411 < 0 then (some (-1)) else (some t411))))))
theorem laws_szConfig.mono : ∀ a0 a1 a2 a3 a4 a5 a6 a7 a8 k,LeO (laws_szConfig.f k a0 a1 a2 a3 a4 a5 a6 a7 a8) (laws_szConfig.f (k + 1) a0 a1 a2 a3 a4 a5 a6 a7 a8):=by
 intro a0 a1 a2 a3 a4 a5 a6 a7 a8 k
 unfold laws_szConfig.f
 repeat' first
   | (with_reducible exact laws_szRoleS.mono ..)
   | (with_reducible exact LeO.refl _)
   | (with_reducible exact LeO.none _)
   | (with_reducible refine LeO.ite ?_ ?_)
   | (with_reducible refine LeO.bind ?_ (fun _ => ?_))
   | exact laws_szRoleS.mono ..
   | exact LeO.none _
   | refine LeO.ite ?_ ?_
   | refine LeO.bind ?_ (fun _ => ?_)
set_option maxHeartbeats 8000000 in
set_option maxRecDepth 100000 in
theorem laws_szConfig.calls (k : Nat) (a0_0 : Int) (a0_1 : Int) (a0_2 : Int) (a0_3 : ByteArray) (a0_4 : ByteArray) (a0_5 : Int) (A0_6 : Option Addr) (c0_6 : Nat) (l0_6 : List (S116)) (A0_7 : Option Addr) (c0_7 : Nat) (l0_7 : List (S49)) (a1 : Int) (r : Int) (w : World) (hr0_6 : Kd.C k116 w A0_6 l0_6.length l0_6) (hc0_6 : l0_6.length ≤ c0_6) (hr0_7 : Kd.C k49 w A0_7 l0_7.length l0_7) (hc0_7 : l0_7.length ≤ c0_7) (h : laws_szConfig.f k a0_0 a0_1 a0_2 a0_3 a0_4 a0_5 l0_6 l0_7 a1 = some r) :
  Calls Try.prog 31 #[.agg #[.int .i64 a0_0,.int .i64 a0_1,.int .i64 a0_2,.string a0_3,.string a0_4,.int .i64 a0_5,.slice A0_6 l0_6.length c0_6,.slice A0_7 l0_7.length c0_7],.int .i64 a1] w fun e w' => e = .returned (.int .i64 r) ∧ Below w.heap.size w w':=by
 have hu64:=Try.underlying64
 have HR0_6:=aMk hr0_6
 have HC0_6:=aMk hc0_6
 clear hr0_6 hc0_6
 have HR0_7:=aMk hr0_7
 have HC0_7:=aMk hc0_7
 clear hr0_7 hc0_7
 have HB:=aMk (Below.refl w.heap.size w)
 have H : (if (wrap64 (a1 - (a0_3.size : Int))) < 0 then (some (-1)) else (if (wrap64 ((wrap64 (a1 - (a0_3.size : Int))) - (a0_4.size : Int))) < 0 then (some (-1)) else ((laws_szPlaceS.f l0_6 (wrap64 ((wrap64 (a1 - (a0_3.size : Int))) - (a0_4.size : Int)))).bind fun t410 => (if t410 < 0 then (some (-1)) else ((laws_szRoleS.f k l0_7 t410).bind fun t411 => (if t411 < 0 then (some (-1)) else (some t411))))))) = some r:=h
 clear h
 by_cases c3 : (wrap64 (a1 - (a0_3.size : Int))) < 0
 ·rw [if_pos c3] at H
  have c3b0 : decide ((wrap64 (a1 - (a0_3.size : Int))) < 0) = true:=decide_eq_true c3
  clear c3
  obtain rfl:=Option.some.inj H
  go_enter Try.func31,Try.ntmps31
  go_wp2_with (first|((with_reducible refine gate_dst (N:=2) rfl ?_);refine bxE (N:=2) (cs:=#[.int .i64 a0_0,.int .i64 a0_1,.int .i64 a0_2,.string a0_3,.string a0_4,.int .i64 a0_5,.slice A0_6 l0_6.length c0_6,.slice A0_7 l0_7.length c0_7]) (t:=64) ?_;intro gb409 hg w4 hbox hb;have n0_:=aMk (bSt hb);have n1_:=aMk (hbox);have n2_:=aMk ((by rw [hg];exact bSz : w.heap.size ≤ gb409));have n3_:=aMk ((by rw [hg];exact bSz : w.heap.size ≤ gb409));clear HB;have HB:=n0_;have BK409:=n1_;have GW409:=n2_;have GE409:=n3_;clear n0_ n1_ n2_ n3_;clear hb hbox hg;obtain ⟨hcz5_0,hcz5_1,hcz5_2,hcz5_3,hcz5_4,hcz5_5,hcz5_6,hcz5_7,hfz5_0,hfz5_1,hfz5_2,hfz5_3,hfz5_4,hfz5_5,hfz5_6,hfz5_7⟩:=bC8 BK409.out))
  go_ret
  exact ⟨eRf,by repeat (first|(with_reducible first|exact HB.out|apply bwA|apply bwN|apply bw1|refine below_set ?_ GE409.out)|exact HB.out)⟩
 ·rw [if_neg c3] at H
  have c3b0 : decide ((wrap64 (a1 - (a0_3.size : Int))) < 0) = false:=decide_eq_false c3
  clear c3
  by_cases c6 : (wrap64 ((wrap64 (a1 - (a0_3.size : Int))) - (a0_4.size : Int))) < 0
  ·rw [if_pos c6] at H
   have c6b0 : decide ((wrap64 ((wrap64 (a1 - (a0_3.size : Int))) - (a0_4.size : Int))) < 0) = true:=decide_eq_true c6
   clear c6
   obtain rfl:=Option.some.inj H
   go_enter Try.func31,Try.ntmps31
   go_wp2_with (first|((with_reducible refine gate_dst (N:=2) rfl ?_);refine bxE (N:=2) (cs:=#[.int .i64 a0_0,.int .i64 a0_1,.int .i64 a0_2,.string a0_3,.string a0_4,.int .i64 a0_5,.slice A0_6 l0_6.length c0_6,.slice A0_7 l0_7.length c0_7]) (t:=64) ?_;intro gb409 hg w7 hbox hb;have n0_:=aMk (bSt hb);have n1_:=aMk (hbox);have n2_:=aMk ((by rw [hg];exact bSz : w.heap.size ≤ gb409));have n3_:=aMk ((by rw [hg];exact bSz : w.heap.size ≤ gb409));clear HB;have HB:=n0_;have BK409:=n1_;have GW409:=n2_;have GE409:=n3_;clear n0_ n1_ n2_ n3_;clear hb hbox hg;obtain ⟨hcz8_0,hcz8_1,hcz8_2,hcz8_3,hcz8_4,hcz8_5,hcz8_6,hcz8_7,hfz8_0,hfz8_1,hfz8_2,hfz8_3,hfz8_4,hfz8_5,hfz8_6,hfz8_7⟩:=bC8 BK409.out))
   go_ret
   exact ⟨eRf,by repeat (first|(with_reducible first|exact HB.out|apply bwA|apply bwN|apply bw1|refine below_set ?_ GE409.out)|exact HB.out)⟩
  ·rw [if_neg c6] at H
   have c6b0 : decide ((wrap64 ((wrap64 (a1 - (a0_3.size : Int))) - (a0_4.size : Int))) < 0) = false:=decide_eq_false c6
   clear c6
   replace H:=Option.bind_eq_some_iff.mp H
   obtain ⟨t410,A90,H⟩:=H
   replace H : (if t410 < 0 then (some (-1)) else ((laws_szRoleS.f k l0_7 t410).bind fun t411 => (if t411 < 0 then (some (-1)) else (some t411)))) = some r:=H
   have A9:=aMk A90
   clear A90
   by_cases c10 : t410 < 0
   ·rw [if_pos c10] at H
    have c10b0 : decide (t410 < 0) = true:=decide_eq_true c10
    clear c10
    obtain rfl:=Option.some.inj H
    go_enter Try.func31,Try.ntmps31
    go_wp2_with (first|((with_reducible refine gate_dst (N:=2) rfl ?_);refine bxE (N:=2) (cs:=#[.int .i64 a0_0,.int .i64 a0_1,.int .i64 a0_2,.string a0_3,.string a0_4,.int .i64 a0_5,.slice A0_6 l0_6.length c0_6,.slice A0_7 l0_7.length c0_7]) (t:=64) ?_;intro gb409 hg w11 hbox hb;have n0_:=aMk (bSt hb);have n1_:=aMk (hbox);have n2_:=aMk ((by rw [hg];exact bSz : w.heap.size ≤ gb409));have n3_:=aMk ((by rw [hg];exact bSz : w.heap.size ≤ gb409));clear HB;have HB:=n0_;have BK409:=n1_;have GW409:=n2_;have GE409:=n3_;clear n0_ n1_ n2_ n3_;clear hb hbox hg;obtain ⟨hcz12_0,hcz12_1,hcz12_2,hcz12_3,hcz12_4,hcz12_5,hcz12_6,hcz12_7,hfz12_0,hfz12_1,hfz12_2,hfz12_3,hfz12_4,hfz12_5,hfz12_6,hfz12_7⟩:=bC8 BK409.out)|((with_reducible refine gate_callee (f:=68) rfl ?_);refine gLs 22 Try.func68 #[.slice A0_6 l0_6.length c0_6,.int .i64 (wrap64 ((wrap64 (a1 - (a0_3.size : Int))) - (a0_4.size : Int)))] ?_;(with_reducible refine (laws_szPlaceS.calls _ _ l0_6 (wrap64 ((wrap64 (a1 - (a0_3.size : Int))) - (a0_4.size : Int))) t410 _ ?side1 ?side2 A9.out).mono ?_);(case side1 => repeat (first|exact (Kd.C_below HR0_6.out HB.out)|(with_reducible refine Kd.C_alloc ?_ _)|(with_reducible refine Kd.C_drewN ?_ _)|(with_reducible refine Kd.C_drew ?_)));(case side2 => exact HC0_6.out);rintro e w' ⟨rfl,⟨nd,rfl⟩⟩;refine ⟨_,rfl,?_⟩))
    go_ret
    exact ⟨eRf,by repeat (first|(with_reducible first|exact HB.out|apply bwA|apply bwN|apply bw1|refine below_set ?_ GE409.out)|exact HB.out)⟩
   ·rw [if_neg c10] at H
    have c10b0 : decide (t410 < 0) = false:=decide_eq_false c10
    clear c10
    replace H:=Option.bind_eq_some_iff.mp H
    obtain ⟨t411,A130,H⟩:=H
    replace H : (if t411 < 0 then (some (-1)) else (some t411)) = some r:=H
    have A13:=aMk A130
    clear A130
    by_cases c14 : t411 < 0
    ·rw [if_pos c14] at H
     have c14b0 : decide (t411 < 0) = true:=decide_eq_true c14
     clear c14
     obtain rfl:=Option.some.inj H
     go_enter Try.func31,Try.ntmps31
     go_wp2_with (first|((with_reducible refine gate_dst (N:=2) rfl ?_);refine bxE (N:=2) (cs:=#[.int .i64 a0_0,.int .i64 a0_1,.int .i64 a0_2,.string a0_3,.string a0_4,.int .i64 a0_5,.slice A0_6 l0_6.length c0_6,.slice A0_7 l0_7.length c0_7]) (t:=64) ?_;intro gb409 hg w15 hbox hb;have n0_:=aMk (bSt hb);have n1_:=aMk (hbox);have n2_:=aMk ((by rw [hg];exact bSz : w.heap.size ≤ gb409));have n3_:=aMk ((by rw [hg];exact bSz : w.heap.size ≤ gb409));clear HB;have HB:=n0_;have BK409:=n1_;have GW409:=n2_;have GE409:=n3_;clear n0_ n1_ n2_ n3_;clear hb hbox hg;obtain ⟨hcz16_0,hcz16_1,hcz16_2,hcz16_3,hcz16_4,hcz16_5,hcz16_6,hcz16_7,hfz16_0,hfz16_1,hfz16_2,hfz16_3,hfz16_4,hfz16_5,hfz16_6,hfz16_7⟩:=bC8 BK409.out)|((with_reducible refine gate_callee (f:=68) rfl ?_);refine gLs 22 Try.func68 #[.slice A0_6 l0_6.length c0_6,.int .i64 (wrap64 ((wrap64 (a1 - (a0_3.size : Int))) - (a0_4.size : Int)))] ?_;(with_reducible refine (laws_szPlaceS.calls _ _ l0_6 (wrap64 ((wrap64 (a1 - (a0_3.size : Int))) - (a0_4.size : Int))) t410 _ ?side1 ?side2 A9.out).mono ?_);(case side1 => repeat (first|exact (Kd.C_below HR0_6.out HB.out)|(with_reducible refine Kd.C_alloc ?_ _)|(with_reducible refine Kd.C_drewN ?_ _)|(with_reducible refine Kd.C_drew ?_)));(case side2 => exact HC0_6.out);rintro e w' ⟨rfl,⟨nd,rfl⟩⟩;refine ⟨_,rfl,?_⟩)|((with_reducible refine gate_callee (f:=69) rfl ?_);refine gLs 28 Try.func69 #[.slice A0_7 l0_7.length c0_7,.int .i64 t410] ?_;(with_reducible refine (laws_szRoleS.calls k _ _ l0_7 t410 t411 _ ?side1 ?side2 A13.out).mono ?_);(case side1 => repeat (first|exact (Kd.C_below HR0_7.out (by repeat (first|(with_reducible first|exact HB.out|apply bwA|apply bwN|apply bw1|refine below_set ?_ GE409.out)|exact HB.out)))|(with_reducible refine Kd.C_alloc ?_ _)|(with_reducible refine Kd.C_drewN ?_ _)|(with_reducible refine Kd.C_drew ?_)));(case side2 => exact HC0_7.out);rintro e w17 ⟨rfl,hb⟩;refine ⟨_,rfl,?_⟩;have n0_:=aMk (bkB BK409.out hb);have n1_:=aMk (below_step (by repeat (first|(with_reducible first|exact HB.out|apply bwA|apply bwN|apply bw1|refine below_set ?_ GE409.out)|exact HB.out)) hb);clear BK409;clear HB;have BK409:=n0_;have HB:=n1_;clear n0_ n1_;(try clear hb);(try clear hb2);(try clear hk);(try clear hi)))
     go_ret
     exact ⟨eRf,by repeat (first|(with_reducible first|exact HB.out|apply bwA|apply bwN|apply bw1|refine below_set ?_ GE409.out)|exact HB.out)⟩
    ·rw [if_neg c14] at H
     have c14b0 : decide (t411 < 0) = false:=decide_eq_false c14
     clear c14
     obtain rfl:=Option.some.inj H
     go_enter Try.func31,Try.ntmps31
     go_wp2_with (first|((with_reducible refine gate_dst (N:=2) rfl ?_);refine bxE (N:=2) (cs:=#[.int .i64 a0_0,.int .i64 a0_1,.int .i64 a0_2,.string a0_3,.string a0_4,.int .i64 a0_5,.slice A0_6 l0_6.length c0_6,.slice A0_7 l0_7.length c0_7]) (t:=64) ?_;intro gb409 hg w18 hbox hb;have n0_:=aMk (bSt hb);have n1_:=aMk (hbox);have n2_:=aMk ((by rw [hg];exact bSz : w.heap.size ≤ gb409));have n3_:=aMk ((by rw [hg];exact bSz : w.heap.size ≤ gb409));clear HB;have HB:=n0_;have BK409:=n1_;have GW409:=n2_;have GE409:=n3_;clear n0_ n1_ n2_ n3_;clear hb hbox hg;obtain ⟨hcz19_0,hcz19_1,hcz19_2,hcz19_3,hcz19_4,hcz19_5,hcz19_6,hcz19_7,hfz19_0,hfz19_1,hfz19_2,hfz19_3,hfz19_4,hfz19_5,hfz19_6,hfz19_7⟩:=bC8 BK409.out)|((with_reducible refine gate_callee (f:=68) rfl ?_);refine gLs 22 Try.func68 #[.slice A0_6 l0_6.length c0_6,.int .i64 (wrap64 ((wrap64 (a1 - (a0_3.size : Int))) - (a0_4.size : Int)))] ?_;(with_reducible refine (laws_szPlaceS.calls _ _ l0_6 (wrap64 ((wrap64 (a1 - (a0_3.size : Int))) - (a0_4.size : Int))) t410 _ ?side1 ?side2 A9.out).mono ?_);(case side1 => repeat (first|exact (Kd.C_below HR0_6.out HB.out)|(with_reducible refine Kd.C_alloc ?_ _)|(with_reducible refine Kd.C_drewN ?_ _)|(with_reducible refine Kd.C_drew ?_)));(case side2 => exact HC0_6.out);rintro e w' ⟨rfl,⟨nd,rfl⟩⟩;refine ⟨_,rfl,?_⟩)|((with_reducible refine gate_callee (f:=69) rfl ?_);refine gLs 28 Try.func69 #[.slice A0_7 l0_7.length c0_7,.int .i64 t410] ?_;(with_reducible refine (laws_szRoleS.calls k _ _ l0_7 t410 t411 _ ?side1 ?side2 A13.out).mono ?_);(case side1 => repeat (first|exact (Kd.C_below HR0_7.out (by repeat (first|(with_reducible first|exact HB.out|apply bwA|apply bwN|apply bw1|refine below_set ?_ GE409.out)|exact HB.out)))|(with_reducible refine Kd.C_alloc ?_ _)|(with_reducible refine Kd.C_drewN ?_ _)|(with_reducible refine Kd.C_drew ?_)));(case side2 => exact HC0_7.out);rintro e w20 ⟨rfl,hb⟩;refine ⟨_,rfl,?_⟩;have n0_:=aMk (bkB BK409.out hb);have n1_:=aMk (below_step (by repeat (first|(with_reducible first|exact HB.out|apply bwA|apply bwN|apply bw1|refine below_set ?_ GE409.out)|exact HB.out)) hb);clear BK409;clear HB;have BK409:=n0_;have HB:=n1_;clear n0_ n1_;(try clear hb);(try clear hb2);(try clear hk);(try clear hi)))
     go_ret
     exact ⟨eRf,by repeat (first|(with_reducible first|exact HB.out|apply bwA|apply bwN|apply bw1|refine below_set ?_ GE409.out)|exact HB.out)⟩
end
section
/-! ### spec_l01In: function 55 -/
def spec_l01In.f (a0 : Int) (a1 : Int) (a2 : Int) : Option (Bool):=if a1 ≤ a0 then (some (decide (a0 ≤ a2))) else (some false)
set_option maxHeartbeats 8000000 in
set_option maxRecDepth 100000 in
theorem spec_l01In.calls (a0 : Int) (a1 : Int) (a2 : Int) (r : Bool) (w : World) (h : spec_l01In.f a0 a1 a2 = some r) :
  Calls Try.prog 55 #[.int .i64 a0,.int .i64 a1,.int .i64 a2] w fun e w' => e = .returned (.bool r) ∧ Drawn0 w w':=by
 have H : (if a1 ≤ a0 then (some (decide (a0 ≤ a2))) else (some false)) = some r:=h
 clear h
 by_cases c4 : a1 ≤ a0
 ·rw [if_pos c4] at H
  have c4b0 : decide (a1 ≤ a0) = true:=decide_eq_true c4
  clear c4
  obtain rfl:=Option.some.inj H
  go_enter Try.func55,Try.ntmps55
  go_wp2
  go_ret
  exact ⟨by first | rfl|(simp;done)|(simp [*];done)|(simp [ne_nil_b];done)|(simp [ne_nil_b, *];done),by repeat (first|exact Drawn0.refl _|apply Drawn0.step)⟩
 ·rw [if_neg c4] at H
  have c4b0 : decide (a1 ≤ a0) = false:=decide_eq_false c4
  clear c4
  obtain rfl:=Option.some.inj H
  go_enter Try.func55,Try.ntmps55
  go_wp2
  go_ret
  exact ⟨by first | rfl|(simp;done)|(simp [*];done)|(simp [ne_nil_b];done)|(simp [ne_nil_b, *];done),by repeat (first|exact Drawn0.refl _|apply Drawn0.step)⟩
end
section
/-! ### spec_l01Ip: function 39 -/
def spec_l01Ip.f (a0 : Int) : Option (Bool):=(spec_l01In.f a0 0 4294967295).bind fun t101 => (some t101)
set_option maxHeartbeats 8000000 in
set_option maxRecDepth 100000 in
theorem spec_l01Ip.calls (a0 : Int) (r : Bool) (w : World) (h : spec_l01Ip.f a0 = some r) :
  Calls Try.prog 39 #[.int .i64 a0] w fun e w' => e = .returned (.bool r) ∧ Drawn0 w w':=by
 have H : ((spec_l01In.f a0 0 4294967295).bind fun t101 => (some t101)) = some r:=h
 clear h
 replace H:=Option.bind_eq_some_iff.mp H
 obtain ⟨t101,A20,H⟩:=H
 replace H : (some t101) = some r:=H
 have A2:=aMk A20
 clear A20
 obtain rfl:=Option.some.inj H
 go_enter Try.func39,Try.ntmps39
 go_wp2_with (first|((with_reducible refine gate_callee (f:=55) rfl ?_);refine gLs 4 Try.func55 #[.int .i64 a0,.int .i64 0,.int .i64 4294967295] ?_;(with_reducible refine (spec_l01In.calls a0 0 4294967295 t101 _ A2.out).mono ?_);rintro e w' ⟨rfl,⟨nd,rfl⟩⟩;refine ⟨_,rfl,?_⟩))
 go_ret
 exact ⟨by first | rfl|(simp;done)|(simp [*];done)|(simp [ne_nil_b];done)|(simp [ne_nil_b, *];done),by repeat (first|exact Drawn0.refl _|apply Drawn0.step)⟩
end
section
/-! ### spec_NetOK: function 38 -/
def spec_NetOK.f (a0_0 : Int) (a0_1 : Int) : Option (Bool):=(spec_l01Ip.f a0_0).bind fun t103 => (if t103 = true then ((spec_l01In.f a0_1 0 32).bind fun t104 => (if t104 = true then (if 0 ≤ (IntKind.u64.wrap (wrap64 (32 - a0_1))) then (some ((Go.bits .and .i64 a0_0 (wrap64 ((shl .i64 1 (IntKind.u64.wrap (wrap64 (32 - a0_1)))) - 1))) == 0)) else (none)) else (some false))) else (some false))
set_option maxHeartbeats 8000000 in
set_option maxRecDepth 100000 in
theorem spec_NetOK.calls (a0_0 : Int) (a0_1 : Int) (r : Bool) (w : World) (h : spec_NetOK.f a0_0 a0_1 = some r) :
  Calls Try.prog 38 #[.agg #[.int .i64 a0_0,.int .i64 a0_1]] w fun e w' => e = .returned (.bool r) ∧ Below w.heap.size w w':=by
 have hu26:=Try.underlying26
 have HB:=aMk (Below.refl w.heap.size w)
 have H : ((spec_l01Ip.f a0_0).bind fun t103 => (if t103 = true then ((spec_l01In.f a0_1 0 32).bind fun t104 => (if t104 = true then (if 0 ≤ (IntKind.u64.wrap (wrap64 (32 - a0_1))) then (some ((Go.bits .and .i64 a0_0 (wrap64 ((shl .i64 1 (IntKind.u64.wrap (wrap64 (32 - a0_1)))) - 1))) == 0)) else (none)) else (some false))) else (some false))) = some r:=h
 clear h
 replace H:=Option.bind_eq_some_iff.mp H
 obtain ⟨t103,A20,H⟩:=H
 replace H : (if t103 = true then ((spec_l01In.f a0_1 0 32).bind fun t104 => (if t104 = true then (if 0 ≤ (IntKind.u64.wrap (wrap64 (32 - a0_1))) then (some ((Go.bits .and .i64 a0_0 (wrap64 ((shl .i64 1 (IntKind.u64.wrap (wrap64 (32 - a0_1)))) - 1))) == 0)) else (none)) else (some false))) else (some false)) = some r:=H
 have A2:=aMk A20
 clear A20
 by_cases c3 : t103 = true
 ·subst c3
  have H1 : ((spec_l01In.f a0_1 0 32).bind fun t104 => (if t104 = true then (if 0 ≤ (IntKind.u64.wrap (wrap64 (32 - a0_1))) then (some ((Go.bits .and .i64 a0_0 (wrap64 ((shl .i64 1 (IntKind.u64.wrap (wrap64 (32 - a0_1)))) - 1))) == 0)) else (none)) else (some false))) = some r:=by rw [if_pos rfl] at H;exact H
  clear H
  have H:=H1
  clear H1
  replace H:=Option.bind_eq_some_iff.mp H
  obtain ⟨t104,A40,H⟩:=H
  replace H : (if t104 = true then (if 0 ≤ (IntKind.u64.wrap (wrap64 (32 - a0_1))) then (some ((Go.bits .and .i64 a0_0 (wrap64 ((shl .i64 1 (IntKind.u64.wrap (wrap64 (32 - a0_1)))) - 1))) == 0)) else (none)) else (some false)) = some r:=H
  have A4:=aMk A40
  clear A40
  by_cases c5 : t104 = true
  ·subst c5
   have H1 : (if 0 ≤ (IntKind.u64.wrap (wrap64 (32 - a0_1))) then (some ((Go.bits .and .i64 a0_0 (wrap64 ((shl .i64 1 (IntKind.u64.wrap (wrap64 (32 - a0_1)))) - 1))) == 0)) else (none)) = some r:=by rw [if_pos rfl] at H;exact H
   clear H
   have H:=H1
   clear H1
   obtain ⟨ji6,hji6⟩ : ∃ j_ : Int,(IntKind.u64.wrap (wrap64 (32 - a0_1))) = j_:=⟨_,rfl⟩
   replace H : (if 0 ≤ (ji6) then (some ((Go.bits .and .i64 a0_0 (wrap64 ((shl .i64 1 (ji6)) - 1))) == 0)) else (none)) = some r:=by first|(rw [hji6] at H;exact H)|(simp only [hji6] at H ⊢;exact H)
   (try rw [hji6] at A2)
   (try rw [hji6] at A4)
   by_cases c7 : 0 ≤ (ji6)
   ·rw [if_pos c7] at H
    have c7b0:=eq_true c7
    have c7b1 : decide (0 ≤ (ji6)) = true:=decide_eq_true c7
    clear c7
    obtain ⟨ji8,hji8⟩ : ∃ j_ : Int,(shl .i64 1 (ji6)) = j_:=⟨_,rfl⟩
    replace H : (some ((Go.bits .and .i64 a0_0 (wrap64 ((ji8) - 1))) == 0)) = some r:=by first|(rw [hji8] at H;exact H)|(simp only [hji8] at H ⊢;exact H)
    (try rw [hji8] at A2)
    (try rw [hji8] at A4)
    have hji8_ : (IntKind.i64.wrap (1 * 2 ^ min (ji6).toNat 64)) = ji8:=hji8
    have hji8z : (ji6) ≤ 64 → (IntKind.i64.wrap (1 * 2 ^ (ji6).toNat)) = ji8:=shl_small hji8
    have hji8u : (IntKind.i64.wrap (2 ^ min (ji6).toNat 64)) = ji8:=by have h_:=hji8_;rw [Int.one_mul] at h_;exact h_
    have hji8v : (ji6) ≤ 64 → (IntKind.i64.wrap (2 ^ (ji6).toNat)) = ji8:=fun hle_ => by have h_:=hji8z hle_;rw [Int.one_mul] at h_;exact h_
    have hji8y : (wrap64 (1 * 2 ^ min (ji6).toNat 64)) = ji8:=(i64_w _).symm.trans hji8_
    have hji8x : (ji6) ≤ 64 → (wrap64 (1 * 2 ^ (ji6).toNat)) = ji8:=fun h_ => (i64_w _).symm.trans (hji8z h_)
    obtain rfl:=Option.some.inj H
    go_enter Try.func38,Try.ntmps38
    go_wp2_with (first|((with_reducible refine gate_dst (N:=1) rfl ?_);refine bxE (N:=1) (cs:=#[.int .i64 a0_0,.int .i64 a0_1]) (t:=26) ?_;intro gb102 hg w9 hbox hb;have n0_:=aMk (bSt hb);have n1_:=aMk (hbox);have n2_:=aMk ((by rw [hg];exact bSz : w.heap.size ≤ gb102));have n3_:=aMk ((by rw [hg];exact bSz : w.heap.size ≤ gb102));clear HB;have HB:=n0_;have BK102:=n1_;have GW102:=n2_;have GE102:=n3_;clear n0_ n1_ n2_ n3_;clear hb hbox hg;obtain ⟨hcz10_0,hcz10_1,hfz10_0,hfz10_1⟩:=bC2 BK102.out)|((with_reducible refine gate_callee (f:=39) rfl ?_);refine gLs 5 Try.func39 #[.int .i64 a0_0] ?_;(with_reducible refine (spec_l01Ip.calls a0_0 true _ A2.out).mono ?_);rintro e w' ⟨rfl,⟨nd,rfl⟩⟩;refine ⟨_,rfl,?_⟩)|(go_at_call 55;(with_reducible refine (spec_l01In.calls a0_1 0 32 true _ A4.out).mono ?_);rintro e w' ⟨rfl,⟨nd,rfl⟩⟩))
    go_ret
    exact ⟨by first | rfl|(simp [errW_none,errW_some] <;> rfl)|(simp only [← hji6,← hji8];first | rfl|(simp [errW_none,errW_some] <;> rfl))|(simp [*,errW_none,errW_some] <;> rfl),by repeat (first|(with_reducible first|exact HB.out|apply bwA|apply bwN|apply bw1|refine below_set ?_ GE102.out)|exact HB.out)⟩
   ·rw [if_neg c7] at H
    exact absurd H (by simp)
  ·replace c5:=Bool.eq_false_iff.mpr c5
   subst c5
   have H1 : (some false) = some r:=by rw [if_neg (show ¬ (false = true) by decide)] at H;exact H
   clear H
   have H:=H1
   clear H1
   obtain rfl:=Option.some.inj H
   go_enter Try.func38,Try.ntmps38
   go_wp2_with (first|((with_reducible refine gate_dst (N:=1) rfl ?_);refine bxE (N:=1) (cs:=#[.int .i64 a0_0,.int .i64 a0_1]) (t:=26) ?_;intro gb102 hg w11 hbox hb;have n0_:=aMk (bSt hb);have n1_:=aMk (hbox);have n2_:=aMk ((by rw [hg];exact bSz : w.heap.size ≤ gb102));have n3_:=aMk ((by rw [hg];exact bSz : w.heap.size ≤ gb102));clear HB;have HB:=n0_;have BK102:=n1_;have GW102:=n2_;have GE102:=n3_;clear n0_ n1_ n2_ n3_;clear hb hbox hg;obtain ⟨hcz12_0,hcz12_1,hfz12_0,hfz12_1⟩:=bC2 BK102.out)|((with_reducible refine gate_callee (f:=39) rfl ?_);refine gLs 5 Try.func39 #[.int .i64 a0_0] ?_;(with_reducible refine (spec_l01Ip.calls a0_0 true _ A2.out).mono ?_);rintro e w' ⟨rfl,⟨nd,rfl⟩⟩;refine ⟨_,rfl,?_⟩)|(go_at_call 55;(with_reducible refine (spec_l01In.calls a0_1 0 32 false _ A4.out).mono ?_);rintro e w' ⟨rfl,⟨nd,rfl⟩⟩))
   go_ret
   exact ⟨eRf,by repeat (first|(with_reducible first|exact HB.out|apply bwA|apply bwN|apply bw1|refine below_set ?_ GE102.out)|exact HB.out)⟩
 ·replace c3:=Bool.eq_false_iff.mpr c3
  subst c3
  have H1 : (some false) = some r:=by rw [if_neg (show ¬ (false = true) by decide)] at H;exact H
  clear H
  have H:=H1
  clear H1
  obtain rfl:=Option.some.inj H
  go_enter Try.func38,Try.ntmps38
  go_wp2_with (first|((with_reducible refine gate_dst (N:=1) rfl ?_);refine bxE (N:=1) (cs:=#[.int .i64 a0_0,.int .i64 a0_1]) (t:=26) ?_;intro gb102 hg w13 hbox hb;have n0_:=aMk (bSt hb);have n1_:=aMk (hbox);have n2_:=aMk ((by rw [hg];exact bSz : w.heap.size ≤ gb102));have n3_:=aMk ((by rw [hg];exact bSz : w.heap.size ≤ gb102));clear HB;have HB:=n0_;have BK102:=n1_;have GW102:=n2_;have GE102:=n3_;clear n0_ n1_ n2_ n3_;clear hb hbox hg;obtain ⟨hcz14_0,hcz14_1,hfz14_0,hfz14_1⟩:=bC2 BK102.out)|((with_reducible refine gate_callee (f:=39) rfl ?_);refine gLs 5 Try.func39 #[.int .i64 a0_0] ?_;(with_reducible refine (spec_l01Ip.calls a0_0 false _ A2.out).mono ?_);rintro e w' ⟨rfl,⟨nd,rfl⟩⟩;refine ⟨_,rfl,?_⟩))
  go_ret
  exact ⟨eRf,by repeat (first|(with_reducible first|exact HB.out|apply bwA|apply bwN|apply bw1|refine below_set ?_ GE102.out)|exact HB.out)⟩
end
section
/-! ### spec_l07Range: function 44 -/
def spec_l07Range.f (a0_0 : Int) (a0_1 : Int) : Option (Bool):=(spec_l01In.f a0_0 0 65535).bind fun t132 => (if t132 = true then ((spec_l01In.f a0_1 a0_0 65535).bind fun t133 => (some t133)) else (some false))
set_option maxHeartbeats 8000000 in
set_option maxRecDepth 100000 in
theorem spec_l07Range.calls (a0_0 : Int) (a0_1 : Int) (r : Bool) (w : World) (h : spec_l07Range.f a0_0 a0_1 = some r) :
  Calls Try.prog 44 #[.agg #[.int .i64 a0_0,.int .i64 a0_1]] w fun e w' => e = .returned (.bool r) ∧ Below w.heap.size w w':=by
 have hu34:=Try.underlying34
 have HB:=aMk (Below.refl w.heap.size w)
 have H : ((spec_l01In.f a0_0 0 65535).bind fun t132 => (if t132 = true then ((spec_l01In.f a0_1 a0_0 65535).bind fun t133 => (some t133)) else (some false))) = some r:=h
 clear h
 replace H:=Option.bind_eq_some_iff.mp H
 obtain ⟨t132,A20,H⟩:=H
 replace H : (if t132 = true then ((spec_l01In.f a0_1 a0_0 65535).bind fun t133 => (some t133)) else (some false)) = some r:=H
 have A2:=aMk A20
 clear A20
 by_cases c3 : t132 = true
 ·subst c3
  have H1 : ((spec_l01In.f a0_1 a0_0 65535).bind fun t133 => (some t133)) = some r:=by rw [if_pos rfl] at H;exact H
  clear H
  have H:=H1
  clear H1
  replace H:=Option.bind_eq_some_iff.mp H
  obtain ⟨t133,A40,H⟩:=H
  replace H : (some t133) = some r:=H
  have A4:=aMk A40
  clear A40
  obtain rfl:=Option.some.inj H
  go_enter Try.func44,Try.ntmps44
  go_wp2_with (first|((with_reducible refine gate_dst (N:=1) rfl ?_);refine bxE (N:=1) (cs:=#[.int .i64 a0_0,.int .i64 a0_1]) (t:=34) ?_;intro gb131 hg w5 hbox hb;have n0_:=aMk (bSt hb);have n1_:=aMk (hbox);have n2_:=aMk ((by rw [hg];exact bSz : w.heap.size ≤ gb131));have n3_:=aMk ((by rw [hg];exact bSz : w.heap.size ≤ gb131));clear HB;have HB:=n0_;have BK131:=n1_;have GW131:=n2_;have GE131:=n3_;clear n0_ n1_ n2_ n3_;clear hb hbox hg;obtain ⟨hcz6_0,hcz6_1,hfz6_0,hfz6_1⟩:=bC2 BK131.out)|((with_reducible refine gate_callee (f:=55) rfl ?_);refine gLs 5 Try.func55 #[.int .i64 a0_0,.int .i64 0,.int .i64 65535] ?_;(with_reducible refine (spec_l01In.calls a0_0 0 65535 true _ A2.out).mono ?_);rintro e w' ⟨rfl,⟨nd,rfl⟩⟩;refine ⟨_,rfl,?_⟩)|(go_at_call 55;(with_reducible refine (spec_l01In.calls a0_1 a0_0 65535 t133 _ A4.out).mono ?_);rintro e w' ⟨rfl,⟨nd,rfl⟩⟩))
  go_ret
  exact ⟨eRf,by repeat (first|(with_reducible first|exact HB.out|apply bwA|apply bwN|apply bw1|refine below_set ?_ GE131.out)|exact HB.out)⟩
 ·replace c3:=Bool.eq_false_iff.mpr c3
  subst c3
  have H1 : (some false) = some r:=by rw [if_neg (show ¬ (false = true) by decide)] at H;exact H
  clear H
  have H:=H1
  clear H1
  obtain rfl:=Option.some.inj H
  go_enter Try.func44,Try.ntmps44
  go_wp2_with (first|((with_reducible refine gate_dst (N:=1) rfl ?_);refine bxE (N:=1) (cs:=#[.int .i64 a0_0,.int .i64 a0_1]) (t:=34) ?_;intro gb131 hg w7 hbox hb;have n0_:=aMk (bSt hb);have n1_:=aMk (hbox);have n2_:=aMk ((by rw [hg];exact bSz : w.heap.size ≤ gb131));have n3_:=aMk ((by rw [hg];exact bSz : w.heap.size ≤ gb131));clear HB;have HB:=n0_;have BK131:=n1_;have GW131:=n2_;have GE131:=n3_;clear n0_ n1_ n2_ n3_;clear hb hbox hg;obtain ⟨hcz8_0,hcz8_1,hfz8_0,hfz8_1⟩:=bC2 BK131.out)|((with_reducible refine gate_callee (f:=55) rfl ?_);refine gLs 5 Try.func55 #[.int .i64 a0_0,.int .i64 0,.int .i64 65535] ?_;(with_reducible refine (spec_l01In.calls a0_0 0 65535 false _ A2.out).mono ?_);rintro e w' ⟨rfl,⟨nd,rfl⟩⟩;refine ⟨_,rfl,?_⟩))
  go_ret
  exact ⟨eRf,by repeat (first|(with_reducible first|exact HB.out|apply bwA|apply bwN|apply bw1|refine below_set ?_ GE131.out)|exact HB.out)⟩
end
section
/-! ### spec_RuleOK: function 14 -/
def spec_RuleOK.f (a0_0 : Int) (a0_1 : Int) (a0_2 : Int) (a0_3 : Int) (a0_4 : Int) (a0_5 : Bool) : Option (Bool):=if a0_0 = 0 then ((spec_NetOK.f a0_1 a0_2).bind fun t135 => (if t135 = true then ((spec_l07Range.f a0_3 a0_4).bind fun t136 => (some t136)) else (some false))) else (if a0_0 = 1 then ((spec_NetOK.f a0_1 a0_2).bind fun t137 => (if t137 = true then ((spec_l07Range.f a0_3 a0_4).bind fun t138 => (some t138)) else (some false))) else (if a0_0 = 6 then ((spec_NetOK.f a0_1 a0_2).bind fun t139 => (if t139 = true then ((spec_l07Range.f a0_3 a0_4).bind fun t140 => (some t140)) else (some false))) else (if a0_0 = 17 then ((spec_NetOK.f a0_1 a0_2).bind fun t141 => (if t141 = true then ((spec_l07Range.f a0_3 a0_4).bind fun t142 => (some t142)) else (some false))) else (some false))))
set_option maxHeartbeats 8000000 in
set_option maxRecDepth 100000 in
theorem spec_RuleOK.calls (a0_0 : Int) (a0_1 : Int) (a0_2 : Int) (a0_3 : Int) (a0_4 : Int) (a0_5 : Bool) (r : Bool) (w : World) (h : spec_RuleOK.f a0_0 a0_1 a0_2 a0_3 a0_4 a0_5 = some r) :
  Calls Try.prog 14 #[.agg #[.int .i64 a0_0,.int .i64 a0_1,.int .i64 a0_2,.int .i64 a0_3,.int .i64 a0_4,.bool a0_5]] w fun e w' => e = .returned (.bool r) ∧ Below w.heap.size w w':=by
 have hu36:=Try.underlying36
 have hu26:=Try.underlying26
 have hu34:=Try.underlying34
 have HB:=aMk (Below.refl w.heap.size w)
 have H : (if a0_0 = 0 then ((spec_NetOK.f a0_1 a0_2).bind fun t135 => (if t135 = true then ((spec_l07Range.f a0_3 a0_4).bind fun t136 => (some t136)) else (some false))) else (if a0_0 = 1 then ((spec_NetOK.f a0_1 a0_2).bind fun t137 => (if t137 = true then ((spec_l07Range.f a0_3 a0_4).bind fun t138 => (some t138)) else (some false))) else (if a0_0 = 6 then ((spec_NetOK.f a0_1 a0_2).bind fun t139 => (if t139 = true then ((spec_l07Range.f a0_3 a0_4).bind fun t140 => (some t140)) else (some false))) else (if a0_0 = 17 then ((spec_NetOK.f a0_1 a0_2).bind fun t141 => (if t141 = true then ((spec_l07Range.f a0_3 a0_4).bind fun t142 => (some t142)) else (some false))) else (some false))))) = some r:=h
 clear h
 by_cases c2 : a0_0 = 0
 ·rw [if_pos c2] at H
  have c2b0 : (a0_0 == 0) = true:=beq_iff_eq.mpr c2
  have c2b1 : (a0_0 != 0) = false:=bne_eq_false_iff_eq.mpr c2
  clear c2
  replace H:=Option.bind_eq_some_iff.mp H
  obtain ⟨t135,A30,H⟩:=H
  replace H : (if t135 = true then ((spec_l07Range.f a0_3 a0_4).bind fun t136 => (some t136)) else (some false)) = some r:=H
  have A3:=aMk A30
  clear A30
  by_cases c4 : t135 = true
  ·subst c4
   have H1 : ((spec_l07Range.f a0_3 a0_4).bind fun t136 => (some t136)) = some r:=by rw [if_pos rfl] at H;exact H
   clear H
   have H:=H1
   clear H1
   replace H:=Option.bind_eq_some_iff.mp H
   obtain ⟨t136,A50,H⟩:=H
   replace H : (some t136) = some r:=H
   have A5:=aMk A50
   clear A50
   obtain rfl:=Option.some.inj H
   go_enter Try.func14,Try.ntmps14
   go_wp2_with (first|((with_reducible refine gate_dst (N:=1) rfl ?_);refine bxE (N:=1) (cs:=#[.int .i64 a0_0,.int .i64 a0_1,.int .i64 a0_2,.int .i64 a0_3,.int .i64 a0_4,.bool a0_5]) (t:=36) ?_;intro gb134 hg w6 hbox hb;have n0_:=aMk (bSt hb);have n1_:=aMk (hbox);have n2_:=aMk ((by rw [hg];exact bSz : w.heap.size ≤ gb134));have n3_:=aMk ((by rw [hg];exact bSz : w.heap.size ≤ gb134));clear HB;have HB:=n0_;have BK134:=n1_;have GW134:=n2_;have GE134:=n3_;clear n0_ n1_ n2_ n3_;clear hb hbox hg;obtain ⟨hcz7_0,hcz7_1,hcz7_2,hcz7_3,hcz7_4,hcz7_5,hfz7_0,hfz7_1,hfz7_2,hfz7_3,hfz7_4,hfz7_5⟩:=bC6 BK134.out)|(go_at_call 38;(with_reducible refine (spec_NetOK.calls a0_1 a0_2 true _ A3.out).mono ?_);rintro e w8 ⟨rfl,hb⟩;have n0_:=aMk (bkB BK134.out hb);have n1_:=aMk (below_step (by repeat (first|(with_reducible first|exact HB.out|apply bwA|apply bwN|apply bw1|refine below_set ?_ GE134.out)|exact HB.out)) hb);clear BK134;clear HB;have BK134:=n0_;have HB:=n1_;clear n0_ n1_;(try clear hb);(try clear hb2);(try clear hk);(try clear hi);obtain ⟨hcz9_0,hcz9_1,hcz9_2,hcz9_3,hcz9_4,hcz9_5,hfz9_0,hfz9_1,hfz9_2,hfz9_3,hfz9_4,hfz9_5⟩:=bC6 BK134.out)|(go_at_call 44;(with_reducible refine (spec_l07Range.calls a0_3 a0_4 t136 _ A5.out).mono ?_);rintro e w10 ⟨rfl,hb⟩;have n0_:=aMk (bkB BK134.out hb);have n1_:=aMk (below_step (by repeat (first|(with_reducible first|exact HB.out|apply bwA|apply bwN|apply bw1|refine below_set ?_ GE134.out)|exact HB.out)) hb);clear BK134;clear HB;have BK134:=n0_;have HB:=n1_;clear n0_ n1_;(try clear hb);(try clear hb2);(try clear hk);(try clear hi)))
   go_ret
   exact ⟨eRf,by repeat (first|(with_reducible first|exact HB.out|apply bwA|apply bwN|apply bw1|refine below_set ?_ GE134.out)|exact HB.out)⟩
  ·replace c4:=Bool.eq_false_iff.mpr c4
   subst c4
   have H1 : (some false) = some r:=by rw [if_neg (show ¬ (false = true) by decide)] at H;exact H
   clear H
   have H:=H1
   clear H1
   obtain rfl:=Option.some.inj H
   go_enter Try.func14,Try.ntmps14
   go_wp2_with (first|((with_reducible refine gate_dst (N:=1) rfl ?_);refine bxE (N:=1) (cs:=#[.int .i64 a0_0,.int .i64 a0_1,.int .i64 a0_2,.int .i64 a0_3,.int .i64 a0_4,.bool a0_5]) (t:=36) ?_;intro gb134 hg w11 hbox hb;have n0_:=aMk (bSt hb);have n1_:=aMk (hbox);have n2_:=aMk ((by rw [hg];exact bSz : w.heap.size ≤ gb134));have n3_:=aMk ((by rw [hg];exact bSz : w.heap.size ≤ gb134));clear HB;have HB:=n0_;have BK134:=n1_;have GW134:=n2_;have GE134:=n3_;clear n0_ n1_ n2_ n3_;clear hb hbox hg;obtain ⟨hcz12_0,hcz12_1,hcz12_2,hcz12_3,hcz12_4,hcz12_5,hfz12_0,hfz12_1,hfz12_2,hfz12_3,hfz12_4,hfz12_5⟩:=bC6 BK134.out)|(go_at_call 38;(with_reducible refine (spec_NetOK.calls a0_1 a0_2 false _ A3.out).mono ?_);rintro e w13 ⟨rfl,hb⟩;have n0_:=aMk (bkB BK134.out hb);have n1_:=aMk (below_step (by repeat (first|(with_reducible first|exact HB.out|apply bwA|apply bwN|apply bw1|refine below_set ?_ GE134.out)|exact HB.out)) hb);clear BK134;clear HB;have BK134:=n0_;have HB:=n1_;clear n0_ n1_;(try clear hb);(try clear hb2);(try clear hk);(try clear hi)))
   go_ret
   exact ⟨eRf,by repeat (first|(with_reducible first|exact HB.out|apply bwA|apply bwN|apply bw1|refine below_set ?_ GE134.out)|exact HB.out)⟩
 ·rw [if_neg c2] at H
  have c2b0 : (a0_0 == 0) = false:=beq_eq_false_iff_ne.mpr c2
  have c2b1 : (a0_0 != 0) = true:=bne_iff_ne.mpr c2
  by_cases c14 : a0_0 = 1
  ·rw [if_pos c14] at H
   have c14b0 : (a0_0 == 1) = true:=beq_iff_eq.mpr c14
   have c14b1 : (a0_0 != 1) = false:=bne_eq_false_iff_eq.mpr c14
   clear c14
   replace H:=Option.bind_eq_some_iff.mp H
   obtain ⟨t137,A150,H⟩:=H
   replace H : (if t137 = true then ((spec_l07Range.f a0_3 a0_4).bind fun t138 => (some t138)) else (some false)) = some r:=H
   have A15:=aMk A150
   clear A150
   by_cases c16 : t137 = true
   ·subst c16
    have H1 : ((spec_l07Range.f a0_3 a0_4).bind fun t138 => (some t138)) = some r:=by rw [if_pos rfl] at H;exact H
    clear H
    have H:=H1
    clear H1
    replace H:=Option.bind_eq_some_iff.mp H
    obtain ⟨t138,A170,H⟩:=H
    replace H : (some t138) = some r:=H
    have A17:=aMk A170
    clear A170
    obtain rfl:=Option.some.inj H
    go_enter Try.func14,Try.ntmps14
    go_wp2_with (first|((with_reducible refine gate_dst (N:=1) rfl ?_);refine bxE (N:=1) (cs:=#[.int .i64 a0_0,.int .i64 a0_1,.int .i64 a0_2,.int .i64 a0_3,.int .i64 a0_4,.bool a0_5]) (t:=36) ?_;intro gb134 hg w18 hbox hb;have n0_:=aMk (bSt hb);have n1_:=aMk (hbox);have n2_:=aMk ((by rw [hg];exact bSz : w.heap.size ≤ gb134));have n3_:=aMk ((by rw [hg];exact bSz : w.heap.size ≤ gb134));clear HB;have HB:=n0_;have BK134:=n1_;have GW134:=n2_;have GE134:=n3_;clear n0_ n1_ n2_ n3_;clear hb hbox hg;obtain ⟨hcz19_0,hcz19_1,hcz19_2,hcz19_3,hcz19_4,hcz19_5,hfz19_0,hfz19_1,hfz19_2,hfz19_3,hfz19_4,hfz19_5⟩:=bC6 BK134.out)|(go_at_call 38;(with_reducible refine (spec_NetOK.calls a0_1 a0_2 true _ A15.out).mono ?_);rintro e w20 ⟨rfl,hb⟩;have n0_:=aMk (bkB BK134.out hb);have n1_:=aMk (below_step (by repeat (first|(with_reducible first|exact HB.out|apply bwA|apply bwN|apply bw1|refine below_set ?_ GE134.out)|exact HB.out)) hb);clear BK134;clear HB;have BK134:=n0_;have HB:=n1_;clear n0_ n1_;(try clear hb);(try clear hb2);(try clear hk);(try clear hi);obtain ⟨hcz21_0,hcz21_1,hcz21_2,hcz21_3,hcz21_4,hcz21_5,hfz21_0,hfz21_1,hfz21_2,hfz21_3,hfz21_4,hfz21_5⟩:=bC6 BK134.out)|(go_at_call 44;(with_reducible refine (spec_l07Range.calls a0_3 a0_4 t138 _ A17.out).mono ?_);rintro e w22 ⟨rfl,hb⟩;have n0_:=aMk (bkB BK134.out hb);have n1_:=aMk (below_step (by repeat (first|(with_reducible first|exact HB.out|apply bwA|apply bwN|apply bw1|refine below_set ?_ GE134.out)|exact HB.out)) hb);clear BK134;clear HB;have BK134:=n0_;have HB:=n1_;clear n0_ n1_;(try clear hb);(try clear hb2);(try clear hk);(try clear hi)))
    go_ret
    exact ⟨eRf,by repeat (first|(with_reducible first|exact HB.out|apply bwA|apply bwN|apply bw1|refine below_set ?_ GE134.out)|exact HB.out)⟩
   ·replace c16:=Bool.eq_false_iff.mpr c16
    subst c16
    have H1 : (some false) = some r:=by rw [if_neg (show ¬ (false = true) by decide)] at H;exact H
    clear H
    have H:=H1
    clear H1
    obtain rfl:=Option.some.inj H
    go_enter Try.func14,Try.ntmps14
    go_wp2_with (first|((with_reducible refine gate_dst (N:=1) rfl ?_);refine bxE (N:=1) (cs:=#[.int .i64 a0_0,.int .i64 a0_1,.int .i64 a0_2,.int .i64 a0_3,.int .i64 a0_4,.bool a0_5]) (t:=36) ?_;intro gb134 hg w23 hbox hb;have n0_:=aMk (bSt hb);have n1_:=aMk (hbox);have n2_:=aMk ((by rw [hg];exact bSz : w.heap.size ≤ gb134));have n3_:=aMk ((by rw [hg];exact bSz : w.heap.size ≤ gb134));clear HB;have HB:=n0_;have BK134:=n1_;have GW134:=n2_;have GE134:=n3_;clear n0_ n1_ n2_ n3_;clear hb hbox hg;obtain ⟨hcz24_0,hcz24_1,hcz24_2,hcz24_3,hcz24_4,hcz24_5,hfz24_0,hfz24_1,hfz24_2,hfz24_3,hfz24_4,hfz24_5⟩:=bC6 BK134.out)|(go_at_call 38;(with_reducible refine (spec_NetOK.calls a0_1 a0_2 false _ A15.out).mono ?_);rintro e w25 ⟨rfl,hb⟩;have n0_:=aMk (bkB BK134.out hb);have n1_:=aMk (below_step (by repeat (first|(with_reducible first|exact HB.out|apply bwA|apply bwN|apply bw1|refine below_set ?_ GE134.out)|exact HB.out)) hb);clear BK134;clear HB;have BK134:=n0_;have HB:=n1_;clear n0_ n1_;(try clear hb);(try clear hb2);(try clear hk);(try clear hi)))
    go_ret
    exact ⟨eRf,by repeat (first|(with_reducible first|exact HB.out|apply bwA|apply bwN|apply bw1|refine below_set ?_ GE134.out)|exact HB.out)⟩
  ·rw [if_neg c14] at H
   have c14b0 : (a0_0 == 1) = false:=beq_eq_false_iff_ne.mpr c14
   have c14b1 : (a0_0 != 1) = true:=bne_iff_ne.mpr c14
   by_cases c26 : a0_0 = 6
   ·rw [if_pos c26] at H
    have c26b0 : (a0_0 == 6) = true:=beq_iff_eq.mpr c26
    have c26b1 : (a0_0 != 6) = false:=bne_eq_false_iff_eq.mpr c26
    clear c26
    replace H:=Option.bind_eq_some_iff.mp H
    obtain ⟨t139,A270,H⟩:=H
    replace H : (if t139 = true then ((spec_l07Range.f a0_3 a0_4).bind fun t140 => (some t140)) else (some false)) = some r:=H
    have A27:=aMk A270
    clear A270
    by_cases c28 : t139 = true
    ·subst c28
     have H1 : ((spec_l07Range.f a0_3 a0_4).bind fun t140 => (some t140)) = some r:=by rw [if_pos rfl] at H;exact H
     clear H
     have H:=H1
     clear H1
     replace H:=Option.bind_eq_some_iff.mp H
     obtain ⟨t140,A290,H⟩:=H
     replace H : (some t140) = some r:=H
     have A29:=aMk A290
     clear A290
     obtain rfl:=Option.some.inj H
     go_enter Try.func14,Try.ntmps14
     go_wp2_with (first|((with_reducible refine gate_dst (N:=1) rfl ?_);refine bxE (N:=1) (cs:=#[.int .i64 a0_0,.int .i64 a0_1,.int .i64 a0_2,.int .i64 a0_3,.int .i64 a0_4,.bool a0_5]) (t:=36) ?_;intro gb134 hg w30 hbox hb;have n0_:=aMk (bSt hb);have n1_:=aMk (hbox);have n2_:=aMk ((by rw [hg];exact bSz : w.heap.size ≤ gb134));have n3_:=aMk ((by rw [hg];exact bSz : w.heap.size ≤ gb134));clear HB;have HB:=n0_;have BK134:=n1_;have GW134:=n2_;have GE134:=n3_;clear n0_ n1_ n2_ n3_;clear hb hbox hg;obtain ⟨hcz31_0,hcz31_1,hcz31_2,hcz31_3,hcz31_4,hcz31_5,hfz31_0,hfz31_1,hfz31_2,hfz31_3,hfz31_4,hfz31_5⟩:=bC6 BK134.out)|(go_at_call 38;(with_reducible refine (spec_NetOK.calls a0_1 a0_2 true _ A27.out).mono ?_);rintro e w32 ⟨rfl,hb⟩;have n0_:=aMk (bkB BK134.out hb);have n1_:=aMk (below_step (by repeat (first|(with_reducible first|exact HB.out|apply bwA|apply bwN|apply bw1|refine below_set ?_ GE134.out)|exact HB.out)) hb);clear BK134;clear HB;have BK134:=n0_;have HB:=n1_;clear n0_ n1_;(try clear hb);(try clear hb2);(try clear hk);(try clear hi);obtain ⟨hcz33_0,hcz33_1,hcz33_2,hcz33_3,hcz33_4,hcz33_5,hfz33_0,hfz33_1,hfz33_2,hfz33_3,hfz33_4,hfz33_5⟩:=bC6 BK134.out)|(go_at_call 44;(with_reducible refine (spec_l07Range.calls a0_3 a0_4 t140 _ A29.out).mono ?_);rintro e w34 ⟨rfl,hb⟩;have n0_:=aMk (bkB BK134.out hb);have n1_:=aMk (below_step (by repeat (first|(with_reducible first|exact HB.out|apply bwA|apply bwN|apply bw1|refine below_set ?_ GE134.out)|exact HB.out)) hb);clear BK134;clear HB;have BK134:=n0_;have HB:=n1_;clear n0_ n1_;(try clear hb);(try clear hb2);(try clear hk);(try clear hi)))
     go_ret
     exact ⟨eRf,by repeat (first|(with_reducible first|exact HB.out|apply bwA|apply bwN|apply bw1|refine below_set ?_ GE134.out)|exact HB.out)⟩
    ·replace c28:=Bool.eq_false_iff.mpr c28
     subst c28
     have H1 : (some false) = some r:=by rw [if_neg (show ¬ (false = true) by decide)] at H;exact H
     clear H
     have H:=H1
     clear H1
     obtain rfl:=Option.some.inj H
     go_enter Try.func14,Try.ntmps14
     go_wp2_with (first|((with_reducible refine gate_dst (N:=1) rfl ?_);refine bxE (N:=1) (cs:=#[.int .i64 a0_0,.int .i64 a0_1,.int .i64 a0_2,.int .i64 a0_3,.int .i64 a0_4,.bool a0_5]) (t:=36) ?_;intro gb134 hg w35 hbox hb;have n0_:=aMk (bSt hb);have n1_:=aMk (hbox);have n2_:=aMk ((by rw [hg];exact bSz : w.heap.size ≤ gb134));have n3_:=aMk ((by rw [hg];exact bSz : w.heap.size ≤ gb134));clear HB;have HB:=n0_;have BK134:=n1_;have GW134:=n2_;have GE134:=n3_;clear n0_ n1_ n2_ n3_;clear hb hbox hg;obtain ⟨hcz36_0,hcz36_1,hcz36_2,hcz36_3,hcz36_4,hcz36_5,hfz36_0,hfz36_1,hfz36_2,hfz36_3,hfz36_4,hfz36_5⟩:=bC6 BK134.out)|(go_at_call 38;(with_reducible refine (spec_NetOK.calls a0_1 a0_2 false _ A27.out).mono ?_);rintro e w37 ⟨rfl,hb⟩;have n0_:=aMk (bkB BK134.out hb);have n1_:=aMk (below_step (by repeat (first|(with_reducible first|exact HB.out|apply bwA|apply bwN|apply bw1|refine below_set ?_ GE134.out)|exact HB.out)) hb);clear BK134;clear HB;have BK134:=n0_;have HB:=n1_;clear n0_ n1_;(try clear hb);(try clear hb2);(try clear hk);(try clear hi)))
     go_ret
     exact ⟨eRf,by repeat (first|(with_reducible first|exact HB.out|apply bwA|apply bwN|apply bw1|refine below_set ?_ GE134.out)|exact HB.out)⟩
   ·rw [if_neg c26] at H
    have c26b0 : (a0_0 == 6) = false:=beq_eq_false_iff_ne.mpr c26
    have c26b1 : (a0_0 != 6) = true:=bne_iff_ne.mpr c26
    by_cases c38 : a0_0 = 17
    ·rw [if_pos c38] at H
     have c38b0 : (a0_0 == 17) = true:=beq_iff_eq.mpr c38
     have c38b1 : (a0_0 != 17) = false:=bne_eq_false_iff_eq.mpr c38
     clear c38
     replace H:=Option.bind_eq_some_iff.mp H
     obtain ⟨t141,A390,H⟩:=H
     replace H : (if t141 = true then ((spec_l07Range.f a0_3 a0_4).bind fun t142 => (some t142)) else (some false)) = some r:=H
     have A39:=aMk A390
     clear A390
     by_cases c40 : t141 = true
     ·subst c40
      have H1 : ((spec_l07Range.f a0_3 a0_4).bind fun t142 => (some t142)) = some r:=by rw [if_pos rfl] at H;exact H
      clear H
      have H:=H1
      clear H1
      replace H:=Option.bind_eq_some_iff.mp H
      obtain ⟨t142,A410,H⟩:=H
      replace H : (some t142) = some r:=H
      have A41:=aMk A410
      clear A410
      obtain rfl:=Option.some.inj H
      go_enter Try.func14,Try.ntmps14
      go_wp2_with (first|((with_reducible refine gate_dst (N:=1) rfl ?_);refine bxE (N:=1) (cs:=#[.int .i64 a0_0,.int .i64 a0_1,.int .i64 a0_2,.int .i64 a0_3,.int .i64 a0_4,.bool a0_5]) (t:=36) ?_;intro gb134 hg w42 hbox hb;have n0_:=aMk (bSt hb);have n1_:=aMk (hbox);have n2_:=aMk ((by rw [hg];exact bSz : w.heap.size ≤ gb134));have n3_:=aMk ((by rw [hg];exact bSz : w.heap.size ≤ gb134));clear HB;have HB:=n0_;have BK134:=n1_;have GW134:=n2_;have GE134:=n3_;clear n0_ n1_ n2_ n3_;clear hb hbox hg;obtain ⟨hcz43_0,hcz43_1,hcz43_2,hcz43_3,hcz43_4,hcz43_5,hfz43_0,hfz43_1,hfz43_2,hfz43_3,hfz43_4,hfz43_5⟩:=bC6 BK134.out)|(go_at_call 38;(with_reducible refine (spec_NetOK.calls a0_1 a0_2 true _ A39.out).mono ?_);rintro e w44 ⟨rfl,hb⟩;have n0_:=aMk (bkB BK134.out hb);have n1_:=aMk (below_step (by repeat (first|(with_reducible first|exact HB.out|apply bwA|apply bwN|apply bw1|refine below_set ?_ GE134.out)|exact HB.out)) hb);clear BK134;clear HB;have BK134:=n0_;have HB:=n1_;clear n0_ n1_;(try clear hb);(try clear hb2);(try clear hk);(try clear hi);obtain ⟨hcz45_0,hcz45_1,hcz45_2,hcz45_3,hcz45_4,hcz45_5,hfz45_0,hfz45_1,hfz45_2,hfz45_3,hfz45_4,hfz45_5⟩:=bC6 BK134.out)|(go_at_call 44;(with_reducible refine (spec_l07Range.calls a0_3 a0_4 t142 _ A41.out).mono ?_);rintro e w46 ⟨rfl,hb⟩;have n0_:=aMk (bkB BK134.out hb);have n1_:=aMk (below_step (by repeat (first|(with_reducible first|exact HB.out|apply bwA|apply bwN|apply bw1|refine below_set ?_ GE134.out)|exact HB.out)) hb);clear BK134;clear HB;have BK134:=n0_;have HB:=n1_;clear n0_ n1_;(try clear hb);(try clear hb2);(try clear hk);(try clear hi)))
      go_ret
      exact ⟨eRf,by repeat (first|(with_reducible first|exact HB.out|apply bwA|apply bwN|apply bw1|refine below_set ?_ GE134.out)|exact HB.out)⟩
     ·replace c40:=Bool.eq_false_iff.mpr c40
      subst c40
      have H1 : (some false) = some r:=by rw [if_neg (show ¬ (false = true) by decide)] at H;exact H
      clear H
      have H:=H1
      clear H1
      obtain rfl:=Option.some.inj H
      go_enter Try.func14,Try.ntmps14
      go_wp2_with (first|((with_reducible refine gate_dst (N:=1) rfl ?_);refine bxE (N:=1) (cs:=#[.int .i64 a0_0,.int .i64 a0_1,.int .i64 a0_2,.int .i64 a0_3,.int .i64 a0_4,.bool a0_5]) (t:=36) ?_;intro gb134 hg w47 hbox hb;have n0_:=aMk (bSt hb);have n1_:=aMk (hbox);have n2_:=aMk ((by rw [hg];exact bSz : w.heap.size ≤ gb134));have n3_:=aMk ((by rw [hg];exact bSz : w.heap.size ≤ gb134));clear HB;have HB:=n0_;have BK134:=n1_;have GW134:=n2_;have GE134:=n3_;clear n0_ n1_ n2_ n3_;clear hb hbox hg;obtain ⟨hcz48_0,hcz48_1,hcz48_2,hcz48_3,hcz48_4,hcz48_5,hfz48_0,hfz48_1,hfz48_2,hfz48_3,hfz48_4,hfz48_5⟩:=bC6 BK134.out)|(go_at_call 38;(with_reducible refine (spec_NetOK.calls a0_1 a0_2 false _ A39.out).mono ?_);rintro e w49 ⟨rfl,hb⟩;have n0_:=aMk (bkB BK134.out hb);have n1_:=aMk (below_step (by repeat (first|(with_reducible first|exact HB.out|apply bwA|apply bwN|apply bw1|refine below_set ?_ GE134.out)|exact HB.out)) hb);clear BK134;clear HB;have BK134:=n0_;have HB:=n1_;clear n0_ n1_;(try clear hb);(try clear hb2);(try clear hk);(try clear hi)))
      go_ret
      exact ⟨eRf,by repeat (first|(with_reducible first|exact HB.out|apply bwA|apply bwN|apply bw1|refine below_set ?_ GE134.out)|exact HB.out)⟩
    ·rw [if_neg c38] at H
     have c38b0 : (a0_0 == 17) = false:=beq_eq_false_iff_ne.mpr c38
     have c38b1 : (a0_0 != 17) = true:=bne_iff_ne.mpr c38
     obtain rfl:=Option.some.inj H
     go_enter Try.func14,Try.ntmps14
     go_wp2_with (first|((with_reducible refine gate_dst (N:=1) rfl ?_);refine bxE (N:=1) (cs:=#[.int .i64 a0_0,.int .i64 a0_1,.int .i64 a0_2,.int .i64 a0_3,.int .i64 a0_4,.bool a0_5]) (t:=36) ?_;intro gb134 hg w50 hbox hb;have n0_:=aMk (bSt hb);have n1_:=aMk (hbox);have n2_:=aMk ((by rw [hg];exact bSz : w.heap.size ≤ gb134));have n3_:=aMk ((by rw [hg];exact bSz : w.heap.size ≤ gb134));clear HB;have HB:=n0_;have BK134:=n1_;have GW134:=n2_;have GE134:=n3_;clear n0_ n1_ n2_ n3_;clear hb hbox hg;obtain ⟨hcz51_0,hcz51_1,hcz51_2,hcz51_3,hcz51_4,hcz51_5,hfz51_0,hfz51_1,hfz51_2,hfz51_3,hfz51_4,hfz51_5⟩:=bC6 BK134.out))
     go_ret
     exact ⟨eRf,by repeat (first|(with_reducible first|exact HB.out|apply bwA|apply bwN|apply bw1|refine below_set ?_ GE134.out)|exact HB.out)⟩
end
section
/-! ### spec_l00Letter: function 94 -/
def spec_l00Letter.f (a0 : Int) : Option (Bool):=if a0 ≥ 97 then (if a0 ≤ 122 then (some true) else (if a0 ≥ 65 then (if a0 ≤ 90 then (some true) else (some (a0 == 95))) else (some (a0 == 95)))) else (if a0 ≥ 65 then (if a0 ≤ 90 then (some true) else (some (a0 == 95))) else (some (a0 == 95)))
set_option maxHeartbeats 8000000 in
set_option maxRecDepth 100000 in
theorem spec_l00Letter.calls (a0 : Int) (r : Bool) (w : World) (h : spec_l00Letter.f a0 = some r) :
  Calls Try.prog 94 #[.int .u8 a0] w fun e w' => e = .returned (.bool r) ∧ Drawn0 w w':=by
 have H : (if a0 ≥ 97 then (if a0 ≤ 122 then (some true) else (if a0 ≥ 65 then (if a0 ≤ 90 then (some true) else (some (a0 == 95))) else (some (a0 == 95)))) else (if a0 ≥ 65 then (if a0 ≤ 90 then (some true) else (some (a0 == 95))) else (some (a0 == 95)))) = some r:=h
 clear h
 by_cases c2 : a0 ≥ 97
 ·rw [if_pos c2] at H
  have c2b0 : decide (97 ≤ a0) = true:=decide_eq_true c2
  clear c2
  by_cases c3 : a0 ≤ 122
  ·rw [if_pos c3] at H
   have c3b0 : decide (a0 ≤ 122) = true:=decide_eq_true c3
   clear c3
   obtain rfl:=Option.some.inj H
   go_enter Try.func94,Try.ntmps94
   go_wp2
   go_ret
   exact ⟨by first | rfl|(simp;done)|(simp [*];done)|(simp [ne_nil_b];done)|(simp [ne_nil_b, *];done),by repeat (first|exact Drawn0.refl _|apply Drawn0.step)⟩
  ·rw [if_neg c3] at H
   have c3b0 : decide (a0 ≤ 122) = false:=decide_eq_false c3
   clear c3
   by_cases c4 : a0 ≥ 65
   ·rw [if_pos c4] at H
    have c4b0 : decide (65 ≤ a0) = true:=decide_eq_true c4
    clear c4
    by_cases c5 : a0 ≤ 90
    ·rw [if_pos c5] at H
     have c5b0 : decide (a0 ≤ 90) = true:=decide_eq_true c5
     clear c5
     obtain rfl:=Option.some.inj H
     go_enter Try.func94,Try.ntmps94
     go_wp2
     go_ret
     exact ⟨by first | rfl|(simp;done)|(simp [*];done)|(simp [ne_nil_b];done)|(simp [ne_nil_b, *];done),by repeat (first|exact Drawn0.refl _|apply Drawn0.step)⟩
    ·rw [if_neg c5] at H
     have c5b0 : decide (a0 ≤ 90) = false:=decide_eq_false c5
     clear c5
     obtain rfl:=Option.some.inj H
     go_enter Try.func94,Try.ntmps94
     go_wp2
     go_ret
     exact ⟨by first | rfl|(simp;done)|(simp [*];done)|(simp [ne_nil_b];done)|(simp [ne_nil_b, *];done),by repeat (first|exact Drawn0.refl _|apply Drawn0.step)⟩
   ·rw [if_neg c4] at H
    have c4b0 : decide (65 ≤ a0) = false:=decide_eq_false c4
    clear c4
    obtain rfl:=Option.some.inj H
    go_enter Try.func94,Try.ntmps94
    go_wp2
    go_ret
    exact ⟨by first | rfl|(simp;done)|(simp [*];done)|(simp [ne_nil_b];done)|(simp [ne_nil_b, *];done),by repeat (first|exact Drawn0.refl _|apply Drawn0.step)⟩
 ·rw [if_neg c2] at H
  have c2b0 : decide (97 ≤ a0) = false:=decide_eq_false c2
  clear c2
  by_cases c6 : a0 ≥ 65
  ·rw [if_pos c6] at H
   have c6b0 : decide (65 ≤ a0) = true:=decide_eq_true c6
   clear c6
   by_cases c7 : a0 ≤ 90
   ·rw [if_pos c7] at H
    have c7b0 : decide (a0 ≤ 90) = true:=decide_eq_true c7
    clear c7
    obtain rfl:=Option.some.inj H
    go_enter Try.func94,Try.ntmps94
    go_wp2
    go_ret
    exact ⟨by first | rfl|(simp;done)|(simp [*];done)|(simp [ne_nil_b];done)|(simp [ne_nil_b, *];done),by repeat (first|exact Drawn0.refl _|apply Drawn0.step)⟩
   ·rw [if_neg c7] at H
    have c7b0 : decide (a0 ≤ 90) = false:=decide_eq_false c7
    clear c7
    obtain rfl:=Option.some.inj H
    go_enter Try.func94,Try.ntmps94
    go_wp2
    go_ret
    exact ⟨by first | rfl|(simp;done)|(simp [*];done)|(simp [ne_nil_b];done)|(simp [ne_nil_b, *];done),by repeat (first|exact Drawn0.refl _|apply Drawn0.step)⟩
  ·rw [if_neg c6] at H
   have c6b0 : decide (65 ≤ a0) = false:=decide_eq_false c6
   clear c6
   obtain rfl:=Option.some.inj H
   go_enter Try.func94,Try.ntmps94
   go_wp2
   go_ret
   exact ⟨by first | rfl|(simp;done)|(simp [*];done)|(simp [ne_nil_b];done)|(simp [ne_nil_b, *];done),by repeat (first|exact Drawn0.refl _|apply Drawn0.step)⟩
end
section
/-! ### spec_l00Digit: function 95 -/
def spec_l00Digit.f (a0 : Int) : Option (Bool):=if a0 ≥ 48 then (some (decide (a0 ≤ 57))) else (some false)
set_option maxHeartbeats 8000000 in
set_option maxRecDepth 100000 in
theorem spec_l00Digit.calls (a0 : Int) (r : Bool) (w : World) (h : spec_l00Digit.f a0 = some r) :
  Calls Try.prog 95 #[.int .u8 a0] w fun e w' => e = .returned (.bool r) ∧ Drawn0 w w':=by
 have H : (if a0 ≥ 48 then (some (decide (a0 ≤ 57))) else (some false)) = some r:=h
 clear h
 by_cases c2 : a0 ≥ 48
 ·rw [if_pos c2] at H
  have c2b0 : decide (48 ≤ a0) = true:=decide_eq_true c2
  clear c2
  obtain rfl:=Option.some.inj H
  go_enter Try.func95,Try.ntmps95
  go_wp2
  go_ret
  exact ⟨by first | rfl|(simp;done)|(simp [*];done)|(simp [ne_nil_b];done)|(simp [ne_nil_b, *];done),by repeat (first|exact Drawn0.refl _|apply Drawn0.step)⟩
 ·rw [if_neg c2] at H
  have c2b0 : decide (48 ≤ a0) = false:=decide_eq_false c2
  clear c2
  obtain rfl:=Option.some.inj H
  go_enter Try.func95,Try.ntmps95
  go_wp2
  go_ret
  exact ⟨by first | rfl|(simp;done)|(simp [*];done)|(simp [ne_nil_b];done)|(simp [ne_nil_b, *];done),by repeat (first|exact Drawn0.refl _|apply Drawn0.step)⟩
end
section
/-! ### spec_l00Word: function 83 -/
mutual
def spec_l00Word.j0 : Nat → ByteArray → Bool → Option (Bool)
 | 0,_,_ => none
 | k + 1,x0,x17 => if x17 = true then (some false) else (spec_l00Word.l0 k x0 1)
def spec_l00Word.l0 : Nat → ByteArray → Int → Option (Bool)
 | 0,_,_ => none
 | k + 1,x0,x3 => if x3 < (x0.size : Int) then (if 0 ≤ x3 then ((spec_l00Letter.f (bt x0 x3)).bind fun t226 => (if t226 = true then (spec_l00Word.l0 k x0 (wrap64 (x3 + 1))) else ((spec_l00Digit.f (bt x0 x3)).bind fun t227 => (if t227 = true then (spec_l00Word.l0 k x0 (wrap64 (x3 + 1))) else (some false))))) else (none)) else (some true)
end
def spec_l00Word.f (k : Nat) (a0 : ByteArray) : Option (Bool):=if (a0.size : Int) < 1 then (spec_l00Word.j0 k a0 true) else (if (a0.size : Int) > 40 then (spec_l00Word.j0 k a0 true) else (if 0 < (a0.size : Int) then ((spec_l00Letter.f (bt a0 0)).bind fun t225 => (spec_l00Word.j0 k a0 (!t225))) else (none)))
theorem spec_l00Word.mono_l : ∀ k,(∀ y0 y1,LeO (spec_l00Word.j0 k y0 y1) (spec_l00Word.j0 (k + 1) y0 y1)) ∧ (∀ y0 y1,LeO (spec_l00Word.l0 k y0 y1) (spec_l00Word.l0 (k + 1) y0 y1))
 | 0 => ⟨fun _ _ r h => by simp [spec_l00Word.j0] at h,fun _ _ r h => by simp [spec_l00Word.l0] at h⟩
 | k + 1 => by
  obtain ⟨ih0,ih1⟩:=spec_l00Word.mono_l k
  refine ⟨?_,?_⟩
  ·intro y0 y1
   unfold spec_l00Word.j0
   repeat' first
   | (with_reducible exact ih0 _ _)
   | (with_reducible exact ih1 _ _)
   | (with_reducible exact LeO.refl _)
   | (with_reducible exact LeO.none _)
   | (with_reducible refine LeO.ite ?_ ?_)
   | (with_reducible refine LeO.bind ?_ (fun _ => ?_))
   | exact ih0 _ _
   | exact ih1 _ _
   | exact LeO.none _
   | refine LeO.ite ?_ ?_
   | refine LeO.bind ?_ (fun _ => ?_)
  ·intro y0 y1
   unfold spec_l00Word.l0
   repeat' first
   | (with_reducible exact ih0 _ _)
   | (with_reducible exact ih1 _ _)
   | (with_reducible exact LeO.refl _)
   | (with_reducible exact LeO.none _)
   | (with_reducible refine LeO.ite ?_ ?_)
   | (with_reducible refine LeO.bind ?_ (fun _ => ?_))
   | exact ih0 _ _
   | exact ih1 _ _
   | exact LeO.none _
   | refine LeO.ite ?_ ?_
   | refine LeO.bind ?_ (fun _ => ?_)
theorem spec_l00Word.mono : ∀ a0 k,LeO (spec_l00Word.f k a0) (spec_l00Word.f (k + 1) a0):=by
 intro a0 k
 obtain ⟨ih0,ih1⟩:=spec_l00Word.mono_l k
 unfold spec_l00Word.f
 repeat' first
   | (with_reducible exact ih0 _ _)
   | (with_reducible exact ih1 _ _)
   | (with_reducible exact LeO.refl _)
   | (with_reducible exact LeO.none _)
   | (with_reducible refine LeO.ite ?_ ?_)
   | (with_reducible refine LeO.bind ?_ (fun _ => ?_))
   | exact ih0 _ _
   | exact ih1 _ _
   | exact LeO.none _
   | refine LeO.ite ?_ ?_
   | refine LeO.bind ?_ (fun _ => ?_)
set_option maxHeartbeats 8000000 in
set_option maxRecDepth 100000 in
theorem spec_l00Word.calls (k : Nat) (a0 : ByteArray) (r : Bool) (w : World) (h : spec_l00Word.f k a0 = some r) :
  Calls Try.prog 83 #[.string a0] w fun e w' => e = .returned (.bool r) ∧ Drawn0 w w':=by
 have H : (if (a0.size : Int) < 1 then (spec_l00Word.j0 k a0 true) else (if (a0.size : Int) > 40 then (spec_l00Word.j0 k a0 true) else (if 0 < (a0.size : Int) then ((spec_l00Letter.f (bt a0 0)).bind fun t225 => (spec_l00Word.j0 k a0 (!t225))) else (none)))) = some r:=h
 clear h
 have HC2:=aMk H
 clear H
 go_enter Try.func83,Try.ntmps83
 go_upto_region 1 with (fail)
 go_cut [17] (fun v17 wc => ∃ (kq : Nat) (x17_1 : Bool),v17 = .bool x17_1 ∧ Aside0 (spec_l00Word.j0 kq a0 x17_1 = some r) ∧ Aside0 (kq ≤ k) ∧ Drawn0 w wc)
 case first =>
  have H:=HC2.out
  clear HC2
  by_cases c3 : (a0.size : Int) < 1
  ·rw [if_pos c3] at H
   have c3b0 : decide ((a0.size : Int) < 1) = true:=decide_eq_true c3
   have c3b1 : decide (a0.size < 1) = true:=decide_eq_true (by omega)
   clear c3
   (first|rw [c3b0]|(simp only [i64_w,i32_w];rw [c3b0]) | skip)
   have H':=aMk H
   clear H
   go_wp2
   go_meet
   case rel => exact ⟨_,(true),(by first | rfl|(simp;done)|(simp [*];done)|(simp [ne_nil_b];done)|(simp [ne_nil_b, *];done)),H',⟨by first | omega|exact Nat.le_refl _⟩,by repeat (first|exact Drawn0.refl _|apply Drawn0.step)⟩
  ·rw [if_neg c3] at H
   have c3b0 : decide ((a0.size : Int) < 1) = false:=decide_eq_false c3
   have c3b1 : decide (a0.size < 1) = false:=decide_eq_false (by omega)
   clear c3
   (first|rw [c3b0]|(simp only [i64_w,i32_w];rw [c3b0]) | skip)
   by_cases c4 : (a0.size : Int) > 40
   ·rw [if_pos c4] at H
    have c4b0 : decide (40 < (a0.size : Int)) = true:=decide_eq_true c4
    have c4b1 : decide (40 < a0.size) = true:=decide_eq_true (by omega)
    clear c4
    have H':=aMk H
    clear H
    go_wp2
    go_meet
    case rel => exact ⟨_,(true),(by first | rfl|(simp;done)|(simp [*];done)|(simp [ne_nil_b];done)|(simp [ne_nil_b, *];done)),H',⟨by first | omega|exact Nat.le_refl _⟩,by repeat (first|exact Drawn0.refl _|apply Drawn0.step)⟩
   ·rw [if_neg c4] at H
    have c4b0 : decide (40 < (a0.size : Int)) = false:=decide_eq_false c4
    have c4b1 : decide (40 < a0.size) = false:=decide_eq_false (by omega)
    clear c4
    by_cases c5 : 0 < (a0.size : Int)
    ·rw [if_pos c5] at H
     have c5b0 : decide (0 < (a0.size : Int)) = true:=decide_eq_true c5
     have c5b1 : decide (0 < a0.size) = true:=decide_eq_true (by omega)
     clear c5
     replace H:=Option.bind_eq_some_iff.mp H
     obtain ⟨t225,A70,H⟩:=H
     replace H : (spec_l00Word.j0 k a0 (!t225)) = some r:=H
     have A7:=aMk A70
     clear A70
     have H':=aMk H
     clear H
     have p6 : 0 ≤ (0 : Int):=(by omega)
     have q6 : 0 < a0.size:=(by have : (0 : Int) < (a0.size : Int):=of_decide_eq_true (by first|(with_reducible assumption) | assumption);omega)
     have hx6 : ∀ h : 0 < a0.size,((a0[0]'h).toNat : Int) = bt a0 0:=bt_at a0 0
     clear p6
     have qi6 : (0 < (a0.size : Int)) = True:=eq_true (of_decide_eq_true (by first|(with_reducible assumption) | assumption))
     replace q6:=eq_true q6
     go_wp2_with (first|(go_at_call 94;(with_reducible refine (spec_l00Letter.calls (bt a0 0) t225 _ A7.out).mono ?_);rintro e w' ⟨rfl,⟨nd,rfl⟩⟩))
     go_meet
     case rel => exact ⟨_,(!t225),(by first | rfl|(simp;done)|(simp [*];done)|(simp [ne_nil_b];done)|(simp [ne_nil_b, *];done)),H',⟨by first | omega|exact Nat.le_refl _⟩,by repeat (first|exact Drawn0.refl _|apply Drawn0.step)⟩
    ·rw [if_neg c5] at H
     exact absurd H (by simp)
 case rest =>
  clear HC2
  try clear p2
  try clear c3
  try clear c3b0
  try clear c3b1
  try clear c4
  try clear c4b0
  try clear c4b1
  try clear c5
  try clear c5b0
  try clear c5b1
  try clear p6
  try clear q6
  try clear hx6
  try clear qi6
  try clear p6
  try clear q6
  obtain ⟨kq,x17_1,rfl,HA,HJ1,⟨mc1,rfl⟩⟩:=hcut
  cases kq with
  | zero => exact absurd HA.out (by simp [spec_l00Word.j0])
  | succ kj1 =>
   have H:=HA.out
   clear HA
   simp only [spec_l00Word.j0] at H
   by_cases c8 : x17_1 = true
   ·subst c8
    have H1 : (some false) = some r:=by rw [if_pos rfl] at H;exact H
    clear H
    have H:=H1
    clear H1
    obtain rfl:=Option.some.inj H
    go_wp2
    go_ret
    exact ⟨by first | rfl|(simp;done)|(simp [*];done)|(simp [ne_nil_b];done)|(simp [ne_nil_b, *];done),by repeat (first|exact Drawn0.refl _|apply Drawn0.step)⟩
   ·replace c8:=Bool.eq_false_iff.mpr c8
    subst c8
    have H1 : (spec_l00Word.l0 kj1 a0 1) = some r:=by rw [if_neg (show ¬ (false = true) by decide)] at H;exact H
    clear H
    have H:=H1
    clear H1
    have H':=aMk H
    clear H
    go_wp2
    go_loopg [3] kj1 (fun kq v3 w' => ∃ (x3_2 : Int),v3 = .int .i64 x3_2 ∧ Aside0 (spec_l00Word.l0 kq a0 x3_2 = some r) ∧ Aside0 (kq ≤ kj1) ∧ Drawn0 w w')
    case atStart => exact ⟨(1),(by first | rfl|(simp;done)|(simp [*];done)|(simp [ne_nil_b];done)|(simp [ne_nil_b, *];done)),H',⟨Nat.le_refl _⟩,by repeat (first|exact Drawn0.refl _|apply Drawn0.step)⟩
    case round =>
     clear H'
     try clear c1
     try clear p2
     try clear c3
     try clear c3b0
     try clear c3b1
     try clear c4
     try clear c4b0
     try clear c4b1
     try clear c5
     try clear c5b0
     try clear c5b1
     try clear p6
     try clear q6
     try clear hx6
     try clear qi6
     try clear c8
     try clear p2
     try clear p6
     try clear q6
     obtain ⟨x3_2,rfl,HA,HK2,⟨m2,rfl⟩⟩:=hrel
     cases gk with
     | zero => exact absurd HA.out (by simp [spec_l00Word.l0])
     | succ k2 =>
      have H:=HA.out
      clear HA
      simp only [spec_l00Word.l0] at H
      by_cases c9 : x3_2 < (a0.size : Int)
      ·rw [if_pos c9] at H
       have c9b0 : decide (x3_2 < (a0.size : Int)) = true:=decide_eq_true c9
       clear c9
       by_cases c10 : 0 ≤ x3_2
       ·rw [if_pos c10] at H
        have c10b0 : decide (0 ≤ x3_2) = true:=decide_eq_true c10
        clear c10
        replace H:=Option.bind_eq_some_iff.mp H
        obtain ⟨t226,A120,H⟩:=H
        replace H : (if t226 = true then (spec_l00Word.l0 k2 a0 (wrap64 (x3_2 + 1))) else ((spec_l00Digit.f (bt a0 x3_2)).bind fun t227 => (if t227 = true then (spec_l00Word.l0 k2 a0 (wrap64 (x3_2 + 1))) else (some false)))) = some r:=H
        have A12:=aMk A120
        clear A120
        by_cases c13 : t226 = true
        ·subst c13
         have H1 : (spec_l00Word.l0 k2 a0 (wrap64 (x3_2 + 1))) = some r:=by rw [if_pos rfl] at H;exact H
         clear H
         have H:=H1
         clear H1
         have H':=aMk H
         clear H
         have p11 : 0 ≤ (x3_2 : Int):=of_decide_eq_true (by first|(with_reducible assumption) | assumption)
         have q11 : x3_2 < (a0.size : Int):=of_decide_eq_true (by first|(with_reducible assumption) | assumption)
         have hx11:=bt_at a0 x3_2
         replace p11:=eq_true p11
         replace q11:=eq_true q11
         go_wp2_with (first|((with_reducible refine gate_callee (f:=94) rfl ?_);refine gLs 27 Try.func94 #[.int .u8 (bt a0 x3_2)] ?_;(with_reducible refine (spec_l00Letter.calls (bt a0 x3_2) true _ A12.out).mono ?_);rintro e w' ⟨rfl,⟨nd,rfl⟩⟩;refine ⟨_,rfl,?_⟩))
         go_roundg k2
         case measure => have:=HJ1.out;have:=HK2.out;omega
         case rel => exact ⟨(wrap64 (x3_2 + 1)),(by first | rfl|(simp;done)|(simp [*];done)|(simp [ne_nil_b];done)|(simp [ne_nil_b, *];done)),H',⟨by have:=HJ1.out;have:=HK2.out;omega⟩,by repeat (first|exact Drawn0.refl _|apply Drawn0.step)⟩
        ·replace c13:=Bool.eq_false_iff.mpr c13
         subst c13
         have H1 : ((spec_l00Digit.f (bt a0 x3_2)).bind fun t227 => (if t227 = true then (spec_l00Word.l0 k2 a0 (wrap64 (x3_2 + 1))) else (some false))) = some r:=by rw [if_neg (show ¬ (false = true) by decide)] at H;exact H
         clear H
         have H:=H1
         clear H1
         replace H:=Option.bind_eq_some_iff.mp H
         obtain ⟨t227,A150,H⟩:=H
         replace H : (if t227 = true then (spec_l00Word.l0 k2 a0 (wrap64 (x3_2 + 1))) else (some false)) = some r:=H
         have A15:=aMk A150
         clear A150
         by_cases c16 : t227 = true
         ·subst c16
          have H1 : (spec_l00Word.l0 k2 a0 (wrap64 (x3_2 + 1))) = some r:=by rw [if_pos rfl] at H;exact H
          clear H
          have H:=H1
          clear H1
          have H':=aMk H
          clear H
          have p11 : 0 ≤ (x3_2 : Int):=of_decide_eq_true (by first|(with_reducible assumption) | assumption)
          have q11 : x3_2 < (a0.size : Int):=of_decide_eq_true (by first|(with_reducible assumption) | assumption)
          have hx11:=bt_at a0 x3_2
          replace p11:=eq_true p11
          replace q11:=eq_true q11
          go_wp2_with (first|((with_reducible refine gate_callee (f:=94) rfl ?_);refine gLs 27 Try.func94 #[.int .u8 (bt a0 x3_2)] ?_;(with_reducible refine (spec_l00Letter.calls (bt a0 x3_2) false _ A12.out).mono ?_);rintro e w' ⟨rfl,⟨nd,rfl⟩⟩;refine ⟨_,rfl,?_⟩;have p14 : 0 ≤ (x3_2 : Int):=of_decide_eq_true (by first|(with_reducible assumption) | assumption);have q14 : x3_2 < (a0.size : Int):=of_decide_eq_true (by first|(with_reducible assumption) | assumption);have hx14:=bt_at a0 x3_2;replace p14:=eq_true p14;replace q14:=eq_true q14)|(go_at_call 95;(with_reducible refine (spec_l00Digit.calls (bt a0 x3_2) true _ A15.out).mono ?_);rintro e w' ⟨rfl,⟨nd,rfl⟩⟩))
          go_roundg k2
          case measure => have:=HJ1.out;have:=HK2.out;omega
          case rel => exact ⟨(wrap64 (x3_2 + 1)),(by first | rfl|(simp;done)|(simp [*];done)|(simp [ne_nil_b];done)|(simp [ne_nil_b, *];done)),H',⟨by have:=HJ1.out;have:=HK2.out;omega⟩,by repeat (first|exact Drawn0.refl _|apply Drawn0.step)⟩
         ·replace c16:=Bool.eq_false_iff.mpr c16
          subst c16
          have H1 : (some false) = some r:=by rw [if_neg (show ¬ (false = true) by decide)] at H;exact H
          clear H
          have H:=H1
          clear H1
          obtain rfl:=Option.some.inj H
          have p11 : 0 ≤ (x3_2 : Int):=of_decide_eq_true (by first|(with_reducible assumption) | assumption)
          have q11 : x3_2 < (a0.size : Int):=of_decide_eq_true (by first|(with_reducible assumption) | assumption)
          have hx11:=bt_at a0 x3_2
          replace p11:=eq_true p11
          replace q11:=eq_true q11
          go_wp2_with (first|((with_reducible refine gate_callee (f:=94) rfl ?_);refine gLs 27 Try.func94 #[.int .u8 (bt a0 x3_2)] ?_;(with_reducible refine (spec_l00Letter.calls (bt a0 x3_2) false _ A12.out).mono ?_);rintro e w' ⟨rfl,⟨nd,rfl⟩⟩;refine ⟨_,rfl,?_⟩;have p14 : 0 ≤ (x3_2 : Int):=of_decide_eq_true (by first|(with_reducible assumption) | assumption);have q14 : x3_2 < (a0.size : Int):=of_decide_eq_true (by first|(with_reducible assumption) | assumption);have hx14:=bt_at a0 x3_2;replace p14:=eq_true p14;replace q14:=eq_true q14)|(go_at_call 95;(with_reducible refine (spec_l00Digit.calls (bt a0 x3_2) false _ A15.out).mono ?_);rintro e w' ⟨rfl,⟨nd,rfl⟩⟩))
          go_ret
          exact ⟨by first | rfl|(simp;done)|(simp [*];done)|(simp [ne_nil_b];done)|(simp [ne_nil_b, *];done),by repeat (first|exact Drawn0.refl _|apply Drawn0.step)⟩
       ·rw [if_neg c10] at H
        exact absurd H (by simp)
      ·rw [if_neg c9] at H
       have c9b0 : decide (x3_2 < (a0.size : Int)) = false:=decide_eq_false c9
       clear c9
       obtain rfl:=Option.some.inj H
       go_wp2
       go_ret
       exact ⟨by first | rfl|(simp;done)|(simp [*];done)|(simp [ne_nil_b];done)|(simp [ne_nil_b, *];done),by repeat (first|exact Drawn0.refl _|apply Drawn0.step)⟩
end
section
/-! ### spec_NameOK: function 54 -/
def spec_NameOK.f (k : Nat) (a0 : ByteArray) : Option (Bool):=(spec_l00Word.f k a0).bind fun t228 => (some t228)
theorem spec_NameOK.mono : ∀ a0 k,LeO (spec_NameOK.f k a0) (spec_NameOK.f (k + 1) a0):=by
 intro a0 k
 unfold spec_NameOK.f
 repeat' first
   | (with_reducible exact spec_l00Word.mono ..)
   | (with_reducible exact LeO.refl _)
   | (with_reducible exact LeO.none _)
   | (with_reducible refine LeO.ite ?_ ?_)
   | (with_reducible refine LeO.bind ?_ (fun _ => ?_))
   | exact spec_l00Word.mono ..
   | exact LeO.none _
   | refine LeO.ite ?_ ?_
   | refine LeO.bind ?_ (fun _ => ?_)
set_option maxHeartbeats 8000000 in
set_option maxRecDepth 100000 in
theorem spec_NameOK.calls (k : Nat) (a0 : ByteArray) (r : Bool) (w : World) (h : spec_NameOK.f k a0 = some r) :
  Calls Try.prog 54 #[.string a0] w fun e w' => e = .returned (.bool r) ∧ Drawn0 w w':=by
 have H : ((spec_l00Word.f k a0).bind fun t228 => (some t228)) = some r:=h
 clear h
 replace H:=Option.bind_eq_some_iff.mp H
 obtain ⟨t228,A20,H⟩:=H
 replace H : (some t228) = some r:=H
 have A2:=aMk A20
 clear A20
 obtain rfl:=Option.some.inj H
 go_enter Try.func54,Try.ntmps54
 go_wp2_with (first|((with_reducible refine gate_callee (f:=83) rfl ?_);refine gLs 4 Try.func83 #[.string a0] ?_;(with_reducible refine (spec_l00Word.calls k a0 t228 _ A2.out).mono ?_);rintro e w' ⟨rfl,⟨nd,rfl⟩⟩;refine ⟨_,rfl,?_⟩))
 go_ret
 exact ⟨by first | rfl|(simp;done)|(simp [*];done)|(simp [ne_nil_b];done)|(simp [ne_nil_b, *];done),by repeat (first|exact Drawn0.refl _|apply Drawn0.step)⟩
end
section
/-! ### spec_RoleOK: function 23 -/
mutual
def spec_RoleOK.j0 : Nat → Bool → ByteArray → List (S36) → Int → Int → Int → Option (Bool)
 | 0,_,_,_,_,_,_ => none
 | k + 1,x37,x230000,x230001,x230002,x230003,x230004 => if x37 = true then (some false) else (spec_RoleOK.l0 k 0 x230000 x230001 x230002 x230003 x230004)
def spec_RoleOK.l0 : Nat → Int → ByteArray → List (S36) → Int → Int → Int → Option (Bool)
 | 0,_,_,_,_,_,_ => none
 | k + 1,x3,x230000,x230001,x230002,x230003,x230004 => if x3 < (x230001.length : Int) then (if 0 ≤ x3 then ((spec_RuleOK.f ((rd_T36 x230001 x3).f0) ((rd_T36 x230001 x3).f1.f0) ((rd_T36 x230001 x3).f1.f1) ((rd_T36 x230001 x3).f2.f0) ((rd_T36 x230001 x3).f2.f1) ((rd_T36 x230001 x3).f3)).bind fun t235 => (if t235 = true then (spec_RoleOK.l0 k (wrap64 (x3 + 1)) x230000 x230001 x230002 x230003 x230004) else (some false))) else (none)) else (some true)
end
def spec_RoleOK.f (k : Nat) (a0_0 : ByteArray) (l0_1 : List (S36)) (a0_2 : Int) (a0_3 : Int) (a0_4 : Int) : Option (Bool):=(spec_NameOK.f k a0_0).bind fun t230 => (if t230 = true then (if (a0_0.size : Int) > 8 then (spec_RoleOK.j0 k true a0_0 l0_1 a0_2 a0_3 a0_4) else (if (l0_1.length : Int) > 8 then (spec_RoleOK.j0 k true a0_0 l0_1 a0_2 a0_3 a0_4) else ((spec_l01In.f a0_2 1 1000000).bind fun t231 => (if t231 = true then ((spec_l01In.f a0_3 1 1000).bind fun t232 => (if t232 = true then ((spec_l01In.f a0_4 1 1000).bind fun t233 => (spec_RoleOK.j0 k (!t233) a0_0 l0_1 a0_2 a0_3 a0_4)) else (spec_RoleOK.j0 k true a0_0 l0_1 a0_2 a0_3 a0_4))) else (spec_RoleOK.j0 k true a0_0 l0_1 a0_2 a0_3 a0_4))))) else (spec_RoleOK.j0 k true a0_0 l0_1 a0_2 a0_3 a0_4))
theorem spec_RoleOK.mono_l : ∀ k,(∀ y0 y1 y2 y3 y4 y5,LeO (spec_RoleOK.j0 k y0 y1 y2 y3 y4 y5) (spec_RoleOK.j0 (k + 1) y0 y1 y2 y3 y4 y5)) ∧ (∀ y0 y1 y2 y3 y4 y5,LeO (spec_RoleOK.l0 k y0 y1 y2 y3 y4 y5) (spec_RoleOK.l0 (k + 1) y0 y1 y2 y3 y4 y5))
 | 0 => ⟨fun _ _ _ _ _ _ r h => by simp [spec_RoleOK.j0] at h,fun _ _ _ _ _ _ r h => by simp [spec_RoleOK.l0] at h⟩
 | k + 1 => by
  obtain ⟨ih0,ih1⟩:=spec_RoleOK.mono_l k
  refine ⟨?_,?_⟩
  ·intro y0 y1 y2 y3 y4 y5
   unfold spec_RoleOK.j0
   repeat' first
   | (with_reducible exact ih0 _ _ _ _ _ _)
   | (with_reducible exact ih1 _ _ _ _ _ _)
   | (with_reducible exact spec_NameOK.mono ..)
   | (with_reducible exact LeO.refl _)
   | (with_reducible exact LeO.none _)
   | (with_reducible refine LeO.ite ?_ ?_)
   | (with_reducible refine LeO.bind ?_ (fun _ => ?_))
   | exact ih0 _ _ _ _ _ _
   | exact ih1 _ _ _ _ _ _
   | exact spec_NameOK.mono ..
   | exact LeO.none _
   | refine LeO.ite ?_ ?_
   | refine LeO.bind ?_ (fun _ => ?_)
  ·intro y0 y1 y2 y3 y4 y5
   unfold spec_RoleOK.l0
   repeat' first
   | (with_reducible exact ih0 _ _ _ _ _ _)
   | (with_reducible exact ih1 _ _ _ _ _ _)
   | (with_reducible exact spec_NameOK.mono ..)
   | (with_reducible exact LeO.refl _)
   | (with_reducible exact LeO.none _)
   | (with_reducible refine LeO.ite ?_ ?_)
   | (with_reducible refine LeO.bind ?_ (fun _ => ?_))
   | exact ih0 _ _ _ _ _ _
   | exact ih1 _ _ _ _ _ _
   | exact spec_NameOK.mono ..
   | exact LeO.none _
   | refine LeO.ite ?_ ?_
   | refine LeO.bind ?_ (fun _ => ?_)
theorem spec_RoleOK.mono : ∀ a0 a1 a2 a3 a4 k,LeO (spec_RoleOK.f k a0 a1 a2 a3 a4) (spec_RoleOK.f (k + 1) a0 a1 a2 a3 a4):=by
 intro a0 a1 a2 a3 a4 k
 obtain ⟨ih0,ih1⟩:=spec_RoleOK.mono_l k
 unfold spec_RoleOK.f
 repeat' first
   | (with_reducible exact ih0 _ _ _ _ _ _)
   | (with_reducible exact ih1 _ _ _ _ _ _)
   | (with_reducible exact spec_NameOK.mono ..)
   | (with_reducible exact LeO.refl _)
   | (with_reducible exact LeO.none _)
   | (with_reducible refine LeO.ite ?_ ?_)
   | (with_reducible refine LeO.bind ?_ (fun _ => ?_))
   | exact ih0 _ _ _ _ _ _
   | exact ih1 _ _ _ _ _ _
   | exact spec_NameOK.mono ..
   | exact LeO.none _
   | refine LeO.ite ?_ ?_
   | refine LeO.bind ?_ (fun _ => ?_)
set_option maxHeartbeats 8000000 in
set_option maxRecDepth 100000 in
theorem spec_RoleOK.calls (k : Nat) (a0_0 : ByteArray) (A0_1 : Option Addr) (c0_1 : Nat) (l0_1 : List (S36)) (a0_2 : Int) (a0_3 : Int) (a0_4 : Int) (r : Bool) (w : World) (hr0_1 : Kd.C k36 w A0_1 l0_1.length l0_1) (hc0_1 : l0_1.length ≤ c0_1) (h : spec_RoleOK.f k a0_0 l0_1 a0_2 a0_3 a0_4 = some r) :
  Calls Try.prog 23 #[.agg #[.string a0_0,.slice A0_1 l0_1.length c0_1,.int .i64 a0_2,.int .i64 a0_3,.int .i64 a0_4]] w fun e w' => e = .returned (.bool r) ∧ Below w.heap.size w w':=by
 have hu54:=Try.underlying54
 have hu36:=Try.underlying36
 have HR0_1:=aMk hr0_1
 have HC0_1:=aMk hc0_1
 clear hr0_1 hc0_1
 have HB:=aMk (Below.refl w.heap.size w)
 have H : ((spec_NameOK.f k a0_0).bind fun t230 => (if t230 = true then (if (a0_0.size : Int) > 8 then (spec_RoleOK.j0 k true a0_0 l0_1 a0_2 a0_3 a0_4) else (if (l0_1.length : Int) > 8 then (spec_RoleOK.j0 k true a0_0 l0_1 a0_2 a0_3 a0_4) else ((spec_l01In.f a0_2 1 1000000).bind fun t231 => (if t231 = true then ((spec_l01In.f a0_3 1 1000).bind fun t232 => (if t232 = true then ((spec_l01In.f a0_4 1 1000).bind fun t233 => (spec_RoleOK.j0 k (!t233) a0_0 l0_1 a0_2 a0_3 a0_4)) else (spec_RoleOK.j0 k true a0_0 l0_1 a0_2 a0_3 a0_4))) else (spec_RoleOK.j0 k true a0_0 l0_1 a0_2 a0_3 a0_4))))) else (spec_RoleOK.j0 k true a0_0 l0_1 a0_2 a0_3 a0_4))) = some r:=h
 clear h
 have HC2:=aMk H
 clear H
 go_enter Try.func23,Try.ntmps23
 go_upto_region 1 with (first|((with_reducible refine gate_dst (N:=1) rfl ?_);(try (refine gate_guard (by rfl) ?_;dsimp only));refine bxE (N:=1) (cs:=#[.string a0_0,.slice A0_1 l0_1.length c0_1,.int .i64 a0_2,.int .i64 a0_3,.int .i64 a0_4]) (t:=54) ?_;intro gb229 hg w3 hbox hb;have n0_:=aMk (bSt hb);have n1_:=aMk (hbox);have n2_:=aMk ((by rw [hg];exact bSz : w.heap.size ≤ gb229));have n3_:=aMk ((by rw [hg];exact bSz : w.heap.size ≤ gb229));clear HB;have HB:=n0_;have BK229:=n1_;have GW229:=n2_;have GE229:=n3_;clear n0_ n1_ n2_ n3_;clear hb hbox hg))
 (try simp only [Act.put,List.setIfInBounds_toArray,List.set_cons_zero,List.set_cons_succ])
 go_cut [37] (fun v37 wc => ∃ (kq : Nat) (x37_1 : Bool),v37 = .bool x37_1 ∧ Aside0 (spec_RoleOK.j0 kq x37_1 a0_0 l0_1 a0_2 a0_3 a0_4 = some r) ∧ Aside0 (kq ≤ k) ∧ Aside0 (wc.heap[gb229]? = some (.cells #[.string a0_0,(.slice A0_1 l0_1.length c0_1),.int .i64 a0_2,.int .i64 a0_3,.int .i64 a0_4] 54 (0,0))) ∧ Aside0 (Below w.heap.size w wc))
 case first =>
  have H:=HC2.out
  clear HC2
  replace H:=Option.bind_eq_some_iff.mp H
  obtain ⟨t230,A40,H⟩:=H
  replace H : (if t230 = true then (if (a0_0.size : Int) > 8 then (spec_RoleOK.j0 k true a0_0 l0_1 a0_2 a0_3 a0_4) else (if (l0_1.length : Int) > 8 then (spec_RoleOK.j0 k true a0_0 l0_1 a0_2 a0_3 a0_4) else ((spec_l01In.f a0_2 1 1000000).bind fun t231 => (if t231 = true then ((spec_l01In.f a0_3 1 1000).bind fun t232 => (if t232 = true then ((spec_l01In.f a0_4 1 1000).bind fun t233 => (spec_RoleOK.j0 k (!t233) a0_0 l0_1 a0_2 a0_3 a0_4)) else (spec_RoleOK.j0 k true a0_0 l0_1 a0_2 a0_3 a0_4))) else (spec_RoleOK.j0 k true a0_0 l0_1 a0_2 a0_3 a0_4))))) else (spec_RoleOK.j0 k true a0_0 l0_1 a0_2 a0_3 a0_4)) = some r:=H
  have A4:=aMk A40
  clear A40
  by_cases c5 : t230 = true
  ·subst c5
   have H1 : (if (a0_0.size : Int) > 8 then (spec_RoleOK.j0 k true a0_0 l0_1 a0_2 a0_3 a0_4) else (if (l0_1.length : Int) > 8 then (spec_RoleOK.j0 k true a0_0 l0_1 a0_2 a0_3 a0_4) else ((spec_l01In.f a0_2 1 1000000).bind fun t231 => (if t231 = true then ((spec_l01In.f a0_3 1 1000).bind fun t232 => (if t232 = true then ((spec_l01In.f a0_4 1 1000).bind fun t233 => (spec_RoleOK.j0 k (!t233) a0_0 l0_1 a0_2 a0_3 a0_4)) else (spec_RoleOK.j0 k true a0_0 l0_1 a0_2 a0_3 a0_4))) else (spec_RoleOK.j0 k true a0_0 l0_1 a0_2 a0_3 a0_4))))) = some r:=by rw [if_pos rfl] at H;exact H
   clear H
   have H:=H1
   clear H1
   by_cases c6 : (a0_0.size : Int) > 8
   ·rw [if_pos c6] at H
    have c6b0 : decide (8 < (a0_0.size : Int)) = true:=decide_eq_true c6
    have c6b1 : decide (8 < a0_0.size) = true:=decide_eq_true (by omega)
    clear c6
    (first|rw [c6b0]|(simp only [i64_w,i32_w];rw [c6b0]) | skip)
    have H':=aMk H
    clear H
    obtain ⟨hcz7_0,hcz7_1,hcz7_2,hcz7_3,hcz7_4,hfz7_0,hfz7_1,hfz7_2,hfz7_3,hfz7_4⟩:=bC5 BK229.out
    go_wp2_with (first|((with_reducible refine gate_callee (f:=54) rfl ?_);refine gLs 6 Try.func54 #[.string a0_0] ?_;(with_reducible refine (spec_NameOK.calls k a0_0 true _ A4.out).mono ?_);rintro e w' ⟨rfl,⟨nd,rfl⟩⟩;refine ⟨_,rfl,?_⟩))
    go_meet
    case rel => exact ⟨_,(true),(by first | rfl|(simp;done)|(simp [*];done)|(simp [ne_nil_b];done)|(simp [ne_nil_b, *];done)),H',⟨by first | omega|exact Nat.le_refl _⟩,⟨by (with_reducible repeat (first|refine bDn ?_ _|refine bDr ?_|refine bAl ?_ _));exact BK229.out⟩,⟨by repeat (first|(with_reducible first|exact HB.out|apply bwA|apply bwN|apply bw1|refine below_set ?_ GE229.out)|exact HB.out)⟩⟩
   ·rw [if_neg c6] at H
    have c6b0 : decide (8 < (a0_0.size : Int)) = false:=decide_eq_false c6
    have c6b1 : decide (8 < a0_0.size) = false:=decide_eq_false (by omega)
    clear c6
    (first|rw [c6b0]|(simp only [i64_w,i32_w];rw [c6b0]) | skip)
    by_cases c8 : (l0_1.length : Int) > 8
    ·rw [if_pos c8] at H
     have c8b0 : decide (8 < (l0_1.length : Int)) = true:=decide_eq_true c8
     have c8b1 : decide (8 < l0_1.length) = true:=decide_eq_true (by omega)
     clear c8
     have H':=aMk H
     clear H
     obtain ⟨hcz9_0,hcz9_1,hcz9_2,hcz9_3,hcz9_4,hfz9_0,hfz9_1,hfz9_2,hfz9_3,hfz9_4⟩:=bC5 BK229.out
     go_wp2_with (first|((with_reducible refine gate_callee (f:=54) rfl ?_);refine gLs 6 Try.func54 #[.string a0_0] ?_;(with_reducible refine (spec_NameOK.calls k a0_0 true _ A4.out).mono ?_);rintro e w' ⟨rfl,⟨nd,rfl⟩⟩;refine ⟨_,rfl,?_⟩))
     go_meet
     case rel => exact ⟨_,(true),(by first | rfl|(simp;done)|(simp [*];done)|(simp [ne_nil_b];done)|(simp [ne_nil_b, *];done)),H',⟨by first | omega|exact Nat.le_refl _⟩,⟨by (with_reducible repeat (first|refine bDn ?_ _|refine bDr ?_|refine bAl ?_ _));exact BK229.out⟩,⟨by repeat (first|(with_reducible first|exact HB.out|apply bwA|apply bwN|apply bw1|refine below_set ?_ GE229.out)|exact HB.out)⟩⟩
    ·rw [if_neg c8] at H
     have c8b0 : decide (8 < (l0_1.length : Int)) = false:=decide_eq_false c8
     have c8b1 : decide (8 < l0_1.length) = false:=decide_eq_false (by omega)
     clear c8
     replace H:=Option.bind_eq_some_iff.mp H
     obtain ⟨t231,A100,H⟩:=H
     replace H : (if t231 = true then ((spec_l01In.f a0_3 1 1000).bind fun t232 => (if t232 = true then ((spec_l01In.f a0_4 1 1000).bind fun t233 => (spec_RoleOK.j0 k (!t233) a0_0 l0_1 a0_2 a0_3 a0_4)) else (spec_RoleOK.j0 k true a0_0 l0_1 a0_2 a0_3 a0_4))) else (spec_RoleOK.j0 k true a0_0 l0_1 a0_2 a0_3 a0_4)) = some r:=H
     have A10:=aMk A100
     clear A100
     by_cases c11 : t231 = true
     ·subst c11
      have H1 : ((spec_l01In.f a0_3 1 1000).bind fun t232 => (if t232 = true then ((spec_l01In.f a0_4 1 1000).bind fun t233 => (spec_RoleOK.j0 k (!t233) a0_0 l0_1 a0_2 a0_3 a0_4)) else (spec_RoleOK.j0 k true a0_0 l0_1 a0_2 a0_3 a0_4))) = some r:=by rw [if_pos rfl] at H;exact H
      clear H
      have H:=H1
      clear H1
      replace H:=Option.bind_eq_some_iff.mp H
      obtain ⟨t232,A120,H⟩:=H
      replace H : (if t232 = true then ((spec_l01In.f a0_4 1 1000).bind fun t233 => (spec_RoleOK.j0 k (!t233) a0_0 l0_1 a0_2 a0_3 a0_4)) else (spec_RoleOK.j0 k true a0_0 l0_1 a0_2 a0_3 a0_4)) = some r:=H
      have A12:=aMk A120
      clear A120
      by_cases c13 : t232 = true
      ·subst c13
       have H1 : ((spec_l01In.f a0_4 1 1000).bind fun t233 => (spec_RoleOK.j0 k (!t233) a0_0 l0_1 a0_2 a0_3 a0_4)) = some r:=by rw [if_pos rfl] at H;exact H
       clear H
       have H:=H1
       clear H1
       replace H:=Option.bind_eq_some_iff.mp H
       obtain ⟨t233,A140,H⟩:=H
       replace H : (spec_RoleOK.j0 k (!t233) a0_0 l0_1 a0_2 a0_3 a0_4) = some r:=H
       have A14:=aMk A140
       clear A140
       have H':=aMk H
       clear H
       obtain ⟨hcz15_0,hcz15_1,hcz15_2,hcz15_3,hcz15_4,hfz15_0,hfz15_1,hfz15_2,hfz15_3,hfz15_4⟩:=bC5 BK229.out
       go_wp2_with (first|((with_reducible refine gate_callee (f:=54) rfl ?_);refine gLs 6 Try.func54 #[.string a0_0] ?_;(with_reducible refine (spec_NameOK.calls k a0_0 true _ A4.out).mono ?_);rintro e w' ⟨rfl,⟨nd,rfl⟩⟩;refine ⟨_,rfl,?_⟩)|(go_at_call 55;(with_reducible refine (spec_l01In.calls a0_2 1 1000000 true _ A10.out).mono ?_);rintro e w' ⟨rfl,⟨nd,rfl⟩⟩)|(go_at_call 55;(with_reducible refine (spec_l01In.calls a0_3 1 1000 true _ A12.out).mono ?_);rintro e w' ⟨rfl,⟨nd,rfl⟩⟩)|(go_at_call 55;(with_reducible refine (spec_l01In.calls a0_4 1 1000 t233 _ A14.out).mono ?_);rintro e w' ⟨rfl,⟨nd,rfl⟩⟩))
       go_meet
       case rel => exact ⟨_,(!t233),(by first | rfl|(simp;done)|(simp [*];done)|(simp [ne_nil_b];done)|(simp [ne_nil_b, *];done)),H',⟨by first | omega|exact Nat.le_refl _⟩,⟨by (with_reducible repeat (first|refine bDn ?_ _|refine bDr ?_|refine bAl ?_ _));exact BK229.out⟩,⟨by repeat (first|(with_reducible first|exact HB.out|apply bwA|apply bwN|apply bw1|refine below_set ?_ GE229.out)|exact HB.out)⟩⟩
      ·replace c13:=Bool.eq_false_iff.mpr c13
       subst c13
       have H1 : (spec_RoleOK.j0 k true a0_0 l0_1 a0_2 a0_3 a0_4) = some r:=by rw [if_neg (show ¬ (false = true) by decide)] at H;exact H
       clear H
       have H:=H1
       clear H1
       have H':=aMk H
       clear H
       obtain ⟨hcz16_0,hcz16_1,hcz16_2,hcz16_3,hcz16_4,hfz16_0,hfz16_1,hfz16_2,hfz16_3,hfz16_4⟩:=bC5 BK229.out
       go_wp2_with (first|((with_reducible refine gate_callee (f:=54) rfl ?_);refine gLs 6 Try.func54 #[.string a0_0] ?_;(with_reducible refine (spec_NameOK.calls k a0_0 true _ A4.out).mono ?_);rintro e w' ⟨rfl,⟨nd,rfl⟩⟩;refine ⟨_,rfl,?_⟩)|(go_at_call 55;(with_reducible refine (spec_l01In.calls a0_2 1 1000000 true _ A10.out).mono ?_);rintro e w' ⟨rfl,⟨nd,rfl⟩⟩)|(go_at_call 55;(with_reducible refine (spec_l01In.calls a0_3 1 1000 false _ A12.out).mono ?_);rintro e w' ⟨rfl,⟨nd,rfl⟩⟩))
       go_meet
       case rel => exact ⟨_,(true),(by first | rfl|(simp;done)|(simp [*];done)|(simp [ne_nil_b];done)|(simp [ne_nil_b, *];done)),H',⟨by first | omega|exact Nat.le_refl _⟩,⟨by (with_reducible repeat (first|refine bDn ?_ _|refine bDr ?_|refine bAl ?_ _));exact BK229.out⟩,⟨by repeat (first|(with_reducible first|exact HB.out|apply bwA|apply bwN|apply bw1|refine below_set ?_ GE229.out)|exact HB.out)⟩⟩
     ·replace c11:=Bool.eq_false_iff.mpr c11
      subst c11
      have H1 : (spec_RoleOK.j0 k true a0_0 l0_1 a0_2 a0_3 a0_4) = some r:=by rw [if_neg (show ¬ (false = true) by decide)] at H;exact H
      clear H
      have H:=H1
      clear H1
      have H':=aMk H
      clear H
      obtain ⟨hcz17_0,hcz17_1,hcz17_2,hcz17_3,hcz17_4,hfz17_0,hfz17_1,hfz17_2,hfz17_3,hfz17_4⟩:=bC5 BK229.out
      go_wp2_with (first|((with_reducible refine gate_callee (f:=54) rfl ?_);refine gLs 6 Try.func54 #[.string a0_0] ?_;(with_reducible refine (spec_NameOK.calls k a0_0 true _ A4.out).mono ?_);rintro e w' ⟨rfl,⟨nd,rfl⟩⟩;refine ⟨_,rfl,?_⟩)|(go_at_call 55;(with_reducible refine (spec_l01In.calls a0_2 1 1000000 false _ A10.out).mono ?_);rintro e w' ⟨rfl,⟨nd,rfl⟩⟩))
      go_meet
      case rel => exact ⟨_,(true),(by first | rfl|(simp;done)|(simp [*];done)|(simp [ne_nil_b];done)|(simp [ne_nil_b, *];done)),H',⟨by first | omega|exact Nat.le_refl _⟩,⟨by (with_reducible repeat (first|refine bDn ?_ _|refine bDr ?_|refine bAl ?_ _));exact BK229.out⟩,⟨by repeat (first|(with_reducible first|exact HB.out|apply bwA|apply bwN|apply bw1|refine below_set ?_ GE229.out)|exact HB.out)⟩⟩
  ·replace c5:=Bool.eq_false_iff.mpr c5
   subst c5
   have H1 : (spec_RoleOK.j0 k true a0_0 l0_1 a0_2 a0_3 a0_4) = some r:=by rw [if_neg (show ¬ (false = true) by decide)] at H;exact H
   clear H
   have H:=H1
   clear H1
   have H':=aMk H
   clear H
   obtain ⟨hcz18_0,hcz18_1,hcz18_2,hcz18_3,hcz18_4,hfz18_0,hfz18_1,hfz18_2,hfz18_3,hfz18_4⟩:=bC5 BK229.out
   go_wp2_with (first|((with_reducible refine gate_callee (f:=54) rfl ?_);refine gLs 6 Try.func54 #[.string a0_0] ?_;(with_reducible refine (spec_NameOK.calls k a0_0 false _ A4.out).mono ?_);rintro e w' ⟨rfl,⟨nd,rfl⟩⟩;refine ⟨_,rfl,?_⟩))
   go_meet
   case rel => exact ⟨_,(true),(by first | rfl|(simp;done)|(simp [*];done)|(simp [ne_nil_b];done)|(simp [ne_nil_b, *];done)),H',⟨by first | omega|exact Nat.le_refl _⟩,⟨by (with_reducible repeat (first|refine bDn ?_ _|refine bDr ?_|refine bAl ?_ _));exact BK229.out⟩,⟨by repeat (first|(with_reducible first|exact HB.out|apply bwA|apply bwN|apply bw1|refine below_set ?_ GE229.out)|exact HB.out)⟩⟩
 case rest =>
  clear HC2
  try clear c1
  try clear c2
  try clear p2
  try clear c5
  try clear c6
  try clear c6b0
  try clear c6b1
  try clear c8
  try clear c8b0
  try clear c8b1
  try clear c11
  try clear c13
  try clear hcz15_0
  try clear hcz15_1
  try clear hcz15_2
  try clear hcz15_3
  try clear hcz15_4
  try clear hcz16_0
  try clear hcz16_1
  try clear hcz16_2
  try clear hcz16_3
  try clear hcz16_4
  try clear hcz17_0
  try clear hcz17_1
  try clear hcz17_2
  try clear hcz17_3
  try clear hcz17_4
  try clear hcz18_0
  try clear hcz18_1
  try clear hcz18_2
  try clear hcz18_3
  try clear hcz18_4
  try clear hcz7_0
  try clear hcz7_1
  try clear hcz7_2
  try clear hcz7_3
  try clear hcz7_4
  try clear hcz9_0
  try clear hcz9_1
  try clear hcz9_2
  try clear hcz9_3
  try clear hcz9_4
  try clear hfz15_0
  try clear hfz15_1
  try clear hfz15_2
  try clear hfz15_3
  try clear hfz15_4
  try clear hfz16_0
  try clear hfz16_1
  try clear hfz16_2
  try clear hfz16_3
  try clear hfz16_4
  try clear hfz17_0
  try clear hfz17_1
  try clear hfz17_2
  try clear hfz17_3
  try clear hfz17_4
  try clear hfz18_0
  try clear hfz18_1
  try clear hfz18_2
  try clear hfz18_3
  try clear hfz18_4
  try clear hfz7_0
  try clear hfz7_1
  try clear hfz7_2
  try clear hfz7_3
  try clear hfz7_4
  try clear hfz9_0
  try clear hfz9_1
  try clear hfz9_2
  try clear hfz9_3
  try clear hfz9_4
  obtain ⟨kq,x37_1,rfl,HA,HJ1,BK229,HB⟩:=hcut
  cases kq with
  | zero => exact absurd HA.out (by simp [spec_RoleOK.j0])
  | succ kj1 =>
   have H:=HA.out
   clear HA
   simp only [spec_RoleOK.j0] at H
   by_cases c19 : x37_1 = true
   ·subst c19
    have H1 : (some false) = some r:=by rw [if_pos rfl] at H;exact H
    clear H
    have H:=H1
    clear H1
    obtain rfl:=Option.some.inj H
    go_wp2
    go_ret
    exact ⟨eRf,by repeat (first|(with_reducible first|exact HB.out|apply bwA|apply bwN|apply bw1|refine below_set ?_ GE229.out)|exact HB.out)⟩
   ·replace c19:=Bool.eq_false_iff.mpr c19
    subst c19
    have H1 : (spec_RoleOK.l0 kj1 0 a0_0 l0_1 a0_2 a0_3 a0_4) = some r:=by rw [if_neg (show ¬ (false = true) by decide)] at H;exact H
    clear H
    have H:=H1
    clear H1
    have H':=aMk H
    clear H
    go_wp2
    go_loopg [3] kj1 (fun kq v3 w' => ∃ (x3_2 : Int),v3 = .int .i64 x3_2 ∧ Aside0 (spec_RoleOK.l0 kq x3_2 a0_0 l0_1 a0_2 a0_3 a0_4 = some r) ∧ Aside0 (kq ≤ kj1) ∧ Aside0 (w'.heap[gb229]? = some (.cells #[.string a0_0,(.slice A0_1 l0_1.length c0_1),.int .i64 a0_2,.int .i64 a0_3,.int .i64 a0_4] 54 (0,0))) ∧ Aside0 (Below w.heap.size w w'))
    case atStart => exact ⟨(0),(by first | rfl|(simp;done)|(simp [*];done)|(simp [ne_nil_b];done)|(simp [ne_nil_b, *];done)),H',⟨Nat.le_refl _⟩,⟨by (with_reducible repeat (first|refine bDn ?_ _|refine bDr ?_|refine bAl ?_ _));exact BK229.out⟩,⟨by repeat (first|(with_reducible first|exact HB.out|apply bwA|apply bwN|apply bw1|refine below_set ?_ GE229.out)|exact HB.out)⟩⟩
    case round =>
     clear H'
     try clear c1
     try clear c2
     try clear p2
     try clear c5
     try clear c6
     try clear c6b0
     try clear c6b1
     try clear c8
     try clear c8b0
     try clear c8b1
     try clear c11
     try clear c13
     try clear c19
     try clear hcz15_0
     try clear hcz15_1
     try clear hcz15_2
     try clear hcz15_3
     try clear hcz15_4
     try clear hcz16_0
     try clear hcz16_1
     try clear hcz16_2
     try clear hcz16_3
     try clear hcz16_4
     try clear hcz17_0
     try clear hcz17_1
     try clear hcz17_2
     try clear hcz17_3
     try clear hcz17_4
     try clear hcz18_0
     try clear hcz18_1
     try clear hcz18_2
     try clear hcz18_3
     try clear hcz18_4
     try clear hcz7_0
     try clear hcz7_1
     try clear hcz7_2
     try clear hcz7_3
     try clear hcz7_4
     try clear hcz9_0
     try clear hcz9_1
     try clear hcz9_2
     try clear hcz9_3
     try clear hcz9_4
     try clear hfz15_0
     try clear hfz15_1
     try clear hfz15_2
     try clear hfz15_3
     try clear hfz15_4
     try clear hfz16_0
     try clear hfz16_1
     try clear hfz16_2
     try clear hfz16_3
     try clear hfz16_4
     try clear hfz17_0
     try clear hfz17_1
     try clear hfz17_2
     try clear hfz17_3
     try clear hfz17_4
     try clear hfz18_0
     try clear hfz18_1
     try clear hfz18_2
     try clear hfz18_3
     try clear hfz18_4
     try clear hfz7_0
     try clear hfz7_1
     try clear hfz7_2
     try clear hfz7_3
     try clear hfz7_4
     try clear hfz9_0
     try clear hfz9_1
     try clear hfz9_2
     try clear hfz9_3
     try clear hfz9_4
     try clear p2
     obtain ⟨x3_2,rfl,HA,HK2,BK229,HB⟩:=hrel
     cases gk with
     | zero => exact absurd HA.out (by simp [spec_RoleOK.l0])
     | succ k2 =>
      have H:=HA.out
      clear HA
      simp only [spec_RoleOK.l0] at H
      by_cases c20 : x3_2 < (l0_1.length : Int)
      ·rw [if_pos c20] at H
       have c20b0 : decide (x3_2 < (l0_1.length : Int)) = true:=decide_eq_true c20
       clear c20
       by_cases c21 : 0 ≤ x3_2
       ·rw [if_pos c21] at H
        have c21b0 : decide (0 ≤ x3_2) = true:=decide_eq_true c21
        clear c21
        replace H:=Option.bind_eq_some_iff.mp H
        obtain ⟨t235,A220,H⟩:=H
        replace H : (if t235 = true then (spec_RoleOK.l0 k2 (wrap64 (x3_2 + 1)) a0_0 l0_1 a0_2 a0_3 a0_4) else (some false)) = some r:=H
        have A22:=aMk A220
        clear A220
        by_cases c23 : t235 = true
        ·subst c23
         have H1 : (spec_RoleOK.l0 k2 (wrap64 (x3_2 + 1)) a0_0 l0_1 a0_2 a0_3 a0_4) = some r:=by rw [if_pos rfl] at H;exact H
         clear H
         have H:=H1
         clear H1
         have H':=aMk H
         clear H
         obtain ⟨hcz24_0,hcz24_1,hcz24_2,hcz24_3,hcz24_4,hfz24_0,hfz24_1,hfz24_2,hfz24_3,hfz24_4⟩:=bC5 BK229.out
         have p234 : 0 ≤ (x3_2 : Int):=of_decide_eq_true (by first|(with_reducible assumption) | assumption)
         have q234 : x3_2 < (l0_1.length : Int):=of_decide_eq_true (by first|(with_reducible assumption) | assumption)
         obtain ⟨ad234,e234,hx234_0,hx234_1,hx234_2,hx234_3,hx234_4,hx234_5⟩:=at_T36 HR0_1.out x3_2 p234 q234
         cases e234
         replace hx234_0:=bXc HB.out hx234_0
         replace hx234_1:=bXc HB.out hx234_1
         replace hx234_2:=bXc HB.out hx234_2
         replace hx234_3:=bXc HB.out hx234_3
         replace hx234_4:=bXc HB.out hx234_4
         replace hx234_5:=bXc HB.out hx234_5
         replace p234:=eq_true p234
         replace q234:=eq_true q234
         go_wp2_with (first|((with_reducible refine gate_callee (f:=14) rfl ?_);refine gLs 50 Try.func14 #[.agg #[.int .i64 ((rd_T36 l0_1 x3_2).f0),.int .i64 ((rd_T36 l0_1 x3_2).f1.f0),.int .i64 ((rd_T36 l0_1 x3_2).f1.f1),.int .i64 ((rd_T36 l0_1 x3_2).f2.f0),.int .i64 ((rd_T36 l0_1 x3_2).f2.f1),.bool ((rd_T36 l0_1 x3_2).f3)]] ?_;(with_reducible refine (spec_RuleOK.calls ((rd_T36 l0_1 x3_2).f0) ((rd_T36 l0_1 x3_2).f1.f0) ((rd_T36 l0_1 x3_2).f1.f1) ((rd_T36 l0_1 x3_2).f2.f0) ((rd_T36 l0_1 x3_2).f2.f1) ((rd_T36 l0_1 x3_2).f3) true _ A22.out).mono ?_);rintro e w25 ⟨rfl,hb⟩;refine ⟨_,rfl,?_⟩;have n0_:=aMk (bkB BK229.out hb);have n1_:=aMk (below_step (by repeat (first|(with_reducible first|exact HB.out|apply bwA|apply bwN|apply bw1|refine below_set ?_ GE229.out)|exact HB.out)) hb);clear BK229;clear HB;have BK229:=n0_;have HB:=n1_;clear n0_ n1_;(try clear hb);(try clear hb2);(try clear hk);(try clear hi)))
         go_roundg k2
         case measure => have:=HJ1.out;have:=HK2.out;omega
         case rel => exact ⟨(wrap64 (x3_2 + 1)),(by first | rfl|(simp;done)|(simp [*];done)|(simp [ne_nil_b];done)|(simp [ne_nil_b, *];done)),H',⟨by have:=HJ1.out;have:=HK2.out;omega⟩,⟨by (with_reducible repeat (first|refine bDn ?_ _|refine bDr ?_|refine bAl ?_ _));exact BK229.out⟩,⟨by repeat (first|(with_reducible first|exact HB.out|apply bwA|apply bwN|apply bw1|refine below_set ?_ GE229.out)|exact HB.out)⟩⟩
        ·replace c23:=Bool.eq_false_iff.mpr c23
         subst c23
         have H1 : (some false) = some r:=by rw [if_neg (show ¬ (false = true) by decide)] at H;exact H
         clear H
         have H:=H1
         clear H1
         obtain rfl:=Option.some.inj H
         obtain ⟨hcz26_0,hcz26_1,hcz26_2,hcz26_3,hcz26_4,hfz26_0,hfz26_1,hfz26_2,hfz26_3,hfz26_4⟩:=bC5 BK229.out
         have p234 : 0 ≤ (x3_2 : Int):=of_decide_eq_true (by first|(with_reducible assumption) | assumption)
         have q234 : x3_2 < (l0_1.length : Int):=of_decide_eq_true (by first|(with_reducible assumption) | assumption)
         obtain ⟨ad234,e234,hx234_0,hx234_1,hx234_2,hx234_3,hx234_4,hx234_5⟩:=at_T36 HR0_1.out x3_2 p234 q234
         cases e234
         replace hx234_0:=bXc HB.out hx234_0
         replace hx234_1:=bXc HB.out hx234_1
         replace hx234_2:=bXc HB.out hx234_2
         replace hx234_3:=bXc HB.out hx234_3
         replace hx234_4:=bXc HB.out hx234_4
         replace hx234_5:=bXc HB.out hx234_5
         replace p234:=eq_true p234
         replace q234:=eq_true q234
         go_wp2_with (first|((with_reducible refine gate_callee (f:=14) rfl ?_);refine gLs 50 Try.func14 #[.agg #[.int .i64 ((rd_T36 l0_1 x3_2).f0),.int .i64 ((rd_T36 l0_1 x3_2).f1.f0),.int .i64 ((rd_T36 l0_1 x3_2).f1.f1),.int .i64 ((rd_T36 l0_1 x3_2).f2.f0),.int .i64 ((rd_T36 l0_1 x3_2).f2.f1),.bool ((rd_T36 l0_1 x3_2).f3)]] ?_;(with_reducible refine (spec_RuleOK.calls ((rd_T36 l0_1 x3_2).f0) ((rd_T36 l0_1 x3_2).f1.f0) ((rd_T36 l0_1 x3_2).f1.f1) ((rd_T36 l0_1 x3_2).f2.f0) ((rd_T36 l0_1 x3_2).f2.f1) ((rd_T36 l0_1 x3_2).f3) false _ A22.out).mono ?_);rintro e w27 ⟨rfl,hb⟩;refine ⟨_,rfl,?_⟩;have n0_:=aMk (bkB BK229.out hb);have n1_:=aMk (below_step (by repeat (first|(with_reducible first|exact HB.out|apply bwA|apply bwN|apply bw1|refine below_set ?_ GE229.out)|exact HB.out)) hb);clear BK229;clear HB;have BK229:=n0_;have HB:=n1_;clear n0_ n1_;(try clear hb);(try clear hb2);(try clear hk);(try clear hi)))
         go_ret
         exact ⟨eRf,by repeat (first|(with_reducible first|exact HB.out|apply bwA|apply bwN|apply bw1|refine below_set ?_ GE229.out)|exact HB.out)⟩
       ·rw [if_neg c21] at H
        exact absurd H (by simp)
      ·rw [if_neg c20] at H
       have c20b0 : decide (x3_2 < (l0_1.length : Int)) = false:=decide_eq_false c20
       clear c20
       obtain rfl:=Option.some.inj H
       obtain ⟨hcz28_0,hcz28_1,hcz28_2,hcz28_3,hcz28_4,hfz28_0,hfz28_1,hfz28_2,hfz28_3,hfz28_4⟩:=bC5 BK229.out
       go_wp2
       go_ret
       exact ⟨eRf,by repeat (first|(with_reducible first|exact HB.out|apply bwA|apply bwN|apply bw1|refine below_set ?_ GE229.out)|exact HB.out)⟩
end
section
/-! ### spec_l05Has: function 40 -/
def spec_l05Has.f (a0_0 : Int) (a0_1 : Int) (a1 : Int) : Option (Bool):=if 0 ≤ (IntKind.u64.wrap (wrap64 (32 - a0_1))) then (some ((shr .i64 a0_0 (IntKind.u64.wrap (wrap64 (32 - a0_1)))) == (shr .i64 a1 (IntKind.u64.wrap (wrap64 (32 - a0_1)))))) else (none)
set_option maxHeartbeats 8000000 in
set_option maxRecDepth 100000 in
theorem spec_l05Has.calls (a0_0 : Int) (a0_1 : Int) (a1 : Int) (r : Bool) (w : World) (h : spec_l05Has.f a0_0 a0_1 a1 = some r) :
  Calls Try.prog 40 #[.agg #[.int .i64 a0_0,.int .i64 a0_1],.int .i64 a1] w fun e w' => e = .returned (.bool r) ∧ Below w.heap.size w w':=by
 have hu26:=Try.underlying26
 have HB:=aMk (Below.refl w.heap.size w)
 have H : (if 0 ≤ (IntKind.u64.wrap (wrap64 (32 - a0_1))) then (some ((shr .i64 a0_0 (IntKind.u64.wrap (wrap64 (32 - a0_1)))) == (shr .i64 a1 (IntKind.u64.wrap (wrap64 (32 - a0_1)))))) else (none)) = some r:=h
 clear h
 obtain ⟨ji3,hji3⟩ : ∃ j_ : Int,(IntKind.u64.wrap (wrap64 (32 - a0_1))) = j_:=⟨_,rfl⟩
 replace H : (if 0 ≤ (ji3) then (some ((shr .i64 a0_0 (ji3)) == (shr .i64 a1 (ji3)))) else (none)) = some r:=by first|(rw [hji3] at H;exact H)|(simp only [hji3] at H ⊢;exact H)
 by_cases c4 : 0 ≤ (ji3)
 ·rw [if_pos c4] at H
  have c4b0:=eq_true c4
  have c4b1 : decide (0 ≤ (ji3)) = true:=decide_eq_true c4
  clear c4
  obtain ⟨ji5,hji5⟩ : ∃ j_ : Int,(shr .i64 a0_0 (ji3)) = j_:=⟨_,rfl⟩
  replace H : (some ((ji5) == (shr .i64 a1 (ji3)))) = some r:=by first|(rw [hji5] at H;exact H)|(simp only [hji5] at H ⊢;exact H)
  have hji5_ : (a0_0 / 2 ^ min (ji3).toNat 64) = ji5:=hji5
  have hji5z : (ji3) ≤ 64 → (a0_0 / 2 ^ (ji3).toNat) = ji5:=shr_small hji5
  have c6b0:=eq_true (of_decide_eq_true (by first|(with_reducible assumption) | assumption) : 0 ≤ (ji3))
  obtain ⟨ji7,hji7⟩ : ∃ j_ : Int,(shr .i64 a1 (ji3)) = j_:=⟨_,rfl⟩
  replace H : (some ((ji5) == (ji7))) = some r:=by first|(rw [hji7] at H;exact H)|(simp only [hji7] at H ⊢;exact H)
  have hji7_ : (a1 / 2 ^ min (ji3).toNat 64) = ji7:=hji7
  have hji7z : (ji3) ≤ 64 → (a1 / 2 ^ (ji3).toNat) = ji7:=shr_small hji7
  obtain rfl:=Option.some.inj H
  go_enter Try.func40,Try.ntmps40
  go_wp2_with (first|((with_reducible refine gate_dst (N:=2) rfl ?_);refine bxE (N:=2) (cs:=#[.int .i64 a0_0,.int .i64 a0_1]) (t:=26) ?_;intro gb105 hg w8 hbox hb;have n0_:=aMk (bSt hb);have n1_:=aMk (hbox);have n2_:=aMk ((by rw [hg];exact bSz : w.heap.size ≤ gb105));have n3_:=aMk ((by rw [hg];exact bSz : w.heap.size ≤ gb105));clear HB;have HB:=n0_;have BK105:=n1_;have GW105:=n2_;have GE105:=n3_;clear n0_ n1_ n2_ n3_;clear hb hbox hg;obtain ⟨hcz9_0,hcz9_1,hfz9_0,hfz9_1⟩:=bC2 BK105.out))
  go_ret
  exact ⟨by first | rfl|(simp [errW_none,errW_some] <;> rfl)|(simp only [← hji3,← hji5,← hji7];first | rfl|(simp [errW_none,errW_some] <;> rfl))|(simp [*,errW_none,errW_some] <;> rfl),by repeat (first|(with_reducible first|exact HB.out|apply bwA|apply bwN|apply bw1|refine below_set ?_ GE105.out)|exact HB.out)⟩
 ·rw [if_neg c4] at H
  exact absurd H (by simp)
end
section
/-! ### spec_l01Mac: function 70 -/
def spec_l01Mac.f (a0 : ByteArray) : Option (Bool):=some ((a0.size : Int) == 6)
set_option maxHeartbeats 8000000 in
set_option maxRecDepth 100000 in
theorem spec_l01Mac.calls (a0 : ByteArray) (r : Bool) (w : World) (h : spec_l01Mac.f a0 = some r) :
  Calls Try.prog 70 #[.string a0] w fun e w' => e = .returned (.bool r) ∧ Drawn0 w w':=by
 have H : (some ((a0.size : Int) == 6)) = some r:=h
 clear h
 obtain rfl:=Option.some.inj H
 go_enter Try.func70,Try.ntmps70
 go_wp2
 go_ret
 exact ⟨by first | rfl|(simp;done)|(simp [*];done)|(simp [ne_nil_b];done)|(simp [ne_nil_b, *];done),by repeat (first|exact Drawn0.refl _|apply Drawn0.step)⟩
end
section
theorem str_geq (t : TypeId) (a b : ByteArray) (w : World) : (Sem.run Try.prog (binOp BinOp.geq t (Value.string a) (Value.string b)) w) = .ok (.bool (!Op.bytesLess a.toList b.toList)) w:=by
 simp [binOp,Op.stringOp]
theorem str_lss (t : TypeId) (a b : ByteArray) (w : World) : (Sem.run Try.prog (binOp BinOp.lss t (Value.string a) (Value.string b)) w) = .ok (.bool (Op.bytesLess a.toList b.toList)) w:=by
 simp [binOp,Op.stringOp]
end
end Go.Proofs.Ytiemmhhjiplnlaa.X
