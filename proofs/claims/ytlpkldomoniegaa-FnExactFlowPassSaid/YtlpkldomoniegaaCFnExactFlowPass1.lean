/- Texts that the row of FnExactFlowPass stands on: functions of the program and of the reference, each as a Lean function with the same answers, and the plain lemmas. Conditions: none beside those that each theorem names. -/
import Derived.Test.YtlpkldomoniegaaCFnExactFlowPass0
namespace Go.Proofs.Ytlpkldomoniegaa.X
open Go.RowKit Go.Proofs.YtlpkldomoniegaaW.PrintWords Go.Proofs.YtlpkldomoniegaaW.PrintLast Go.Proofs.YtlpkldomoniegaaW.PrintMore
attribute [local go_sem] max2_int min2_int max_two min_two max_three min_three max_four min_four   -- for this text's walks alone
set_option linter.unusedVariables false
set_option linter.unusedSimpArgs false
open Go.Proofs.YtlpkldomoniegaaW.PrintWords renaming blk_drewN -> bDn
open Go.Proofs.YtlpkldomoniegaaW.PrintWords renaming blk_drew -> bDr
open Go.Proofs.YtlpkldomoniegaaW.PrintWords renaming blk_alloc -> bAl
open Go.Proofs.YtlpkldomoniegaaW.PrintWords renaming blk_frozen -> bFr
open Go.Proofs.YtlpkldomoniegaaW.PrintWords renaming blk_cell -> bCe
open Go.Proofs.YtlpkldomoniegaaW.PrintWords.Aside0 renaming mk -> aMk
open Go.World renaming block_lt_of_cell? -> wLt
open Go.Proofs.YtlpkldomoniegaaW.PrintWords renaming pw_below_drewN -> bwN
open Go.Proofs.YtlpkldomoniegaaW.PrintWords renaming below_drew1 -> bw1
open Go.Proofs.YtlpkldomoniegaaW.PrintWords renaming below_alloc -> bwA
section
theorem bkL {w W : World} {g x : Nat} {o : Obj} (h : w.heap[g]? = some o) (hg : x = W.heap.size) (hW : w.heap[g]? = some o → W.heap[g]? = some o:=by intro h;(with_reducible repeat (first|refine bDn ?_ _|refine bDr ?_|refine bAl ?_ _));exact h) : g ≠ x:=by rw [hg];exact Nat.ne_of_lt (blk_lt (hW h))
theorem bkG {w W : World} {g x : Nat} {o : Obj} (h : w.heap[g]? = some o) (hg : x = W.heap.size) (hW : w.heap[g]? = some o → W.heap[g]? = some o:=by intro h;(with_reducible repeat (first|refine bDn ?_ _|refine bDr ?_|refine bAl ?_ _));exact h) : x ≠ g:=by rw [hg];exact Nat.ne_of_gt (blk_lt (hW h))
theorem bkB {w W w1 : World} {g : Nat} {o : Obj} (h : w.heap[g]? = some o) (hb : Below W.heap.size W w1) (hW : w.heap[g]? = some o → W.heap[g]? = some o:=by intro h;(with_reducible repeat (first|refine bDn ?_ _|refine bDr ?_|refine bAl ?_ _));exact h) : w1.heap[g]? = some o:=blk_below (hW h) hb
theorem bxE {ops : Array Oper} {Q : Exit → Act → World → Prop} {rest : List Oper} {o : Oper} {a : Act} {W : World} {N : Tmp} {cs : Array Value} {t : TypeId} (h : ∀ g,g = W.heap.size → ∀ w1,w1.heap[g]? = some (.cells cs t (0,0)) → Below W.heap.size W w1 → wpList Try.prog ops Q rest (a.put o.dst (.pointer (some ⟨g,0,none⟩))) w1) (hd : o.dst = some N:=by rfl) (hgd : o.guard = none:=by rfl) (hrun : (execOp a.eval o).run Try.prog W = .ok (.value (.pointer (some ⟨W.heap.size,0,none⟩))) (W.alloc (.cells cs t (0,0))):=by first|(go_simp;done)|(go_simp;rfl)) : wpList Try.prog ops Q (o :: rest) a W:=box_event hgd hd hrun h
theorem bXc {w W : World} {a : Addr} {v : Value} (hB : Below w.heap.size w W) (h : w.cell? a = some v) : W.cell? a = some v:=(hB.cell (wLt w _ h)).trans h
theorem eRf {e e' : Ending} (h : e = e':=by first | rfl|(simp [errW_none,errW_some] <;> rfl)|(simp [*,errW_none,errW_some] <;> rfl)) : e = e':=h
theorem gLs {ops : Array Oper} {Q : Exit → Act → World → Prop} {rest : List Oper} {oi : Oper} {a : Act} {w : World} (N : Tmp) {f : FuncId} {fn : Func} {as0 : Array Operand} {ts : Array TypeId} (hf : Try.prog.funcs[f]? = some fn) (args : Array Value) (hC : Calls Try.prog f args w fun e w' => ∃ v,e = Ending.returned v ∧ wpList Try.prog ops Q rest (a.put (some N) v) w') (h5 : oi.op = Op.call { callee:=Callee.value (Operand.func f),args:=as0,argTypes:=ts }:=by rfl) (h1 : oi.dst = some N:=by rfl) (h2 : oi.guard = none:=by rfl) (h3 : (fn.name == "runtime.NumGoroutine") = false:=by kernel_rfl) (h4 : fn.body.isSome = true:=by rfl) (h6 : Array.map a.eval as0 = args:=by (try simp only [List.map_toArray,List.map_cons,List.map_nil]);first | done | rfl|(simp only [List.length_drop,List.length_take];rfl)) : wpList Try.prog ops Q (oi :: rest) a w:=goesL_ (some N) h1 h2 hf h3 h4 args h5 h6 hC
theorem bSt {w W W1 : World} (hb : Below W.heap.size W W1) (h : Below w.heap.size w W:=by repeat (first|(with_reducible first|exact HB.out|apply bwA|apply bwN|apply bw1)|exact HB.out)) : Below w.heap.size w W1:=below_step h hb
theorem bSz {w W : World} (h : Below w.heap.size w W:=by repeat (first|(with_reducible first|exact HB.out|apply bwA|apply bwN|apply bw1)|exact HB.out)) : w.heap.size ≤ W.heap.size:=below_size h
theorem bC9 {w : World} {g : Nat} {t : TypeId} {v0 v1 v2 v3 v4 v5 v6 v7 v8 : Value} (h : w.heap[g]? = some (.cells #[v0,v1,v2,v3,v4,v5,v6,v7,v8] t (0,0))) : w.cell? ⟨g,0,none⟩ = some v0 ∧ w.cell? ⟨g,1,none⟩ = some v1 ∧ w.cell? ⟨g,2,none⟩ = some v2 ∧ w.cell? ⟨g,3,none⟩ = some v3 ∧ w.cell? ⟨g,4,none⟩ = some v4 ∧ w.cell? ⟨g,5,none⟩ = some v5 ∧ w.cell? ⟨g,6,none⟩ = some v6 ∧ w.cell? ⟨g,7,none⟩ = some v7 ∧ w.cell? ⟨g,8,none⟩ = some v8 ∧ w.frozen? ⟨g,0,none⟩ = false ∧ w.frozen? ⟨g,1,none⟩ = false ∧ w.frozen? ⟨g,2,none⟩ = false ∧ w.frozen? ⟨g,3,none⟩ = false ∧ w.frozen? ⟨g,4,none⟩ = false ∧ w.frozen? ⟨g,5,none⟩ = false ∧ w.frozen? ⟨g,6,none⟩ = false ∧ w.frozen? ⟨g,7,none⟩ = false ∧ w.frozen? ⟨g,8,none⟩ = false:=⟨(bCe h 0).trans rfl,(bCe h 1).trans rfl,(bCe h 2).trans rfl,(bCe h 3).trans rfl,(bCe h 4).trans rfl,(bCe h 5).trans rfl,(bCe h 6).trans rfl,(bCe h 7).trans rfl,(bCe h 8).trans rfl,bFr h 0,bFr h 1,bFr h 2,bFr h 3,bFr h 4,bFr h 5,bFr h 6,bFr h 7,bFr h 8⟩
def errW : Option Int → Value
 | none => .nilIface
 | some c => .iface 0 (.int .i64 c)
theorem errW_none : errW none = .nilIface:=rfl
theorem errW_some (c : Int) : errW (some c) = .iface 0 (.int .i64 c):=rfl

theorem ne_nil_b (l : List UInt8) : (l != []) = !l.isEmpty:=by cases l <;> rfl

theorem info71 : (Try.prog.info? 71).map (fun i => (i.zero,i.size,i.bytes)) = some (some (.agg #[(.int .i64 0),(.string ⟨#[]⟩),(.int .i64 0),(.int .i64 0),(.int .i64 0),(.int .i64 0),(.int .i64 0),(.int .i64 0),(.int .i64 0)]),9,80):=by kernel_rfl
/-! #### struct type 68 -/
structure S68 where
 f0 : Int
 f1 : ByteArray
 f2 : Int
 f3 : Int
 f4 : Int
 f5 : Int
 f6 : Int
 f7 : Int
 f8 : Int
def z68 : S68:=⟨(0 : Int),(⟨#[]⟩ : ByteArray),(0 : Int),(0 : Int),(0 : Int),(0 : Int),(0 : Int),(0 : Int),(0 : Int)⟩
def k68 : Kd S68:=Kd.iso (Kd.pair (Kd.int .i64) (Kd.pair Kd.string (Kd.pair (Kd.int .i64) (Kd.pair (Kd.int .i64) (Kd.pair (Kd.int .i64) (Kd.pair (Kd.int .i64) (Kd.pair (Kd.int .i64) (Kd.pair (Kd.int .i64) (Kd.int .i64))))))))) (fun x : S68 => (x.f0,x.f1,x.f2,x.f3,x.f4,x.f5,x.f6,x.f7,x.f8))
theorem k68_open {w : World} {x : S68} {cs : List Value} (h : k68.K w x cs) : cs = [.int .i64 x.f0,.string x.f1,.int .i64 x.f2,.int .i64 x.f3,.int .i64 x.f4,.int .i64 x.f5,.int .i64 x.f6,.int .i64 x.f7,.int .i64 x.f8]:=by
 obtain ⟨_,_,rfl,rfl,⟨_,_,rfl,rfl,⟨_,_,rfl,rfl,⟨_,_,rfl,rfl,⟨_,_,rfl,rfl,⟨_,_,rfl,rfl,⟨_,_,rfl,rfl,⟨_,_,rfl,rfl,rfl⟩⟩⟩⟩⟩⟩⟩⟩:=h
 exact rfl
def rd_T68 (xs : List S68) (i : Int) : S68:=xs.getD i.toNat z68
theorem at_T68 {w : World} {A : Option Addr} {n : Nat} {xs : List S68} (h : Kd.C k68 w A n xs) (i : Int) (h0 : 0 ≤ i) (h1 : i < n) : ∃ ad ,A = some ad ∧ w.cell? (ad.add (i.toNat * 9)) = some (.int .i64 (rd_T68 xs i).f0) ∧ w.cell? ⟨(ad.add (i.toNat * 9)).block,(ad.add (i.toNat * 9)).off + 1,none⟩ = some (.string (rd_T68 xs i).f1) ∧ w.cell? ⟨(ad.add (i.toNat * 9)).block,(ad.add (i.toNat * 9)).off + 2,none⟩ = some (.int .i64 (rd_T68 xs i).f2) ∧ w.cell? ⟨(ad.add (i.toNat * 9)).block,(ad.add (i.toNat * 9)).off + 3,none⟩ = some (.int .i64 (rd_T68 xs i).f3) ∧ w.cell? ⟨(ad.add (i.toNat * 9)).block,(ad.add (i.toNat * 9)).off + 4,none⟩ = some (.int .i64 (rd_T68 xs i).f4) ∧ w.cell? ⟨(ad.add (i.toNat * 9)).block,(ad.add (i.toNat * 9)).off + 5,none⟩ = some (.int .i64 (rd_T68 xs i).f5) ∧ w.cell? ⟨(ad.add (i.toNat * 9)).block,(ad.add (i.toNat * 9)).off + 6,none⟩ = some (.int .i64 (rd_T68 xs i).f6) ∧ w.cell? ⟨(ad.add (i.toNat * 9)).block,(ad.add (i.toNat * 9)).off + 7,none⟩ = some (.int .i64 (rd_T68 xs i).f7) ∧ w.cell? ⟨(ad.add (i.toNat * 9)).block,(ad.add (i.toNat * 9)).off + 8,none⟩ = some (.int .i64 (rd_T68 xs i).f8):=by
 obtain ⟨ad,c,e,_,hK,hc0⟩:=Kd.C_get h z68 i h0 h1
 have hc : ∀ j u,c[j]? = some u → w.cell? (ad.add (i.toNat * 9 + j)) = some u:=hc0
 obtain rfl:=k68_open hK
 exact ⟨ad,e,hc 0 _ rfl,by rw [← add_field _ _ 1 (by omega)];exact hc 1 _ rfl,by rw [← add_field _ _ 2 (by omega)];exact hc 2 _ rfl,by rw [← add_field _ _ 3 (by omega)];exact hc 3 _ rfl,by rw [← add_field _ _ 4 (by omega)];exact hc 4 _ rfl,by rw [← add_field _ _ 5 (by omega)];exact hc 5 _ rfl,by rw [← add_field _ _ 6 (by omega)];exact hc 6 _ rfl,by rw [← add_field _ _ 7 (by omega)];exact hc 7 _ rfl,by rw [← add_field _ _ 8 (by omega)];exact hc 8 _ rfl⟩

/-! #### struct type 71 -/
structure S71 where
 f0 : Int
 f1 : ByteArray
 f2 : Int
 f3 : Int
 f4 : Int
 f5 : Int
 f6 : Int
 f7 : Int
 f8 : Int
def z71 : S71:=⟨(0 : Int),(⟨#[]⟩ : ByteArray),(0 : Int),(0 : Int),(0 : Int),(0 : Int),(0 : Int),(0 : Int),(0 : Int)⟩
def k71 : Kd S71:=Kd.iso (Kd.pair (Kd.int .i64) (Kd.pair Kd.string (Kd.pair (Kd.int .i64) (Kd.pair (Kd.int .i64) (Kd.pair (Kd.int .i64) (Kd.pair (Kd.int .i64) (Kd.pair (Kd.int .i64) (Kd.pair (Kd.int .i64) (Kd.int .i64))))))))) (fun x : S71 => (x.f0,x.f1,x.f2,x.f3,x.f4,x.f5,x.f6,x.f7,x.f8))
theorem k71_open {w : World} {x : S71} {cs : List Value} (h : k71.K w x cs) : cs = [.int .i64 x.f0,.string x.f1,.int .i64 x.f2,.int .i64 x.f3,.int .i64 x.f4,.int .i64 x.f5,.int .i64 x.f6,.int .i64 x.f7,.int .i64 x.f8]:=by
 obtain ⟨_,_,rfl,rfl,⟨_,_,rfl,rfl,⟨_,_,rfl,rfl,⟨_,_,rfl,rfl,⟨_,_,rfl,rfl,⟨_,_,rfl,rfl,⟨_,_,rfl,rfl,⟨_,_,rfl,rfl,rfl⟩⟩⟩⟩⟩⟩⟩⟩:=h
 exact rfl
theorem k71_openM {w : World} {base : Nat} {ok : Nat → Prop} {x : S71} {cs : List Value} (h : k71.M w base ok x cs) : cs = [.int .i64 x.f0,.string x.f1,.int .i64 x.f2,.int .i64 x.f3,.int .i64 x.f4,.int .i64 x.f5,.int .i64 x.f6,.int .i64 x.f7,.int .i64 x.f8]:=by
 obtain ⟨_,_,rfl,rfl,⟨_,_,rfl,rfl,⟨_,_,rfl,rfl,⟨_,_,rfl,rfl,⟨_,_,rfl,rfl,⟨_,_,rfl,rfl,⟨_,_,rfl,rfl,⟨_,_,rfl,rfl,rfl⟩⟩⟩⟩⟩⟩⟩⟩:=h
 exact rfl
theorem k71_mkM (w : World) (base : Nat) (ok : Nat → Prop) (x : S71)  : k71.M w base ok x [.int .i64 x.f0,.string x.f1,.int .i64 x.f2,.int .i64 x.f3,.int .i64 x.f4,.int .i64 x.f5,.int .i64 x.f6,.int .i64 x.f7,.int .i64 x.f8]:=⟨[.int .i64 x.f0],[.string x.f1,.int .i64 x.f2,.int .i64 x.f3,.int .i64 x.f4,.int .i64 x.f5,.int .i64 x.f6,.int .i64 x.f7,.int .i64 x.f8],rfl,rfl,⟨[.string x.f1],[.int .i64 x.f2,.int .i64 x.f3,.int .i64 x.f4,.int .i64 x.f5,.int .i64 x.f6,.int .i64 x.f7,.int .i64 x.f8],rfl,rfl,⟨[.int .i64 x.f2],[.int .i64 x.f3,.int .i64 x.f4,.int .i64 x.f5,.int .i64 x.f6,.int .i64 x.f7,.int .i64 x.f8],rfl,rfl,⟨[.int .i64 x.f3],[.int .i64 x.f4,.int .i64 x.f5,.int .i64 x.f6,.int .i64 x.f7,.int .i64 x.f8],rfl,rfl,⟨[.int .i64 x.f4],[.int .i64 x.f5,.int .i64 x.f6,.int .i64 x.f7,.int .i64 x.f8],rfl,rfl,⟨[.int .i64 x.f5],[.int .i64 x.f6,.int .i64 x.f7,.int .i64 x.f8],rfl,rfl,⟨[.int .i64 x.f6],[.int .i64 x.f7,.int .i64 x.f8],rfl,rfl,⟨[.int .i64 x.f7],[.int .i64 x.f8],rfl,rfl,rfl⟩⟩⟩⟩⟩⟩⟩⟩
def rd_T71 (xs : List S71) (i : Int) : S71:=xs.getD i.toNat z71
theorem at_T71 {w : World} {A : Option Addr} {n : Nat} {xs : List S71} (h : Kd.C k71 w A n xs) (i : Int) (h0 : 0 ≤ i) (h1 : i < n) : ∃ ad ,A = some ad ∧ w.cell? (ad.add (i.toNat * 9)) = some (.int .i64 (rd_T71 xs i).f0) ∧ w.cell? ⟨(ad.add (i.toNat * 9)).block,(ad.add (i.toNat * 9)).off + 1,none⟩ = some (.string (rd_T71 xs i).f1) ∧ w.cell? ⟨(ad.add (i.toNat * 9)).block,(ad.add (i.toNat * 9)).off + 2,none⟩ = some (.int .i64 (rd_T71 xs i).f2) ∧ w.cell? ⟨(ad.add (i.toNat * 9)).block,(ad.add (i.toNat * 9)).off + 3,none⟩ = some (.int .i64 (rd_T71 xs i).f3) ∧ w.cell? ⟨(ad.add (i.toNat * 9)).block,(ad.add (i.toNat * 9)).off + 4,none⟩ = some (.int .i64 (rd_T71 xs i).f4) ∧ w.cell? ⟨(ad.add (i.toNat * 9)).block,(ad.add (i.toNat * 9)).off + 5,none⟩ = some (.int .i64 (rd_T71 xs i).f5) ∧ w.cell? ⟨(ad.add (i.toNat * 9)).block,(ad.add (i.toNat * 9)).off + 6,none⟩ = some (.int .i64 (rd_T71 xs i).f6) ∧ w.cell? ⟨(ad.add (i.toNat * 9)).block,(ad.add (i.toNat * 9)).off + 7,none⟩ = some (.int .i64 (rd_T71 xs i).f7) ∧ w.cell? ⟨(ad.add (i.toNat * 9)).block,(ad.add (i.toNat * 9)).off + 8,none⟩ = some (.int .i64 (rd_T71 xs i).f8):=by
 obtain ⟨ad,c,e,_,hK,hc0⟩:=Kd.C_get h z71 i h0 h1
 have hc : ∀ j u,c[j]? = some u → w.cell? (ad.add (i.toNat * 9 + j)) = some u:=hc0
 obtain rfl:=k71_open hK
 exact ⟨ad,e,hc 0 _ rfl,by rw [← add_field _ _ 1 (by omega)];exact hc 1 _ rfl,by rw [← add_field _ _ 2 (by omega)];exact hc 2 _ rfl,by rw [← add_field _ _ 3 (by omega)];exact hc 3 _ rfl,by rw [← add_field _ _ 4 (by omega)];exact hc 4 _ rfl,by rw [← add_field _ _ 5 (by omega)];exact hc 5 _ rfl,by rw [← add_field _ _ 6 (by omega)];exact hc 6 _ rfl,by rw [← add_field _ _ 7 (by omega)];exact hc 7 _ rfl,by rw [← add_field _ _ 8 (by omega)];exact hc 8 _ rfl⟩

def rd_L5 (xs : List (List S71)) (i : Int) : (List S71):=xs.getD i.toNat ([] : List S71)
/-! #### struct type 53 -/
structure S53 where
 f0 : Int
 f1 : Int
 f2 : Int
 f3 : Int
 f4 : Int
 f5 : Int
 f6 : ByteArray
def z53 : S53:=⟨(0 : Int),(0 : Int),(0 : Int),(0 : Int),(0 : Int),(0 : Int),(⟨#[]⟩ : ByteArray)⟩
def k53 : Kd S53:=Kd.iso (Kd.pair (Kd.int .i64) (Kd.pair (Kd.int .i64) (Kd.pair (Kd.int .i64) (Kd.pair (Kd.int .i64) (Kd.pair (Kd.int .i64) (Kd.pair (Kd.int .i64) Kd.string)))))) (fun x : S53 => (x.f0,x.f1,x.f2,x.f3,x.f4,x.f5,x.f6))
def rd_T53 (xs : List S53) (i : Int) : S53:=xs.getD i.toNat z53
/-! #### struct type 31 -/
structure S31 where
 f0 : ByteArray
 f1 : Int
 f2 : Int
 f3 : Int
 f4 : Int
 f5 : Int
 f6 : Int
 f7 : Int
 f8 : ByteArray
 f9 : ByteArray
 f10 : Bool
def z31 : S31:=⟨(⟨#[]⟩ : ByteArray),(0 : Int),(0 : Int),(0 : Int),(0 : Int),(0 : Int),(0 : Int),(0 : Int),(⟨#[]⟩ : ByteArray),(⟨#[]⟩ : ByteArray),false⟩
def k31 : Kd S31:=Kd.iso (Kd.pair Kd.string (Kd.pair (Kd.int .i64) (Kd.pair (Kd.int .i64) (Kd.pair (Kd.int .i64) (Kd.pair (Kd.int .i64) (Kd.pair (Kd.int .i64) (Kd.pair (Kd.int .i64) (Kd.pair (Kd.int .i64) (Kd.pair Kd.string (Kd.pair Kd.string Kd.bool)))))))))) (fun x : S31 => (x.f0,x.f1,x.f2,x.f3,x.f4,x.f5,x.f6,x.f7,x.f8,x.f9,x.f10))
def rd_T31 (xs : List S31) (i : Int) : S31:=xs.getD i.toNat z31
/-! #### struct type 48 -/
structure S48 where
 f0 : Int
 f1 : Int
 f2 : Int
 f3 : Int
 f4 : Int
 f5 : Int
 f6 : ByteArray
def z48 : S48:=⟨(0 : Int),(0 : Int),(0 : Int),(0 : Int),(0 : Int),(0 : Int),(⟨#[]⟩ : ByteArray)⟩
def k48 : Kd S48:=Kd.iso (Kd.pair (Kd.int .i64) (Kd.pair (Kd.int .i64) (Kd.pair (Kd.int .i64) (Kd.pair (Kd.int .i64) (Kd.pair (Kd.int .i64) (Kd.pair (Kd.int .i64) Kd.string)))))) (fun x : S48 => (x.f0,x.f1,x.f2,x.f3,x.f4,x.f5,x.f6))
def rd_T48 (xs : List S48) (i : Int) : S48:=xs.getD i.toNat z48
end
section
/-! ### laws_szFlow: function 51 -/
def laws_szFlow.f (a0_0 : Int) (a0_1 : ByteArray) (a0_2 : Int) (a0_3 : Int) (a0_4 : Int) (a0_5 : Int) (a0_6 : Int) (a0_7 : Int) (a0_8 : Int) (a1 : Int) : Option (Int):=if (wrap64 (a1 - (a0_1.size : Int))) < 0 then (some (-1)) else (some (wrap64 (a1 - (a0_1.size : Int))))
set_option maxHeartbeats 8000000 in
set_option maxRecDepth 100000 in
theorem laws_szFlow.calls (a0_0 : Int) (a0_1 : ByteArray) (a0_2 : Int) (a0_3 : Int) (a0_4 : Int) (a0_5 : Int) (a0_6 : Int) (a0_7 : Int) (a0_8 : Int) (a1 : Int) (r : Int) (w : World) (h : laws_szFlow.f a0_0 a0_1 a0_2 a0_3 a0_4 a0_5 a0_6 a0_7 a0_8 a1 = some r) :
  Calls Try.prog 51 #[.agg #[.int .i64 a0_0,.string a0_1,.int .i64 a0_2,.int .i64 a0_3,.int .i64 a0_4,.int .i64 a0_5,.int .i64 a0_6,.int .i64 a0_7,.int .i64 a0_8],.int .i64 a1] w fun e w' => e = .returned (.int .i64 r) ∧ Below w.heap.size w w':=by
 have hu68:=Try.underlying68
 have HB:=aMk (Below.refl w.heap.size w)
 have H : (if (wrap64 (a1 - (a0_1.size : Int))) < 0 then (some (-1)) else (some (wrap64 (a1 - (a0_1.size : Int))))) = some r:=h
 clear h
 by_cases c3 : (wrap64 (a1 - (a0_1.size : Int))) < 0
 ·rw [if_pos c3] at H
  have c3b0 : decide ((wrap64 (a1 - (a0_1.size : Int))) < 0) = true:=decide_eq_true c3
  clear c3
  obtain rfl:=Option.some.inj H
  go_enter Try.func51,Try.ntmps51
  go_wp2_with (first|((with_reducible refine gate_dst (N:=2) rfl ?_);refine bxE (N:=2) (cs:=#[.int .i64 a0_0,.string a0_1,.int .i64 a0_2,.int .i64 a0_3,.int .i64 a0_4,.int .i64 a0_5,.int .i64 a0_6,.int .i64 a0_7,.int .i64 a0_8]) (t:=68) ?_;intro gb204 hg w4 hbox hb;have n0_:=aMk (bSt hb);have n1_:=aMk (hbox);have n2_:=aMk ((by rw [hg];exact bSz : w.heap.size ≤ gb204));have n3_:=aMk ((by rw [hg];exact bSz : w.heap.size ≤ gb204));clear HB;have HB:=n0_;have BK204:=n1_;have GW204:=n2_;have GE204:=n3_;clear n0_ n1_ n2_ n3_;clear hb hbox hg;obtain ⟨hcz5_0,hcz5_1,hcz5_2,hcz5_3,hcz5_4,hcz5_5,hcz5_6,hcz5_7,hcz5_8,hfz5_0,hfz5_1,hfz5_2,hfz5_3,hfz5_4,hfz5_5,hfz5_6,hfz5_7,hfz5_8⟩:=bC9 BK204.out))
  go_ret
  exact ⟨eRf,by repeat (first|(with_reducible first|exact HB.out|apply bwA|apply bwN|apply bw1|refine below_set ?_ GE204.out)|exact HB.out)⟩
 ·rw [if_neg c3] at H
  have c3b0 : decide ((wrap64 (a1 - (a0_1.size : Int))) < 0) = false:=decide_eq_false c3
  clear c3
  obtain rfl:=Option.some.inj H
  go_enter Try.func51,Try.ntmps51
  go_wp2_with (first|((with_reducible refine gate_dst (N:=2) rfl ?_);refine bxE (N:=2) (cs:=#[.int .i64 a0_0,.string a0_1,.int .i64 a0_2,.int .i64 a0_3,.int .i64 a0_4,.int .i64 a0_5,.int .i64 a0_6,.int .i64 a0_7,.int .i64 a0_8]) (t:=68) ?_;intro gb204 hg w6 hbox hb;have n0_:=aMk (bSt hb);have n1_:=aMk (hbox);have n2_:=aMk ((by rw [hg];exact bSz : w.heap.size ≤ gb204));have n3_:=aMk ((by rw [hg];exact bSz : w.heap.size ≤ gb204));clear HB;have HB:=n0_;have BK204:=n1_;have GW204:=n2_;have GE204:=n3_;clear n0_ n1_ n2_ n3_;clear hb hbox hg;obtain ⟨hcz7_0,hcz7_1,hcz7_2,hcz7_3,hcz7_4,hcz7_5,hcz7_6,hcz7_7,hcz7_8,hfz7_0,hfz7_1,hfz7_2,hfz7_3,hfz7_4,hfz7_5,hfz7_6,hfz7_7,hfz7_8⟩:=bC9 BK204.out))
  go_ret
  exact ⟨eRf,by repeat (first|(with_reducible first|exact HB.out|apply bwA|apply bwN|apply bw1|refine below_set ?_ GE204.out)|exact HB.out)⟩
end
section
/-! ### laws_szFlowS: function 26 -/
def laws_szFlowS.l0 : Nat → List (S68) → Int → Int → Option (Int)
 | 0,_,_,_ => none
 | k + 1,x0,x1,x5 => if x5 < (x0.length : Int) then (if 0 ≤ x5 then ((laws_szFlow.f ((rd_T68 x0 x5).f0) ((rd_T68 x0 x5).f1) ((rd_T68 x0 x5).f2) ((rd_T68 x0 x5).f3) ((rd_T68 x0 x5).f4) ((rd_T68 x0 x5).f5) ((rd_T68 x0 x5).f6) ((rd_T68 x0 x5).f7) ((rd_T68 x0 x5).f8) x1).bind fun t206 => (if t206 < 0 then (some (-1)) else (laws_szFlowS.l0 k x0 t206 (wrap64 (x5 + 1))))) else (none)) else (some x1)
def laws_szFlowS.f (k : Nat) (l0 : List (S68)) (a1 : Int) : Option (Int):=if (wrap64 (a1 - (l0.length : Int))) < 0 then (some (-1)) else (laws_szFlowS.l0 k l0 (wrap64 (a1 - (l0.length : Int))) 0)
theorem laws_szFlowS.mono_l : ∀ k,(∀ y0 y1 y2,LeO (laws_szFlowS.l0 k y0 y1 y2) (laws_szFlowS.l0 (k + 1) y0 y1 y2))
 | 0 => fun _ _ _ r h => by simp [laws_szFlowS.l0] at h
 | k + 1 => by
  have ih0:=laws_szFlowS.mono_l k
  ·intro y0 y1 y2
   unfold laws_szFlowS.l0
   repeat' first
   | (with_reducible exact ih0 _ _ _)
   | (with_reducible exact LeO.refl _)
   | (with_reducible exact LeO.none _)
   | (with_reducible refine LeO.ite ?_ ?_)
   | (with_reducible refine LeO.bind ?_ (fun _ => ?_))
   | exact ih0 _ _ _
   | exact LeO.none _
   | refine LeO.ite ?_ ?_
   | refine LeO.bind ?_ (fun _ => ?_)
theorem laws_szFlowS.mono : ∀ a0 a1 k,LeO (laws_szFlowS.f k a0 a1) (laws_szFlowS.f (k + 1) a0 a1):=by
 intro a0 a1 k
 have ih0:=laws_szFlowS.mono_l k
 unfold laws_szFlowS.f
 repeat' first
   | (with_reducible exact ih0 _ _ _)
   | (with_reducible exact LeO.refl _)
   | (with_reducible exact LeO.none _)
   | (with_reducible refine LeO.ite ?_ ?_)
   | (with_reducible refine LeO.bind ?_ (fun _ => ?_))
   | exact ih0 _ _ _
   | exact LeO.none _
   | refine LeO.ite ?_ ?_
   | refine LeO.bind ?_ (fun _ => ?_)
set_option maxHeartbeats 8000000 in
set_option maxRecDepth 100000 in
theorem laws_szFlowS.calls (k : Nat) (A0 : Option Addr) (c0 : Nat) (l0 : List (S68)) (a1 : Int) (r : Int) (w : World) (hr0 : Kd.C k68 w A0 l0.length l0) (hc0 : l0.length ≤ c0) (h : laws_szFlowS.f k l0 a1 = some r) :
  Calls Try.prog 26 #[.slice A0 l0.length c0,.int .i64 a1] w fun e w' => e = .returned (.int .i64 r) ∧ Below w.heap.size w w':=by
 have hu68:=Try.underlying68
 have HR0:=aMk hr0
 have HC0:=aMk hc0
 clear hr0 hc0
 have HB:=aMk (Below.refl w.heap.size w)
 have H : (if (wrap64 (a1 - (l0.length : Int))) < 0 then (some (-1)) else (laws_szFlowS.l0 k l0 (wrap64 (a1 - (l0.length : Int))) 0)) = some r:=h
 clear h
 by_cases c3 : (wrap64 (a1 - (l0.length : Int))) < 0
 ·rw [if_pos c3] at H
  have c3b0 : decide ((wrap64 (a1 - (l0.length : Int))) < 0) = true:=decide_eq_true c3
  clear c3
  obtain rfl:=Option.some.inj H
  go_enter Try.func26,Try.ntmps26
  go_wp2
  go_ret
  exact ⟨eRf,by repeat (first|(with_reducible first|exact HB.out|apply bwA|apply bwN|apply bw1)|exact HB.out)⟩
 ·rw [if_neg c3] at H
  have c3b0 : decide ((wrap64 (a1 - (l0.length : Int))) < 0) = false:=decide_eq_false c3
  clear c3
  have H':=aMk H
  clear H
  go_enter Try.func26,Try.ntmps26
  go_wp2
  go_loopg [1,5] k (fun kq v1 v5 w' => ∃ (x1_1 : Int) (x5_1 : Int),v1 = .int .i64 x1_1 ∧ v5 = .int .i64 x5_1 ∧ Aside0 (laws_szFlowS.l0 kq l0 x1_1 x5_1 = some r) ∧ Aside0 (kq ≤ k) ∧ Aside0 (Below w.heap.size w w'))
  case atStart => exact ⟨(wrap64 (a1 - (l0.length : Int))),(0),(by first | rfl|(simp;done)|(simp [*];done)|(simp [ne_nil_b];done)|(simp [ne_nil_b, *];done)),(by first | rfl|(simp;done)|(simp [*];done)|(simp [ne_nil_b];done)|(simp [ne_nil_b, *];done)),H',⟨Nat.le_refl _⟩,⟨by repeat (first|(with_reducible first|exact HB.out|apply bwA|apply bwN|apply bw1)|exact HB.out)⟩⟩
  case round =>
   clear H'
   try clear c2
   try clear p2
   try clear c3
   try clear c3b0
   obtain ⟨x1_1,x5_1,rfl,rfl,HA,HK1,HB⟩:=hrel
   cases gk with
   | zero => exact absurd HA.out (by simp [laws_szFlowS.l0])
   | succ k1 =>
    have H:=HA.out
    clear HA
    simp only [laws_szFlowS.l0] at H
    by_cases c4 : x5_1 < (l0.length : Int)
    ·rw [if_pos c4] at H
     have c4b0 : decide (x5_1 < (l0.length : Int)) = true:=decide_eq_true c4
     clear c4
     by_cases c5 : 0 ≤ x5_1
     ·rw [if_pos c5] at H
      have c5b0 : decide (0 ≤ x5_1) = true:=decide_eq_true c5
      clear c5
      replace H:=Option.bind_eq_some_iff.mp H
      obtain ⟨t206,A60,H⟩:=H
      replace H : (if t206 < 0 then (some (-1)) else (laws_szFlowS.l0 k1 l0 t206 (wrap64 (x5_1 + 1)))) = some r:=H
      have A6:=aMk A60
      clear A60
      by_cases c7 : t206 < 0
      ·rw [if_pos c7] at H
       have c7b0 : decide (t206 < 0) = true:=decide_eq_true c7
       clear c7
       obtain rfl:=Option.some.inj H
       have p205 : 0 ≤ (x5_1 : Int):=of_decide_eq_true (by first|(with_reducible assumption) | assumption)
       have q205 : x5_1 < (l0.length : Int):=of_decide_eq_true (by first|(with_reducible assumption) | assumption)
       obtain ⟨ad205,e205,hx205_0,hx205_1,hx205_2,hx205_3,hx205_4,hx205_5,hx205_6,hx205_7,hx205_8⟩:=at_T68 HR0.out x5_1 p205 q205
       cases e205
       replace hx205_0:=bXc HB.out hx205_0
       replace hx205_1:=bXc HB.out hx205_1
       replace hx205_2:=bXc HB.out hx205_2
       replace hx205_3:=bXc HB.out hx205_3
       replace hx205_4:=bXc HB.out hx205_4
       replace hx205_5:=bXc HB.out hx205_5
       replace hx205_6:=bXc HB.out hx205_6
       replace hx205_7:=bXc HB.out hx205_7
       replace hx205_8:=bXc HB.out hx205_8
       replace p205:=eq_true p205
       replace q205:=eq_true q205
       go_wp2_with (first|((with_reducible refine gate_callee (f:=51) rfl ?_);refine gLs 23 Try.func51 #[.agg #[.int .i64 ((rd_T68 l0 x5_1).f0),.string ((rd_T68 l0 x5_1).f1),.int .i64 ((rd_T68 l0 x5_1).f2),.int .i64 ((rd_T68 l0 x5_1).f3),.int .i64 ((rd_T68 l0 x5_1).f4),.int .i64 ((rd_T68 l0 x5_1).f5),.int .i64 ((rd_T68 l0 x5_1).f6),.int .i64 ((rd_T68 l0 x5_1).f7),.int .i64 ((rd_T68 l0 x5_1).f8)],.int .i64 x1_1] ?_;(with_reducible refine (laws_szFlow.calls ((rd_T68 l0 x5_1).f0) ((rd_T68 l0 x5_1).f1) ((rd_T68 l0 x5_1).f2) ((rd_T68 l0 x5_1).f3) ((rd_T68 l0 x5_1).f4) ((rd_T68 l0 x5_1).f5) ((rd_T68 l0 x5_1).f6) ((rd_T68 l0 x5_1).f7) ((rd_T68 l0 x5_1).f8) x1_1 t206 _ A6.out).mono ?_);rintro e w8 ⟨rfl,hb⟩;refine ⟨_,rfl,?_⟩;have n0_:=aMk (bSt hb);clear HB;have HB:=n0_;clear n0_;(try clear hb);(try clear hb2);(try clear hk);(try clear hi)))
       go_ret
       exact ⟨eRf,by repeat (first|(with_reducible first|exact HB.out|apply bwA|apply bwN|apply bw1)|exact HB.out)⟩
      ·rw [if_neg c7] at H
       have c7b0 : decide (t206 < 0) = false:=decide_eq_false c7
       clear c7
       have H':=aMk H
       clear H
       have p205 : 0 ≤ (x5_1 : Int):=of_decide_eq_true (by first|(with_reducible assumption) | assumption)
       have q205 : x5_1 < (l0.length : Int):=of_decide_eq_true (by first|(with_reducible assumption) | assumption)
       obtain ⟨ad205,e205,hx205_0,hx205_1,hx205_2,hx205_3,hx205_4,hx205_5,hx205_6,hx205_7,hx205_8⟩:=at_T68 HR0.out x5_1 p205 q205
       cases e205
       replace hx205_0:=bXc HB.out hx205_0
       replace hx205_1:=bXc HB.out hx205_1
       replace hx205_2:=bXc HB.out hx205_2
       replace hx205_3:=bXc HB.out hx205_3
       replace hx205_4:=bXc HB.out hx205_4
       replace hx205_5:=bXc HB.out hx205_5
       replace hx205_6:=bXc HB.out hx205_6
       replace hx205_7:=bXc HB.out hx205_7
       replace hx205_8:=bXc HB.out hx205_8
       replace p205:=eq_true p205
       replace q205:=eq_true q205
       go_wp2_with (first|((with_reducible refine gate_callee (f:=51) rfl ?_);refine gLs 23 Try.func51 #[.agg #[.int .i64 ((rd_T68 l0 x5_1).f0),.string ((rd_T68 l0 x5_1).f1),.int .i64 ((rd_T68 l0 x5_1).f2),.int .i64 ((rd_T68 l0 x5_1).f3),.int .i64 ((rd_T68 l0 x5_1).f4),.int .i64 ((rd_T68 l0 x5_1).f5),.int .i64 ((rd_T68 l0 x5_1).f6),.int .i64 ((rd_T68 l0 x5_1).f7),.int .i64 ((rd_T68 l0 x5_1).f8)],.int .i64 x1_1] ?_;(with_reducible refine (laws_szFlow.calls ((rd_T68 l0 x5_1).f0) ((rd_T68 l0 x5_1).f1) ((rd_T68 l0 x5_1).f2) ((rd_T68 l0 x5_1).f3) ((rd_T68 l0 x5_1).f4) ((rd_T68 l0 x5_1).f5) ((rd_T68 l0 x5_1).f6) ((rd_T68 l0 x5_1).f7) ((rd_T68 l0 x5_1).f8) x1_1 t206 _ A6.out).mono ?_);rintro e w9 ⟨rfl,hb⟩;refine ⟨_,rfl,?_⟩;have n0_:=aMk (bSt hb);clear HB;have HB:=n0_;clear n0_;(try clear hb);(try clear hb2);(try clear hk);(try clear hi)))
       go_roundg k1
       case measure => have:=HK1.out;omega
       case rel => exact ⟨(t206),(wrap64 (x5_1 + 1)),(by first | rfl|(simp;done)|(simp [*];done)|(simp [ne_nil_b];done)|(simp [ne_nil_b, *];done)),(by first | rfl|(simp;done)|(simp [*];done)|(simp [ne_nil_b];done)|(simp [ne_nil_b, *];done)),H',⟨by have:=HK1.out;omega⟩,⟨by repeat (first|(with_reducible first|exact HB.out|apply bwA|apply bwN|apply bw1)|exact HB.out)⟩⟩
     ·rw [if_neg c5] at H
      exact absurd H (by simp)
    ·rw [if_neg c4] at H
     have c4b0 : decide (x5_1 < (l0.length : Int)) = false:=decide_eq_false c4
     clear c4
     obtain rfl:=Option.some.inj H
     go_wp2
     go_ret
     exact ⟨eRf,by repeat (first|(with_reducible first|exact HB.out|apply bwA|apply bwN|apply bw1)|exact HB.out)⟩
end
section
/-! ### laws_toFlow: function 53 -/
def laws_toFlow.f (a0_0 : Int) (a0_1 : ByteArray) (a0_2 : Int) (a0_3 : Int) (a0_4 : Int) (a0_5 : Int) (a0_6 : Int) (a0_7 : Int) (a0_8 : Int) : Option (Int × ByteArray × Int × Int × Int × Int × Int × Int × Int):=some (a0_0,a0_1,a0_2,a0_3,a0_4,a0_5,a0_6,a0_7,a0_8)
set_option maxHeartbeats 8000000 in
set_option maxRecDepth 100000 in
theorem laws_toFlow.calls (a0_0 : Int) (a0_1 : ByteArray) (a0_2 : Int) (a0_3 : Int) (a0_4 : Int) (a0_5 : Int) (a0_6 : Int) (a0_7 : Int) (a0_8 : Int) (r1 : Int) (r2 : ByteArray) (r3 : Int) (r4 : Int) (r5 : Int) (r6 : Int) (r7 : Int) (r8 : Int) (r9 : Int) (w : World) (h : laws_toFlow.f a0_0 a0_1 a0_2 a0_3 a0_4 a0_5 a0_6 a0_7 a0_8 = some (r1,r2,r3,r4,r5,r6,r7,r8,r9)) :
  Calls Try.prog 53 #[.agg #[.int .i64 a0_0,.string a0_1,.int .i64 a0_2,.int .i64 a0_3,.int .i64 a0_4,.int .i64 a0_5,.int .i64 a0_6,.int .i64 a0_7,.int .i64 a0_8]] w fun e w' => e = .returned (.agg #[.int .i64 r1,.string r2,.int .i64 r3,.int .i64 r4,.int .i64 r5,.int .i64 r6,.int .i64 r7,.int .i64 r8,.int .i64 r9]) ∧ Below w.heap.size w w':=by
 have hu68:=Try.underlying68
 have hu71:=Try.underlying71
 have HB:=aMk (Below.refl w.heap.size w)
 have H : (some (a0_0,a0_1,a0_2,a0_3,a0_4,a0_5,a0_6,a0_7,a0_8)) = some (r1,r2,r3,r4,r5,r6,r7,r8,r9):=h
 clear h
 simp only [Option.some.injEq,Prod.mk.injEq] at H
 obtain ⟨rfl,rfl,rfl,rfl,rfl,rfl,rfl,rfl,rfl⟩:=H
 go_enter Try.func53,Try.ntmps53
 go_wp2_with (first|((with_reducible refine gate_dst (N:=1) rfl ?_);refine bxE (N:=1) (cs:=#[.int .i64 a0_0,.string a0_1,.int .i64 a0_2,.int .i64 a0_3,.int .i64 a0_4,.int .i64 a0_5,.int .i64 a0_6,.int .i64 a0_7,.int .i64 a0_8]) (t:=68) ?_;intro gb225 hg w2 hbox hb;have n0_:=aMk (bSt hb);have n1_:=aMk (hbox);have n2_:=aMk ((by rw [hg];exact bSz : w.heap.size ≤ gb225));have n3_:=aMk ((by rw [hg];exact bSz : w.heap.size ≤ gb225));clear HB;have HB:=n0_;have BK225:=n1_;have GW225:=n2_;have GE225:=n3_;clear n0_ n1_ n2_ n3_;clear hb hbox hg)|((with_reducible refine gate_dst (N:=2) rfl ?_);refine bxE (N:=2) (cs:=#[.int .i64 0,.string (⟨#[]⟩ : ByteArray),.int .i64 0,.int .i64 0,.int .i64 0,.int .i64 0,.int .i64 0,.int .i64 0,.int .i64 0]) (t:=71) ?_;intro gb226 hg w3 hbox hb;have n0_:=aMk (bkB BK225.out hb);have n1_:=aMk (below_step (by repeat (first|(with_reducible first|exact HB.out|apply bwA|apply bwN|apply bw1|refine below_set ?_ GE225.out)|exact HB.out)) hb);have n2_:=aMk (hbox);have n3_:=aMk ((by rw [hg];exact (below_size (by repeat (first|(with_reducible first|exact HB.out|apply bwA|apply bwN|apply bw1|refine below_set ?_ GE225.out)|exact HB.out))) : w.heap.size ≤ gb226));have n4_:=aMk ((by rw [hg];exact (below_size (by repeat (first|(with_reducible first|exact HB.out|apply bwA|apply bwN|apply bw1|refine below_set ?_ GE225.out)|exact HB.out))) : w.heap.size ≤ gb226));have n5_:=aMk ((bkL BK225.out hg : gb225 ≠ gb226));have n6_:=aMk ((bkG BK225.out hg : gb226 ≠ gb225));clear BK225;clear HB;have BK225:=n0_;have HB:=n1_;have BK226:=n2_;have GW226:=n3_;have GE226:=n4_;have NB225_226:=n5_;have NB226_225:=n6_;clear n0_ n1_ n2_ n3_ n4_ n5_ n6_;clear hb hbox hg)|((with_reducible refine gate_dst (N:=3) rfl ?_);refine bxE (N:=3) (cs:=#[.int .i64 0,.string (⟨#[]⟩ : ByteArray),.int .i64 0,.int .i64 0,.int .i64 0,.int .i64 0,.int .i64 0,.int .i64 0,.int .i64 0]) (t:=71) ?_;intro gb227 hg w4 hbox hb;have n0_:=aMk (bkB BK225.out hb);have n1_:=aMk (bkB BK226.out hb);have n2_:=aMk (below_step (by repeat (first|(with_reducible first|exact HB.out|apply bwA|apply bwN|apply bw1|refine below_set ?_ GE225.out|refine below_set ?_ GE226.out)|exact HB.out)) hb);have n3_:=aMk (hbox);have n4_:=aMk ((by rw [hg];exact (below_size (by repeat (first|(with_reducible first|exact HB.out|apply bwA|apply bwN|apply bw1|refine below_set ?_ GE225.out|refine below_set ?_ GE226.out)|exact HB.out))) : w.heap.size ≤ gb227));have n5_:=aMk ((by rw [hg];exact (below_size (by repeat (first|(with_reducible first|exact HB.out|apply bwA|apply bwN|apply bw1|refine below_set ?_ GE225.out|refine below_set ?_ GE226.out)|exact HB.out))) : w.heap.size ≤ gb227));have n6_:=aMk ((bkL BK225.out hg : gb225 ≠ gb227));have n7_:=aMk ((bkG BK225.out hg : gb227 ≠ gb225));have n8_:=aMk ((bkL BK226.out hg : gb226 ≠ gb227));have n9_:=aMk ((bkG BK226.out hg : gb227 ≠ gb226));clear BK225;clear BK226;clear HB;have BK225:=n0_;have BK226:=n1_;have HB:=n2_;have BK227:=n3_;have GW227:=n4_;have GE227:=n5_;have NB225_227:=n6_;have NB227_225:=n7_;have NB226_227:=n8_;have NB227_226:=n9_;clear n0_ n1_ n2_ n3_ n4_ n5_ n6_ n7_ n8_ n9_;clear hb hbox hg;have hnb5:=NB225_226.out;have hnc5:=NB226_225.out;have hnb6:=NB225_227.out;have hnc6:=NB227_225.out;obtain ⟨hcz7_0,hcz7_1,hcz7_2,hcz7_3,hcz7_4,hcz7_5,hcz7_6,hcz7_7,hcz7_8,hfz7_0,hfz7_1,hfz7_2,hfz7_3,hfz7_4,hfz7_5,hfz7_6,hfz7_7,hfz7_8⟩:=bC9 BK225.out;have hnb8:=NB227_226.out;have hnc8:=NB226_227.out;obtain ⟨hcz9_0,hcz9_1,hcz9_2,hcz9_3,hcz9_4,hcz9_5,hcz9_6,hcz9_7,hcz9_8,hfz9_0,hfz9_1,hfz9_2,hfz9_3,hfz9_4,hfz9_5,hfz9_6,hfz9_7,hfz9_8⟩:=bC9 BK227.out;obtain ⟨hcz10_0,hcz10_1,hcz10_2,hcz10_3,hcz10_4,hcz10_5,hcz10_6,hcz10_7,hcz10_8,hfz10_0,hfz10_1,hfz10_2,hfz10_3,hfz10_4,hfz10_5,hfz10_6,hfz10_7,hfz10_8⟩:=bC9 BK226.out))
 refine bodyPost_ret (results_cell_row rfl _ _ gb226 71 #[.int .i64 a0_0,.string a0_1,.int .i64 a0_2,.int .i64 a0_3,.int .i64 a0_4,.int .i64 a0_5,.int .i64 a0_6,.int .i64 a0_7,.int .i64 a0_8] (0,0) _ rfl (by (with_reducible repeat (first|refine bDn ?_ _|refine bDr ?_|refine bAl ?_ _));refine blk_put (cs:=#[.int .i64 a0_0,.string a0_1,.int .i64 a0_2,.int .i64 a0_3,.int .i64 a0_4,.int .i64 a0_5,.int .i64 a0_6,.int .i64 a0_7,.int .i64 0]) ?_ 8 _ rfl;(with_reducible repeat (first|refine bDn ?_ _|refine bDr ?_|refine bAl ?_ _));refine blk_put (cs:=#[.int .i64 a0_0,.string a0_1,.int .i64 a0_2,.int .i64 a0_3,.int .i64 a0_4,.int .i64 a0_5,.int .i64 a0_6,.int .i64 0,.int .i64 0]) ?_ 7 _ rfl;(with_reducible repeat (first|refine bDn ?_ _|refine bDr ?_|refine bAl ?_ _));refine blk_put (cs:=#[.int .i64 a0_0,.string a0_1,.int .i64 a0_2,.int .i64 a0_3,.int .i64 a0_4,.int .i64 a0_5,.int .i64 0,.int .i64 0,.int .i64 0]) ?_ 6 _ rfl;(with_reducible repeat (first|refine bDn ?_ _|refine bDr ?_|refine bAl ?_ _));refine blk_put (cs:=#[.int .i64 a0_0,.string a0_1,.int .i64 a0_2,.int .i64 a0_3,.int .i64 a0_4,.int .i64 0,.int .i64 0,.int .i64 0,.int .i64 0]) ?_ 5 _ rfl;(with_reducible repeat (first|refine bDn ?_ _|refine bDr ?_|refine bAl ?_ _));refine blk_put (cs:=#[.int .i64 a0_0,.string a0_1,.int .i64 a0_2,.int .i64 a0_3,.int .i64 0,.int .i64 0,.int .i64 0,.int .i64 0,.int .i64 0]) ?_ 4 _ rfl;(with_reducible repeat (first|refine bDn ?_ _|refine bDr ?_|refine bAl ?_ _));refine blk_put (cs:=#[.int .i64 a0_0,.string a0_1,.int .i64 a0_2,.int .i64 0,.int .i64 0,.int .i64 0,.int .i64 0,.int .i64 0,.int .i64 0]) ?_ 3 _ rfl;(with_reducible repeat (first|refine bDn ?_ _|refine bDr ?_|refine bAl ?_ _));refine blk_put (cs:=#[.int .i64 a0_0,.string a0_1,.int .i64 0,.int .i64 0,.int .i64 0,.int .i64 0,.int .i64 0,.int .i64 0,.int .i64 0]) ?_ 2 _ rfl;(with_reducible repeat (first|refine bDn ?_ _|refine bDr ?_|refine bAl ?_ _));refine blk_put (cs:=#[.int .i64 a0_0,.string (⟨#[]⟩ : ByteArray),.int .i64 0,.int .i64 0,.int .i64 0,.int .i64 0,.int .i64 0,.int .i64 0,.int .i64 0]) ?_ 1 _ rfl;(with_reducible repeat (first|refine bDn ?_ _|refine bDr ?_|refine bAl ?_ _));refine blk_put (cs:=#[.int .i64 0,.string (⟨#[]⟩ : ByteArray),.int .i64 0,.int .i64 0,.int .i64 0,.int .i64 0,.int .i64 0,.int .i64 0,.int .i64 0]) ?_ 0 _ rfl;(with_reducible repeat (first|refine bDn ?_ _|refine bDr ?_|refine bAl ?_ _));refine blk_far ?_ NB226_227.out _;(with_reducible repeat (first|refine bDn ?_ _|refine bDr ?_|refine bAl ?_ _));refine blk_far ?_ NB226_227.out _;(with_reducible repeat (first|refine bDn ?_ _|refine bDr ?_|refine bAl ?_ _));refine blk_far ?_ NB226_227.out _;(with_reducible repeat (first|refine bDn ?_ _|refine bDr ?_|refine bAl ?_ _));refine blk_far ?_ NB226_227.out _;(with_reducible repeat (first|refine bDn ?_ _|refine bDr ?_|refine bAl ?_ _));refine blk_far ?_ NB226_227.out _;(with_reducible repeat (first|refine bDn ?_ _|refine bDr ?_|refine bAl ?_ _));refine blk_far ?_ NB226_227.out _;(with_reducible repeat (first|refine bDn ?_ _|refine bDr ?_|refine bAl ?_ _));refine blk_far ?_ NB226_227.out _;(with_reducible repeat (first|refine bDn ?_ _|refine bDr ?_|refine bAl ?_ _));refine blk_far ?_ NB226_227.out _;(with_reducible repeat (first|refine bDn ?_ _|refine bDr ?_|refine bAl ?_ _));refine blk_far ?_ NB226_227.out _;(with_reducible repeat (first|refine bDn ?_ _|refine bDr ?_|refine bAl ?_ _));exact BK226.out) Try.underlying71 rfl (by kernel_rfl)) rfl ?_
 exact ⟨eRf,by repeat (first|(with_reducible first|exact HB.out|apply bwA|apply bwN|apply bw1|refine below_set ?_ GE225.out|refine below_set ?_ GE226.out|refine below_set ?_ GE227.out)|exact HB.out)⟩
end
section
/-! ### laws_toFlowS: function 28 -/
def laws_toFlowS.l0 : Nat → List (S68) → List (S71) → Int → Option ((List (S71)))
 | 0,_,_,_ => none
 | k + 1,x0,x3,x4 => if x4 < (x0.length : Int) then (if 0 ≤ x4 then ((laws_toFlow.f ((rd_T68 x0 x4).f0) ((rd_T68 x0 x4).f1) ((rd_T68 x0 x4).f2) ((rd_T68 x0 x4).f3) ((rd_T68 x0 x4).f4) ((rd_T68 x0 x4).f5) ((rd_T68 x0 x4).f6) ((rd_T68 x0 x4).f7) ((rd_T68 x0 x4).f8)).bind fun bt232 => (if x4 < (x3.length : Int) then (laws_toFlowS.l0 k x0 (x3.set (x4 : Int).toNat (⟨bt232.1,bt232.2.1,bt232.2.2.1,bt232.2.2.2.1,bt232.2.2.2.2.1,bt232.2.2.2.2.2.1,bt232.2.2.2.2.2.2.1,bt232.2.2.2.2.2.2.2.1,bt232.2.2.2.2.2.2.2.2⟩ : S71)) (wrap64 (x4 + 1))) else (none))) else (none)) else (some x3)
def laws_toFlowS.f (k : Nat) (l0 : List (S68)) : Option ((List (S71))):=if 0 ≤ (l0.length : Int) then (if ((l0.length : Int) : Int).toNat ≤ 3518437208883 then (laws_toFlowS.l0 k l0 (List.replicate ((l0.length : Int) : Int).toNat z71) 0) else (none)) else (none)
theorem laws_toFlowS.mono_l : ∀ k,(∀ y0 y1 y2,LeO (laws_toFlowS.l0 k y0 y1 y2) (laws_toFlowS.l0 (k + 1) y0 y1 y2))
 | 0 => fun _ _ _ r h => by simp [laws_toFlowS.l0] at h
 | k + 1 => by
  have ih0:=laws_toFlowS.mono_l k
  ·intro y0 y1 y2
   unfold laws_toFlowS.l0
   repeat' first
   | (with_reducible exact ih0 _ _ _)
   | (with_reducible exact LeO.refl _)
   | (with_reducible exact LeO.none _)
   | (with_reducible refine LeO.ite ?_ ?_)
   | (with_reducible refine LeO.bind ?_ (fun _ => ?_))
   | exact ih0 _ _ _
   | exact LeO.none _
   | refine LeO.ite ?_ ?_
   | refine LeO.bind ?_ (fun _ => ?_)
theorem laws_toFlowS.mono : ∀ a0 k,LeO (laws_toFlowS.f k a0) (laws_toFlowS.f (k + 1) a0):=by
 intro a0 k
 have ih0:=laws_toFlowS.mono_l k
 unfold laws_toFlowS.f
 repeat' first
   | (with_reducible exact ih0 _ _ _)
   | (with_reducible exact LeO.refl _)
   | (with_reducible exact LeO.none _)
   | (with_reducible refine LeO.ite ?_ ?_)
   | (with_reducible refine LeO.bind ?_ (fun _ => ?_))
   | exact ih0 _ _ _
   | exact LeO.none _
   | refine LeO.ite ?_ ?_
   | refine LeO.bind ?_ (fun _ => ?_)
set_option maxHeartbeats 8000000 in
set_option maxRecDepth 100000 in
theorem laws_toFlowS.calls (k : Nat) (A0 : Option Addr) (c0 : Nat) (l0 : List (S68)) (r : List (S71)) (w : World) (hr0 : Kd.C k68 w A0 l0.length l0) (hc0 : l0.length ≤ c0) (h : laws_toFlowS.f k l0 = some r) :
  Calls Try.prog 28 #[.slice A0 l0.length c0] w fun e w' => ∃ v0_ : Value,e = .returned (v0_) ∧ Kd.R k71 71 w' w.heap.size (fun _ => True) v0_ r ∧ Below w.heap.size w w':=by
 have hu68:=Try.underlying68
 have hu71:=Try.underlying71
 have HR0:=aMk hr0
 have HC0:=aMk hc0
 clear hr0 hc0
 have HB:=aMk (Below.refl w.heap.size w)
 have H : (if 0 ≤ (l0.length : Int) then (if ((l0.length : Int) : Int).toNat ≤ 3518437208883 then (laws_toFlowS.l0 k l0 (List.replicate ((l0.length : Int) : Int).toNat z71) 0) else (none)) else (none)) = some r:=h
 clear h
 by_cases c2 : 0 ≤ (l0.length : Int)
 ·rw [if_pos c2] at H
  have c2b0:=eq_true c2
  have c2b1 : decide (0 ≤ (l0.length : Int)) = true:=decide_eq_true c2
  clear c2
  by_cases c3 : ((l0.length : Int) : Int).toNat ≤ 3518437208883
  ·rw [if_pos c3] at H
   have c3b0:=eq_true c3
   have c3b1 : decide (((l0.length : Int) : Int).toNat ≤ 3518437208883) = true:=decide_eq_true c3
   clear c3
   obtain ⟨y228,hy228⟩ : ∃ y_ : List (S71),y_ = (List.replicate ((l0.length : Int) : Int).toNat z71):=⟨_,rfl⟩
   replace H : (laws_toFlowS.l0 k l0 y228 0) = some r:=by first|(rw [hy228];with_reducible exact H)|(have H2_:=(Option.bind_some _ _).symm.trans H;rw [hy228];with_reducible exact H2_)|(have H2_:=(Option.bind_some _ _).symm.trans H;with_reducible exact H2_) | with_reducible exact H|(rw [hy228];exact H)|exact H
   have Ny228:=aMk hy228
   clear hy228
   have H':=aMk H
   clear H
   go_enter Try.func28,Try.ntmps28
   go_wp2_with (first|((with_reducible refine gate_dst (N:=7) rfl ?_);refine Kd.R_make k71 _ 71 rfl (N:=7) rfl 40 _ _ rfl (l0.length : Int) rfl rfl Try.underlying40 (.agg #[(.int .i64 0),(.string ⟨#[]⟩),(.int .i64 0),(.int .i64 0),(.int .i64 0),(.int .i64 0),(.int .i64 0),(.int .i64 0),(.int .i64 0)]) 80 info71 rfl (by decide) (by omega) z71 (ok:=fun _ => True) (okp:=fun _ => True) (k71_mkM _ _ _ z71 ) (fun _ hk => hk) trivial (of_decide_eq_true (by first|(with_reducible assumption) | assumption)) (Nat.le_trans (Nat.mul_le_mul_right _ (of_decide_eq_true (by first|(with_reducible assumption) | assumption) : (l0.length : Int).toNat ≤ 3518437208883)) (by omega)) (Below.refl _ _) (Nat.le_refl _) ?_;intro v229 w4 ho5 hb hg_ hnew_;clear hg_ hnew_;(first|rw [← Ny228.out] at ho5|(simp only [Int.reduceToNat] at ho5;rw [← Ny228.out] at ho5));have n0_:=aMk (Kd.R_lower ho5 bSz);have n1_:=aMk (bSt hb);clear HB;have HO230:=n0_;have HB:=n1_;clear n0_ n1_;clear hb ho5))
   go_loopg [4] k (fun kq v4 w' => ∃ (x3_1 : List (S71)) (x4_1 : Int),v4 = .int .i64 x4_1 ∧ Aside0 (laws_toFlowS.l0 kq l0 x3_1 x4_1 = some r) ∧ Aside0 (kq ≤ k) ∧ Aside0 (Kd.R k71 71 w' w.heap.size (fun _ => True) v229 x3_1) ∧ Aside0 (Below w.heap.size w w'))
   case atStart => exact ⟨(y228),(0),(by first | rfl|(simp;done)|(simp [*];done)|(simp [ne_nil_b];done)|(simp [ne_nil_b, *];done)),H',⟨Nat.le_refl _⟩,⟨by (with_reducible repeat (first|apply Kd.R_alloc|apply Kd.R_drewN|apply Kd.R_drew));exact HO230.out⟩,⟨by repeat (first|(with_reducible first|exact HB.out|apply bwA|apply bwN|apply bw1)|exact HB.out)⟩⟩
   case round =>
    clear H'
    try clear c2
    try clear c2b0
    try clear c2b1
    try clear p2
    try clear c3
    try clear c3b0
    try clear c3b1
    obtain ⟨x3_1,x4_1,rfl,HA,HK1,HO_3,HB⟩:=hrel
    cases gk with
    | zero => exact absurd HA.out (by simp [laws_toFlowS.l0])
    | succ k1 =>
     have H:=HA.out
     clear HA
     simp only [laws_toFlowS.l0] at H
     by_cases c6 : x4_1 < (l0.length : Int)
     ·rw [if_pos c6] at H
      have c6b0 : decide (x4_1 < (l0.length : Int)) = true:=decide_eq_true c6
      clear c6
      by_cases c7 : 0 ≤ x4_1
      ·rw [if_pos c7] at H
       have c7b0 : decide (0 ≤ x4_1) = true:=decide_eq_true c7
       clear c7
       replace H:=Option.bind_eq_some_iff.mp H
       obtain ⟨⟨t232,t233,t234,t235,t236,t237,t238,t239,t240⟩,A80,H⟩:=H
       replace H : (if x4_1 < (x3_1.length : Int) then (laws_toFlowS.l0 k1 l0 (x3_1.set (x4_1 : Int).toNat (⟨t232,t233,t234,t235,t236,t237,t238,t239,t240⟩ : S71)) (wrap64 (x4_1 + 1))) else (none)) = some r:=H
       have A8:=aMk A80
       clear A80
       by_cases c9 : x4_1 < (x3_1.length : Int)
       ·rw [if_pos c9] at H
        have c9b0 : decide (x4_1 < (x3_1.length : Int)) = true:=decide_eq_true c9
        clear c9
        obtain ⟨y241,hy241⟩ : ∃ y_ : List (S71),y_ = (x3_1.set (x4_1 : Int).toNat (⟨t232,t233,t234,t235,t236,t237,t238,t239,t240⟩ : S71)):=⟨_,rfl⟩
        replace H : (laws_toFlowS.l0 k1 l0 y241 (wrap64 (x4_1 + 1))) = some r:=by first|(rw [hy241];with_reducible exact H)|(have H2_:=(Option.bind_some _ _).symm.trans H;rw [hy241];with_reducible exact H2_)|(have H2_:=(Option.bind_some _ _).symm.trans H;with_reducible exact H2_) | with_reducible exact H|(rw [hy241];exact H)|exact H
        have Ny241:=aMk hy241
        clear hy241
        have H':=aMk H
        clear H
        have p231 : 0 ≤ (x4_1 : Int):=of_decide_eq_true (by first|(with_reducible assumption) | assumption)
        have q231 : x4_1 < (l0.length : Int):=of_decide_eq_true (by first|(with_reducible assumption) | assumption)
        obtain ⟨ad231,e231,hx231_0,hx231_1,hx231_2,hx231_3,hx231_4,hx231_5,hx231_6,hx231_7,hx231_8⟩:=at_T68 HR0.out x4_1 p231 q231
        cases e231
        replace hx231_0:=bXc HB.out hx231_0
        replace hx231_1:=bXc HB.out hx231_1
        replace hx231_2:=bXc HB.out hx231_2
        replace hx231_3:=bXc HB.out hx231_3
        replace hx231_4:=bXc HB.out hx231_4
        replace hx231_5:=bXc HB.out hx231_5
        replace hx231_6:=bXc HB.out hx231_6
        replace hx231_7:=bXc HB.out hx231_7
        replace hx231_8:=bXc HB.out hx231_8
        replace p231:=eq_true p231
        replace q231:=eq_true q231
        go_wp2_with (first|((with_reducible refine gate_callee (f:=53) rfl ?_);refine gLs 20 Try.func53 #[.agg #[.int .i64 ((rd_T68 l0 x4_1).f0),.string ((rd_T68 l0 x4_1).f1),.int .i64 ((rd_T68 l0 x4_1).f2),.int .i64 ((rd_T68 l0 x4_1).f3),.int .i64 ((rd_T68 l0 x4_1).f4),.int .i64 ((rd_T68 l0 x4_1).f5),.int .i64 ((rd_T68 l0 x4_1).f6),.int .i64 ((rd_T68 l0 x4_1).f7),.int .i64 ((rd_T68 l0 x4_1).f8)]] ?_;(with_reducible refine (laws_toFlow.calls ((rd_T68 l0 x4_1).f0) ((rd_T68 l0 x4_1).f1) ((rd_T68 l0 x4_1).f2) ((rd_T68 l0 x4_1).f3) ((rd_T68 l0 x4_1).f4) ((rd_T68 l0 x4_1).f5) ((rd_T68 l0 x4_1).f6) ((rd_T68 l0 x4_1).f7) ((rd_T68 l0 x4_1).f8) t232 t233 t234 t235 t236 t237 t238 t239 t240 _ A8.out).mono ?_);rintro e w11 ⟨rfl,hb⟩;refine ⟨_,rfl,?_⟩;have n0_:=aMk (Kd.R_below (by (with_reducible repeat (first|apply Kd.R_alloc|apply Kd.R_drewN|apply Kd.R_drew));exact HO_3.out) hb);have n1_:=aMk (bSt hb);clear HO_3;clear HB;have HO_3:=n0_;have HB:=n1_;clear n0_ n1_;(try clear hb);(try clear hb2);(try clear hk);(try clear hi);have p10 : 0 ≤ (x4_1 : Int):=of_decide_eq_true (by first|(with_reducible assumption) | assumption);have q10 : (x4_1 : Int) < ((x3_1.length : Int) : Int):=of_decide_eq_true (by first|(with_reducible assumption) | assumption);obtain ⟨go10,co10,eo10,gb10,gl10,cl10,HG10⟩:=Kd.R_form HO_3.out (by omega);(first|cases eo10|(injection eo10 with ea_ en_ ec_;(first|subst ea_|(injection ea_ with ea_;subst ea_));subst ec_;clear en_));have GB10:=aMk gb10;have GG10:=aMk HG10;clear gb10 gl10 HG10;obtain ⟨ce10,hcl10,hM10,hcc10,hfr10⟩:=Kd.R_elem HO_3.out z71 (x4_1 : Int) p10 q10;obtain rfl:=k71_openM hM10;have hx10_0 : w11.cell? ⟨go10,(x4_1 : Int).toNat * 9,none⟩ = some (.int .i64 ((rd_T71 x3_1 x4_1).f0)):=hcc10 0 _ rfl;have hx10_1 : w11.cell? ⟨go10,(x4_1 : Int).toNat * 9 + 1,none⟩ = some (.string ((rd_T71 x3_1 x4_1).f1)):=hcc10 1 _ rfl;have hx10_2 : w11.cell? ⟨go10,(x4_1 : Int).toNat * 9 + 2,none⟩ = some (.int .i64 ((rd_T71 x3_1 x4_1).f2)):=hcc10 2 _ rfl;have hx10_3 : w11.cell? ⟨go10,(x4_1 : Int).toNat * 9 + 3,none⟩ = some (.int .i64 ((rd_T71 x3_1 x4_1).f3)):=hcc10 3 _ rfl;have hx10_4 : w11.cell? ⟨go10,(x4_1 : Int).toNat * 9 + 4,none⟩ = some (.int .i64 ((rd_T71 x3_1 x4_1).f4)):=hcc10 4 _ rfl;have hx10_5 : w11.cell? ⟨go10,(x4_1 : Int).toNat * 9 + 5,none⟩ = some (.int .i64 ((rd_T71 x3_1 x4_1).f5)):=hcc10 5 _ rfl;have hx10_6 : w11.cell? ⟨go10,(x4_1 : Int).toNat * 9 + 6,none⟩ = some (.int .i64 ((rd_T71 x3_1 x4_1).f6)):=hcc10 6 _ rfl;have hx10_7 : w11.cell? ⟨go10,(x4_1 : Int).toNat * 9 + 7,none⟩ = some (.int .i64 ((rd_T71 x3_1 x4_1).f7)):=hcc10 7 _ rfl;have hx10_8 : w11.cell? ⟨go10,(x4_1 : Int).toNat * 9 + 8,none⟩ = some (.int .i64 ((rd_T71 x3_1 x4_1).f8)):=hcc10 8 _ rfl;have hf10_0 : w11.frozen? ⟨go10,(x4_1 : Int).toNat * 9,none⟩ = false:=hfr10 0;have hf10_1 : w11.frozen? ⟨go10,(x4_1 : Int).toNat * 9 + 1,none⟩ = false:=hfr10 1;have hf10_2 : w11.frozen? ⟨go10,(x4_1 : Int).toNat * 9 + 2,none⟩ = false:=hfr10 2;have hf10_3 : w11.frozen? ⟨go10,(x4_1 : Int).toNat * 9 + 3,none⟩ = false:=hfr10 3;have hf10_4 : w11.frozen? ⟨go10,(x4_1 : Int).toNat * 9 + 4,none⟩ = false:=hfr10 4;have hf10_5 : w11.frozen? ⟨go10,(x4_1 : Int).toNat * 9 + 5,none⟩ = false:=hfr10 5;have hf10_6 : w11.frozen? ⟨go10,(x4_1 : Int).toNat * 9 + 6,none⟩ = false:=hfr10 6;have hf10_7 : w11.frozen? ⟨go10,(x4_1 : Int).toNat * 9 + 7,none⟩ = false:=hfr10 7;have hf10_8 : w11.frozen? ⟨go10,(x4_1 : Int).toNat * 9 + 8,none⟩ = false:=hfr10 8;clear hcl10 hcc10 hfr10 hM10;replace p10:=eq_true p10;replace q10:=eq_true q10;have HX12:=aMk (show Kd.R k71 71 w11 w.heap.size (fun _ => True) (.slice (some ⟨go10,0,none⟩) x3_1.length co10) x3_1 from (by (with_reducible repeat (first|apply Kd.R_alloc|apply Kd.R_drewN|apply Kd.R_drew));exact HO_3.out));obtain ⟨ce12,hcl12,hM12,hcc12,hfr12⟩:=Kd.R_elem HX12.out z71 (x4_1 : Int) (of_decide_eq_true (by first|(with_reducible assumption) | assumption)) (by have h_ : (x4_1 : Int) < ((x3_1.length : Int) : Int):=of_decide_eq_true (by first|(with_reducible assumption) | assumption);first|exact h_|(have e_:=(Kd.R_reads' HO_3.out).1;omega) | simpa using h_);obtain rfl:=k71_openM hM12;have HP12:=Kd.R_seg HX12.out (x4_1 : Int) (of_decide_eq_true (by first|(with_reducible assumption) | assumption)) (by have h_ : (x4_1 : Int) < ((x3_1.length : Int) : Int):=of_decide_eq_true (by first|(with_reducible assumption) | assumption);first|exact h_|(have e_:=(Kd.R_reads' HO_3.out).1;omega) | simpa using h_) (seg:=[.int .i64 t232,.string t233,.int .i64 t234,.int .i64 t235,.int .i64 t236,.int .i64 t237,.int .i64 t238,.int .i64 t239,.int .i64 t240]) (j:=0) hcl12 hcc12 (show 9 ≤ 9 from by decide) (x':=(⟨t232,t233,t234,t235,t236,t237,t238,t239,t240⟩ : S71)) (k71_mkM _ _ _ (⟨t232,t233,t234,t235,t236,t237,t238,t239,t240⟩ : S71) ) (fun _ hk => hk);have hx12_0:=hcc12 0 _ rfl;(try simp only [show (k71).sz = 9 from rfl,Nat.mul_one,Nat.add_zero] at hx12_0);have hf12_0:=hfr12 0;(try simp only [show (k71).sz = 9 from rfl,Nat.mul_one,Nat.add_zero] at hf12_0);have hx12_1:=hcc12 1 _ rfl;(try simp only [show (k71).sz = 9 from rfl,Nat.mul_one,Nat.add_zero] at hx12_1);have hf12_1:=hfr12 1;(try simp only [show (k71).sz = 9 from rfl,Nat.mul_one,Nat.add_zero] at hf12_1);have hx12_2:=hcc12 2 _ rfl;(try simp only [show (k71).sz = 9 from rfl,Nat.mul_one,Nat.add_zero] at hx12_2);have hf12_2:=hfr12 2;(try simp only [show (k71).sz = 9 from rfl,Nat.mul_one,Nat.add_zero] at hf12_2);have hx12_3:=hcc12 3 _ rfl;(try simp only [show (k71).sz = 9 from rfl,Nat.mul_one,Nat.add_zero] at hx12_3);have hf12_3:=hfr12 3;(try simp only [show (k71).sz = 9 from rfl,Nat.mul_one,Nat.add_zero] at hf12_3);have hx12_4:=hcc12 4 _ rfl;(try simp only [show (k71).sz = 9 from rfl,Nat.mul_one,Nat.add_zero] at hx12_4);have hf12_4:=hfr12 4;(try simp only [show (k71).sz = 9 from rfl,Nat.mul_one,Nat.add_zero] at hf12_4);have hx12_5:=hcc12 5 _ rfl;(try simp only [show (k71).sz = 9 from rfl,Nat.mul_one,Nat.add_zero] at hx12_5);have hf12_5:=hfr12 5;(try simp only [show (k71).sz = 9 from rfl,Nat.mul_one,Nat.add_zero] at hf12_5);have hx12_6:=hcc12 6 _ rfl;(try simp only [show (k71).sz = 9 from rfl,Nat.mul_one,Nat.add_zero] at hx12_6);have hf12_6:=hfr12 6;(try simp only [show (k71).sz = 9 from rfl,Nat.mul_one,Nat.add_zero] at hf12_6);have hx12_7:=hcc12 7 _ rfl;(try simp only [show (k71).sz = 9 from rfl,Nat.mul_one,Nat.add_zero] at hx12_7);have hf12_7:=hfr12 7;(try simp only [show (k71).sz = 9 from rfl,Nat.mul_one,Nat.add_zero] at hf12_7);have hx12_8:=hcc12 8 _ rfl;(try simp only [show (k71).sz = 9 from rfl,Nat.mul_one,Nat.add_zero] at hx12_8);have hf12_8:=hfr12 8;(try simp only [show (k71).sz = 9 from rfl,Nat.mul_one,Nat.add_zero] at hf12_8);clear hcl12 hcc12 hfr12 hM12)|((with_reducible refine gate_store (t:=71) (p:=21) rfl ?_);refine store_event (t:=71) (p:=21) (v:=?vo_w13) (w1:=(((((((((w11.setCell ⟨go10,(x4_1 : Int).toNat * 9,none⟩ (.int .i64 t232)).setCell ⟨go10,(x4_1 : Int).toNat * 9 + 1,none⟩ (.string t233)).setCell ⟨go10,(x4_1 : Int).toNat * 9 + 2,none⟩ (.int .i64 t234)).setCell ⟨go10,(x4_1 : Int).toNat * 9 + 3,none⟩ (.int .i64 t235)).setCell ⟨go10,(x4_1 : Int).toNat * 9 + 4,none⟩ (.int .i64 t236)).setCell ⟨go10,(x4_1 : Int).toNat * 9 + 5,none⟩ (.int .i64 t237)).setCell ⟨go10,(x4_1 : Int).toNat * 9 + 6,none⟩ (.int .i64 t238)).setCell ⟨go10,(x4_1 : Int).toNat * 9 + 7,none⟩ (.int .i64 t239)).setCell ⟨go10,(x4_1 : Int).toNat * 9 + 8,none⟩ (.int .i64 t240))) ?hg ?ho ?hn ?hr ?_;(case ho => rfl);(case hg => rfl);(case hn => rfl);(case hr => first|(go_simp;done)|(go_simp;rfl));intro w13 hw;have hg : w11.grownBy w13 (some go10):=(by rw [hw];exact HP12.2);have hp_ : Kd.R k71 71 w13 w.heap.size (fun _ => True) (.slice (some ⟨go10,0,none⟩) x3_1.length co10) y241:=(by rw [hw,Ny241.out];exact HP12.1);clear HP12;have n0_:=aMk (hp_);have n1_:=aMk ((by rw [hw];exact below_set (below_set (below_set (below_set (below_set (below_set (below_set (below_set (below_set (HB.out) GB10.out) GB10.out) GB10.out) GB10.out) GB10.out) GB10.out) GB10.out) GB10.out) GB10.out : Below w.heap.size w w13));clear HO_3;clear HB;have HO_3:=n0_;have HB:=n1_;clear n0_ n1_;clear hg hw hp_))
        go_roundg k1
        case measure => have:=HK1.out;omega
        case rel => exact ⟨(y241),(wrap64 (x4_1 + 1)),(by first | rfl|(simp;done)|(simp [*];done)|(simp [ne_nil_b];done)|(simp [ne_nil_b, *];done)),H',⟨by have:=HK1.out;omega⟩,⟨by (with_reducible repeat (first|apply Kd.R_alloc|apply Kd.R_drewN|apply Kd.R_drew));exact HO_3.out⟩,⟨by repeat (first|(with_reducible first|exact HB.out|apply bwA|apply bwN|apply bw1)|exact HB.out)⟩⟩
       ·rw [if_neg c9] at H
        exact absurd H (by simp)
      ·rw [if_neg c7] at H
       exact absurd H (by simp)
     ·rw [if_neg c6] at H
      have c6b0 : decide (x4_1 < (l0.length : Int)) = false:=decide_eq_false c6
      clear c6
      obtain rfl:=Option.some.inj H
      go_wp2
      go_ret
      exact ⟨_,by first | rfl|(simp [errW_none,errW_some] <;> rfl)|(simp [*,errW_none,errW_some] <;> rfl),by (with_reducible repeat (first|apply Kd.R_alloc|apply Kd.R_drewN|apply Kd.R_drew));exact HO_3.out,by repeat (first|(with_reducible first|exact HB.out|apply bwA|apply bwN|apply bw1)|exact HB.out)⟩
  ·rw [if_neg c3] at H
   exact absurd H (by simp)
 ·rw [if_neg c2] at H
  exact absurd H (by simp)
end
section
/-! ### laws_eqFlow: function 79 -/
def laws_eqFlow.f (a0_0 : Int) (a0_1 : ByteArray) (a0_2 : Int) (a0_3 : Int) (a0_4 : Int) (a0_5 : Int) (a0_6 : Int) (a0_7 : Int) (a0_8 : Int) (a1_0 : Int) (a1_1 : ByteArray) (a1_2 : Int) (a1_3 : Int) (a1_4 : Int) (a1_5 : Int) (a1_6 : Int) (a1_7 : Int) (a1_8 : Int) : Option (Bool):=if a0_0 = a1_0 then (if a0_1.toList = a1_1.toList then (if a0_2 = a1_2 then (if a0_3 = a1_3 then (if a0_4 = a1_4 then (if a0_5 = a1_5 then (if a0_6 = a1_6 then (if a0_7 = a1_7 then (if a0_8 = a1_8 then (some true) else (some false)) else (some false)) else (some false)) else (some false)) else (some false)) else (some false)) else (some false)) else (some false)) else (some false)
set_option maxHeartbeats 8000000 in
set_option maxRecDepth 100000 in
theorem laws_eqFlow.calls (a0_0 : Int) (a0_1 : ByteArray) (a0_2 : Int) (a0_3 : Int) (a0_4 : Int) (a0_5 : Int) (a0_6 : Int) (a0_7 : Int) (a0_8 : Int) (a1_0 : Int) (a1_1 : ByteArray) (a1_2 : Int) (a1_3 : Int) (a1_4 : Int) (a1_5 : Int) (a1_6 : Int) (a1_7 : Int) (a1_8 : Int) (r : Bool) (w : World) (h : laws_eqFlow.f a0_0 a0_1 a0_2 a0_3 a0_4 a0_5 a0_6 a0_7 a0_8 a1_0 a1_1 a1_2 a1_3 a1_4 a1_5 a1_6 a1_7 a1_8 = some r) :
  Calls Try.prog 79 #[.agg #[.int .i64 a0_0,.string a0_1,.int .i64 a0_2,.int .i64 a0_3,.int .i64 a0_4,.int .i64 a0_5,.int .i64 a0_6,.int .i64 a0_7,.int .i64 a0_8],.agg #[.int .i64 a1_0,.string a1_1,.int .i64 a1_2,.int .i64 a1_3,.int .i64 a1_4,.int .i64 a1_5,.int .i64 a1_6,.int .i64 a1_7,.int .i64 a1_8]] w fun e w' => e = .returned (.bool r) ∧ Below w.heap.size w w':=by
 have hu71:=Try.underlying71
 have HB:=aMk (Below.refl w.heap.size w)
 have H : (if a0_0 = a1_0 then (if a0_1.toList = a1_1.toList then (if a0_2 = a1_2 then (if a0_3 = a1_3 then (if a0_4 = a1_4 then (if a0_5 = a1_5 then (if a0_6 = a1_6 then (if a0_7 = a1_7 then (if a0_8 = a1_8 then (some true) else (some false)) else (some false)) else (some false)) else (some false)) else (some false)) else (some false)) else (some false)) else (some false)) else (some false)) = some r:=h
 clear h
 by_cases c3 : a0_0 = a1_0
 ·rw [if_pos c3] at H
  have c3b0 : (a0_0 == a1_0) = true:=beq_iff_eq.mpr c3
  have c3b1 : (a0_0 != a1_0) = false:=bne_eq_false_iff_eq.mpr c3
  clear c3
  by_cases c4 : a0_1.toList = a1_1.toList
  ·rw [if_pos c4] at H
   have c4b0 : (a0_1.toList == a1_1.toList) = true:=beq_iff_eq.mpr c4
   have c4b1 : (a0_1.toList != a1_1.toList) = false:=bne_eq_false_iff_eq.mpr c4
   clear c4
   by_cases c5 : a0_2 = a1_2
   ·rw [if_pos c5] at H
    have c5b0 : (a0_2 == a1_2) = true:=beq_iff_eq.mpr c5
    have c5b1 : (a0_2 != a1_2) = false:=bne_eq_false_iff_eq.mpr c5
    clear c5
    by_cases c6 : a0_3 = a1_3
    ·rw [if_pos c6] at H
     have c6b0 : (a0_3 == a1_3) = true:=beq_iff_eq.mpr c6
     have c6b1 : (a0_3 != a1_3) = false:=bne_eq_false_iff_eq.mpr c6
     clear c6
     by_cases c7 : a0_4 = a1_4
     ·rw [if_pos c7] at H
      have c7b0 : (a0_4 == a1_4) = true:=beq_iff_eq.mpr c7
      have c7b1 : (a0_4 != a1_4) = false:=bne_eq_false_iff_eq.mpr c7
      clear c7
      by_cases c8 : a0_5 = a1_5
      ·rw [if_pos c8] at H
       have c8b0 : (a0_5 == a1_5) = true:=beq_iff_eq.mpr c8
       have c8b1 : (a0_5 != a1_5) = false:=bne_eq_false_iff_eq.mpr c8
       clear c8
       by_cases c9 : a0_6 = a1_6
       ·rw [if_pos c9] at H
        have c9b0 : (a0_6 == a1_6) = true:=beq_iff_eq.mpr c9
        have c9b1 : (a0_6 != a1_6) = false:=bne_eq_false_iff_eq.mpr c9
        clear c9
        by_cases c10 : a0_7 = a1_7
        ·rw [if_pos c10] at H
         have c10b0 : (a0_7 == a1_7) = true:=beq_iff_eq.mpr c10
         have c10b1 : (a0_7 != a1_7) = false:=bne_eq_false_iff_eq.mpr c10
         clear c10
         by_cases c11 : a0_8 = a1_8
         ·rw [if_pos c11] at H
          have c11b0 : (a0_8 == a1_8) = true:=beq_iff_eq.mpr c11
          have c11b1 : (a0_8 != a1_8) = false:=bne_eq_false_iff_eq.mpr c11
          clear c11
          obtain rfl:=Option.some.inj H
          go_enter Try.func79,Try.ntmps79
          go_wp2_with (first|((with_reducible refine gate_dst (N:=2) rfl ?_);refine bxE (N:=2) (cs:=#[.int .i64 a0_0,.string a0_1,.int .i64 a0_2,.int .i64 a0_3,.int .i64 a0_4,.int .i64 a0_5,.int .i64 a0_6,.int .i64 a0_7,.int .i64 a0_8]) (t:=71) ?_;intro gb278 hg w12 hbox hb;have n0_:=aMk (bSt hb);have n1_:=aMk (hbox);have n2_:=aMk ((by rw [hg];exact bSz : w.heap.size ≤ gb278));have n3_:=aMk ((by rw [hg];exact bSz : w.heap.size ≤ gb278));clear HB;have HB:=n0_;have BK278:=n1_;have GW278:=n2_;have GE278:=n3_;clear n0_ n1_ n2_ n3_;clear hb hbox hg)|((with_reducible refine gate_dst (N:=3) rfl ?_);refine bxE (N:=3) (cs:=#[.int .i64 a1_0,.string a1_1,.int .i64 a1_2,.int .i64 a1_3,.int .i64 a1_4,.int .i64 a1_5,.int .i64 a1_6,.int .i64 a1_7,.int .i64 a1_8]) (t:=71) ?_;intro gb279 hg w13 hbox hb;have n0_:=aMk (bkB BK278.out hb);have n1_:=aMk (below_step (by repeat (first|(with_reducible first|exact HB.out|apply bwA|apply bwN|apply bw1|refine below_set ?_ GE278.out)|exact HB.out)) hb);have n2_:=aMk (hbox);have n3_:=aMk ((by rw [hg];exact (below_size (by repeat (first|(with_reducible first|exact HB.out|apply bwA|apply bwN|apply bw1|refine below_set ?_ GE278.out)|exact HB.out))) : w.heap.size ≤ gb279));have n4_:=aMk ((by rw [hg];exact (below_size (by repeat (first|(with_reducible first|exact HB.out|apply bwA|apply bwN|apply bw1|refine below_set ?_ GE278.out)|exact HB.out))) : w.heap.size ≤ gb279));have n5_:=aMk ((bkL BK278.out hg : gb278 ≠ gb279));have n6_:=aMk ((bkG BK278.out hg : gb279 ≠ gb278));clear BK278;clear HB;have BK278:=n0_;have HB:=n1_;have BK279:=n2_;have GW279:=n3_;have GE279:=n4_;have NB278_279:=n5_;have NB279_278:=n6_;clear n0_ n1_ n2_ n3_ n4_ n5_ n6_;clear hb hbox hg;have hnb14:=NB278_279.out;have hnc14:=NB279_278.out;obtain ⟨hcz15_0,hcz15_1,hcz15_2,hcz15_3,hcz15_4,hcz15_5,hcz15_6,hcz15_7,hcz15_8,hfz15_0,hfz15_1,hfz15_2,hfz15_3,hfz15_4,hfz15_5,hfz15_6,hfz15_7,hfz15_8⟩:=bC9 BK278.out;obtain ⟨hcz16_0,hcz16_1,hcz16_2,hcz16_3,hcz16_4,hcz16_5,hcz16_6,hcz16_7,hcz16_8,hfz16_0,hfz16_1,hfz16_2,hfz16_3,hfz16_4,hfz16_5,hfz16_6,hfz16_7,hfz16_8⟩:=bC9 BK279.out))
          go_ret
          exact ⟨eRf,by repeat (first|(with_reducible first|exact HB.out|apply bwA|apply bwN|apply bw1|refine below_set ?_ GE278.out|refine below_set ?_ GE279.out)|exact HB.out)⟩
         ·rw [if_neg c11] at H
          have c11b0 : (a0_8 == a1_8) = false:=beq_eq_false_iff_ne.mpr c11
          have c11b1 : (a0_8 != a1_8) = true:=bne_iff_ne.mpr c11
          obtain rfl:=Option.some.inj H
          go_enter Try.func79,Try.ntmps79
          go_wp2_with (first|((with_reducible refine gate_dst (N:=2) rfl ?_);refine bxE (N:=2) (cs:=#[.int .i64 a0_0,.string a0_1,.int .i64 a0_2,.int .i64 a0_3,.int .i64 a0_4,.int .i64 a0_5,.int .i64 a0_6,.int .i64 a0_7,.int .i64 a0_8]) (t:=71) ?_;intro gb278 hg w17 hbox hb;have n0_:=aMk (bSt hb);have n1_:=aMk (hbox);have n2_:=aMk ((by rw [hg];exact bSz : w.heap.size ≤ gb278));have n3_:=aMk ((by rw [hg];exact bSz : w.heap.size ≤ gb278));clear HB;have HB:=n0_;have BK278:=n1_;have GW278:=n2_;have GE278:=n3_;clear n0_ n1_ n2_ n3_;clear hb hbox hg)|((with_reducible refine gate_dst (N:=3) rfl ?_);refine bxE (N:=3) (cs:=#[.int .i64 a1_0,.string a1_1,.int .i64 a1_2,.int .i64 a1_3,.int .i64 a1_4,.int .i64 a1_5,.int .i64 a1_6,.int .i64 a1_7,.int .i64 a1_8]) (t:=71) ?_;intro gb279 hg w18 hbox hb;have n0_:=aMk (bkB BK278.out hb);have n1_:=aMk (below_step (by repeat (first|(with_reducible first|exact HB.out|apply bwA|apply bwN|apply bw1|refine below_set ?_ GE278.out)|exact HB.out)) hb);have n2_:=aMk (hbox);have n3_:=aMk ((by rw [hg];exact (below_size (by repeat (first|(with_reducible first|exact HB.out|apply bwA|apply bwN|apply bw1|refine below_set ?_ GE278.out)|exact HB.out))) : w.heap.size ≤ gb279));have n4_:=aMk ((by rw [hg];exact (below_size (by repeat (first|(with_reducible first|exact HB.out|apply bwA|apply bwN|apply bw1|refine below_set ?_ GE278.out)|exact HB.out))) : w.heap.size ≤ gb279));have n5_:=aMk ((bkL BK278.out hg : gb278 ≠ gb279));have n6_:=aMk ((bkG BK278.out hg : gb279 ≠ gb278));clear BK278;clear HB;have BK278:=n0_;have HB:=n1_;have BK279:=n2_;have GW279:=n3_;have GE279:=n4_;have NB278_279:=n5_;have NB279_278:=n6_;clear n0_ n1_ n2_ n3_ n4_ n5_ n6_;clear hb hbox hg;have hnb19:=NB278_279.out;have hnc19:=NB279_278.out;obtain ⟨hcz20_0,hcz20_1,hcz20_2,hcz20_3,hcz20_4,hcz20_5,hcz20_6,hcz20_7,hcz20_8,hfz20_0,hfz20_1,hfz20_2,hfz20_3,hfz20_4,hfz20_5,hfz20_6,hfz20_7,hfz20_8⟩:=bC9 BK278.out;obtain ⟨hcz21_0,hcz21_1,hcz21_2,hcz21_3,hcz21_4,hcz21_5,hcz21_6,hcz21_7,hcz21_8,hfz21_0,hfz21_1,hfz21_2,hfz21_3,hfz21_4,hfz21_5,hfz21_6,hfz21_7,hfz21_8⟩:=bC9 BK279.out))
          go_ret
          exact ⟨eRf,by repeat (first|(with_reducible first|exact HB.out|apply bwA|apply bwN|apply bw1|refine below_set ?_ GE278.out|refine below_set ?_ GE279.out)|exact HB.out)⟩
        ·rw [if_neg c10] at H
         have c10b0 : (a0_7 == a1_7) = false:=beq_eq_false_iff_ne.mpr c10
         have c10b1 : (a0_7 != a1_7) = true:=bne_iff_ne.mpr c10
         obtain rfl:=Option.some.inj H
         go_enter Try.func79,Try.ntmps79
         go_wp2_with (first|((with_reducible refine gate_dst (N:=2) rfl ?_);refine bxE (N:=2) (cs:=#[.int .i64 a0_0,.string a0_1,.int .i64 a0_2,.int .i64 a0_3,.int .i64 a0_4,.int .i64 a0_5,.int .i64 a0_6,.int .i64 a0_7,.int .i64 a0_8]) (t:=71) ?_;intro gb278 hg w22 hbox hb;have n0_:=aMk (bSt hb);have n1_:=aMk (hbox);have n2_:=aMk ((by rw [hg];exact bSz : w.heap.size ≤ gb278));have n3_:=aMk ((by rw [hg];exact bSz : w.heap.size ≤ gb278));clear HB;have HB:=n0_;have BK278:=n1_;have GW278:=n2_;have GE278:=n3_;clear n0_ n1_ n2_ n3_;clear hb hbox hg)|((with_reducible refine gate_dst (N:=3) rfl ?_);refine bxE (N:=3) (cs:=#[.int .i64 a1_0,.string a1_1,.int .i64 a1_2,.int .i64 a1_3,.int .i64 a1_4,.int .i64 a1_5,.int .i64 a1_6,.int .i64 a1_7,.int .i64 a1_8]) (t:=71) ?_;intro gb279 hg w23 hbox hb;have n0_:=aMk (bkB BK278.out hb);have n1_:=aMk (below_step (by repeat (first|(with_reducible first|exact HB.out|apply bwA|apply bwN|apply bw1|refine below_set ?_ GE278.out)|exact HB.out)) hb);have n2_:=aMk (hbox);have n3_:=aMk ((by rw [hg];exact (below_size (by repeat (first|(with_reducible first|exact HB.out|apply bwA|apply bwN|apply bw1|refine below_set ?_ GE278.out)|exact HB.out))) : w.heap.size ≤ gb279));have n4_:=aMk ((by rw [hg];exact (below_size (by repeat (first|(with_reducible first|exact HB.out|apply bwA|apply bwN|apply bw1|refine below_set ?_ GE278.out)|exact HB.out))) : w.heap.size ≤ gb279));have n5_:=aMk ((bkL BK278.out hg : gb278 ≠ gb279));have n6_:=aMk ((bkG BK278.out hg : gb279 ≠ gb278));clear BK278;clear HB;have BK278:=n0_;have HB:=n1_;have BK279:=n2_;have GW279:=n3_;have GE279:=n4_;have NB278_279:=n5_;have NB279_278:=n6_;clear n0_ n1_ n2_ n3_ n4_ n5_ n6_;clear hb hbox hg;have hnb24:=NB278_279.out;have hnc24:=NB279_278.out;obtain ⟨hcz25_0,hcz25_1,hcz25_2,hcz25_3,hcz25_4,hcz25_5,hcz25_6,hcz25_7,hcz25_8,hfz25_0,hfz25_1,hfz25_2,hfz25_3,hfz25_4,hfz25_5,hfz25_6,hfz25_7,hfz25_8⟩:=bC9 BK278.out;obtain ⟨hcz26_0,hcz26_1,hcz26_2,hcz26_3,hcz26_4,hcz26_5,hcz26_6,hcz26_7,hcz26_8,hfz26_0,hfz26_1,hfz26_2,hfz26_3,hfz26_4,hfz26_5,hfz26_6,hfz26_7,hfz26_8⟩:=bC9 BK279.out))
         go_ret
         exact ⟨eRf,by repeat (first|(with_reducible first|exact HB.out|apply bwA|apply bwN|apply bw1|refine below_set ?_ GE278.out|refine below_set ?_ GE279.out)|exact HB.out)⟩
       ·rw [if_neg c9] at H
        have c9b0 : (a0_6 == a1_6) = false:=beq_eq_false_iff_ne.mpr c9
        have c9b1 : (a0_6 != a1_6) = true:=bne_iff_ne.mpr c9
        obtain rfl:=Option.some.inj H
        go_enter Try.func79,Try.ntmps79
        go_wp2_with (first|((with_reducible refine gate_dst (N:=2) rfl ?_);refine bxE (N:=2) (cs:=#[.int .i64 a0_0,.string a0_1,.int .i64 a0_2,.int .i64 a0_3,.int .i64 a0_4,.int .i64 a0_5,.int .i64 a0_6,.int .i64 a0_7,.int .i64 a0_8]) (t:=71) ?_;intro gb278 hg w27 hbox hb;have n0_:=aMk (bSt hb);have n1_:=aMk (hbox);have n2_:=aMk ((by rw [hg];exact bSz : w.heap.size ≤ gb278));have n3_:=aMk ((by rw [hg];exact bSz : w.heap.size ≤ gb278));clear HB;have HB:=n0_;have BK278:=n1_;have GW278:=n2_;have GE278:=n3_;clear n0_ n1_ n2_ n3_;clear hb hbox hg)|((with_reducible refine gate_dst (N:=3) rfl ?_);refine bxE (N:=3) (cs:=#[.int .i64 a1_0,.string a1_1,.int .i64 a1_2,.int .i64 a1_3,.int .i64 a1_4,.int .i64 a1_5,.int .i64 a1_6,.int .i64 a1_7,.int .i64 a1_8]) (t:=71) ?_;intro gb279 hg w28 hbox hb;have n0_:=aMk (bkB BK278.out hb);have n1_:=aMk (below_step (by repeat (first|(with_reducible first|exact HB.out|apply bwA|apply bwN|apply bw1|refine below_set ?_ GE278.out)|exact HB.out)) hb);have n2_:=aMk (hbox);have n3_:=aMk ((by rw [hg];exact (below_size (by repeat (first|(with_reducible first|exact HB.out|apply bwA|apply bwN|apply bw1|refine below_set ?_ GE278.out)|exact HB.out))) : w.heap.size ≤ gb279));have n4_:=aMk ((by rw [hg];exact (below_size (by repeat (first|(with_reducible first|exact HB.out|apply bwA|apply bwN|apply bw1|refine below_set ?_ GE278.out)|exact HB.out))) : w.heap.size ≤ gb279));have n5_:=aMk ((bkL BK278.out hg : gb278 ≠ gb279));have n6_:=aMk ((bkG BK278.out hg : gb279 ≠ gb278));clear BK278;clear HB;have BK278:=n0_;have HB:=n1_;have BK279:=n2_;have GW279:=n3_;have GE279:=n4_;have NB278_279:=n5_;have NB279_278:=n6_;clear n0_ n1_ n2_ n3_ n4_ n5_ n6_;clear hb hbox hg;have hnb29:=NB278_279.out;have hnc29:=NB279_278.out;obtain ⟨hcz30_0,hcz30_1,hcz30_2,hcz30_3,hcz30_4,hcz30_5,hcz30_6,hcz30_7,hcz30_8,hfz30_0,hfz30_1,hfz30_2,hfz30_3,hfz30_4,hfz30_5,hfz30_6,hfz30_7,hfz30_8⟩:=bC9 BK278.out;obtain ⟨hcz31_0,hcz31_1,hcz31_2,hcz31_3,hcz31_4,hcz31_5,hcz31_6,hcz31_7,hcz31_8,hfz31_0,hfz31_1,hfz31_2,hfz31_3,hfz31_4,hfz31_5,hfz31_6,hfz31_7,hfz31_8⟩:=bC9 BK279.out))
        go_ret
        exact ⟨eRf,by repeat (first|(with_reducible first|exact HB.out|apply bwA|apply bwN|apply bw1|refine below_set ?_ GE278.out|refine below_set ?_ GE279.out)|exact HB.out)⟩
      ·rw [if_neg c8] at H
       have c8b0 : (a0_5 == a1_5) = false:=beq_eq_false_iff_ne.mpr c8
       have c8b1 : (a0_5 != a1_5) = true:=bne_iff_ne.mpr c8
       obtain rfl:=Option.some.inj H
       go_enter Try.func79,Try.ntmps79
       go_wp2_with (first|((with_reducible refine gate_dst (N:=2) rfl ?_);refine bxE (N:=2) (cs:=#[.int .i64 a0_0,.string a0_1,.int .i64 a0_2,.int .i64 a0_3,.int .i64 a0_4,.int .i64 a0_5,.int .i64 a0_6,.int .i64 a0_7,.int .i64 a0_8]) (t:=71) ?_;intro gb278 hg w32 hbox hb;have n0_:=aMk (bSt hb);have n1_:=aMk (hbox);have n2_:=aMk ((by rw [hg];exact bSz : w.heap.size ≤ gb278));have n3_:=aMk ((by rw [hg];exact bSz : w.heap.size ≤ gb278));clear HB;have HB:=n0_;have BK278:=n1_;have GW278:=n2_;have GE278:=n3_;clear n0_ n1_ n2_ n3_;clear hb hbox hg)|((with_reducible refine gate_dst (N:=3) rfl ?_);refine bxE (N:=3) (cs:=#[.int .i64 a1_0,.string a1_1,.int .i64 a1_2,.int .i64 a1_3,.int .i64 a1_4,.int .i64 a1_5,.int .i64 a1_6,.int .i64 a1_7,.int .i64 a1_8]) (t:=71) ?_;intro gb279 hg w33 hbox hb;have n0_:=aMk (bkB BK278.out hb);have n1_:=aMk (below_step (by repeat (first|(with_reducible first|exact HB.out|apply bwA|apply bwN|apply bw1|refine below_set ?_ GE278.out)|exact HB.out)) hb);have n2_:=aMk (hbox);have n3_:=aMk ((by rw [hg];exact (below_size (by repeat (first|(with_reducible first|exact HB.out|apply bwA|apply bwN|apply bw1|refine below_set ?_ GE278.out)|exact HB.out))) : w.heap.size ≤ gb279));have n4_:=aMk ((by rw [hg];exact (below_size (by repeat (first|(with_reducible first|exact HB.out|apply bwA|apply bwN|apply bw1|refine below_set ?_ GE278.out)|exact HB.out))) : w.heap.size ≤ gb279));have n5_:=aMk ((bkL BK278.out hg : gb278 ≠ gb279));have n6_:=aMk ((bkG BK278.out hg : gb279 ≠ gb278));clear BK278;clear HB;have BK278:=n0_;have HB:=n1_;have BK279:=n2_;have GW279:=n3_;have GE279:=n4_;have NB278_279:=n5_;have NB279_278:=n6_;clear n0_ n1_ n2_ n3_ n4_ n5_ n6_;clear hb hbox hg;have hnb34:=NB278_279.out;have hnc34:=NB279_278.out;obtain ⟨hcz35_0,hcz35_1,hcz35_2,hcz35_3,hcz35_4,hcz35_5,hcz35_6,hcz35_7,hcz35_8,hfz35_0,hfz35_1,hfz35_2,hfz35_3,hfz35_4,hfz35_5,hfz35_6,hfz35_7,hfz35_8⟩:=bC9 BK278.out;obtain ⟨hcz36_0,hcz36_1,hcz36_2,hcz36_3,hcz36_4,hcz36_5,hcz36_6,hcz36_7,hcz36_8,hfz36_0,hfz36_1,hfz36_2,hfz36_3,hfz36_4,hfz36_5,hfz36_6,hfz36_7,hfz36_8⟩:=bC9 BK279.out))
       go_ret
       exact ⟨eRf,by repeat (first|(with_reducible first|exact HB.out|apply bwA|apply bwN|apply bw1|refine below_set ?_ GE278.out|refine below_set ?_ GE279.out)|exact HB.out)⟩
     ·rw [if_neg c7] at H
      have c7b0 : (a0_4 == a1_4) = false:=beq_eq_false_iff_ne.mpr c7
      have c7b1 : (a0_4 != a1_4) = true:=bne_iff_ne.mpr c7
      obtain rfl:=Option.some.inj H
      go_enter Try.func79,Try.ntmps79
      go_wp2_with (first|((with_reducible refine gate_dst (N:=2) rfl ?_);refine bxE (N:=2) (cs:=#[.int .i64 a0_0,.string a0_1,.int .i64 a0_2,.int .i64 a0_3,.int .i64 a0_4,.int .i64 a0_5,.int .i64 a0_6,.int .i64 a0_7,.int .i64 a0_8]) (t:=71) ?_;intro gb278 hg w37 hbox hb;have n0_:=aMk (bSt hb);have n1_:=aMk (hbox);have n2_:=aMk ((by rw [hg];exact bSz : w.heap.size ≤ gb278));have n3_:=aMk ((by rw [hg];exact bSz : w.heap.size ≤ gb278));clear HB;have HB:=n0_;have BK278:=n1_;have GW278:=n2_;have GE278:=n3_;clear n0_ n1_ n2_ n3_;clear hb hbox hg)|((with_reducible refine gate_dst (N:=3) rfl ?_);refine bxE (N:=3) (cs:=#[.int .i64 a1_0,.string a1_1,.int .i64 a1_2,.int .i64 a1_3,.int .i64 a1_4,.int .i64 a1_5,.int .i64 a1_6,.int .i64 a1_7,.int .i64 a1_8]) (t:=71) ?_;intro gb279 hg w38 hbox hb;have n0_:=aMk (bkB BK278.out hb);have n1_:=aMk (below_step (by repeat (first|(with_reducible first|exact HB.out|apply bwA|apply bwN|apply bw1|refine below_set ?_ GE278.out)|exact HB.out)) hb);have n2_:=aMk (hbox);have n3_:=aMk ((by rw [hg];exact (below_size (by repeat (first|(with_reducible first|exact HB.out|apply bwA|apply bwN|apply bw1|refine below_set ?_ GE278.out)|exact HB.out))) : w.heap.size ≤ gb279));have n4_:=aMk ((by rw [hg];exact (below_size (by repeat (first|(with_reducible first|exact HB.out|apply bwA|apply bwN|apply bw1|refine below_set ?_ GE278.out)|exact HB.out))) : w.heap.size ≤ gb279));have n5_:=aMk ((bkL BK278.out hg : gb278 ≠ gb279));have n6_:=aMk ((bkG BK278.out hg : gb279 ≠ gb278));clear BK278;clear HB;have BK278:=n0_;have HB:=n1_;have BK279:=n2_;have GW279:=n3_;have GE279:=n4_;have NB278_279:=n5_;have NB279_278:=n6_;clear n0_ n1_ n2_ n3_ n4_ n5_ n6_;clear hb hbox hg;have hnb39:=NB278_279.out;have hnc39:=NB279_278.out;obtain ⟨hcz40_0,hcz40_1,hcz40_2,hcz40_3,hcz40_4,hcz40_5,hcz40_6,hcz40_7,hcz40_8,hfz40_0,hfz40_1,hfz40_2,hfz40_3,hfz40_4,hfz40_5,hfz40_6,hfz40_7,hfz40_8⟩:=bC9 BK278.out;obtain ⟨hcz41_0,hcz41_1,hcz41_2,hcz41_3,hcz41_4,hcz41_5,hcz41_6,hcz41_7,hcz41_8,hfz41_0,hfz41_1,hfz41_2,hfz41_3,hfz41_4,hfz41_5,hfz41_6,hfz41_7,hfz41_8⟩:=bC9 BK279.out))
      go_ret
      exact ⟨eRf,by repeat (first|(with_reducible first|exact HB.out|apply bwA|apply bwN|apply bw1|refine below_set ?_ GE278.out|refine below_set ?_ GE279.out)|exact HB.out)⟩
    ·rw [if_neg c6] at H
     have c6b0 : (a0_3 == a1_3) = false:=beq_eq_false_iff_ne.mpr c6
     have c6b1 : (a0_3 != a1_3) = true:=bne_iff_ne.mpr c6
     obtain rfl:=Option.some.inj H
     go_enter Try.func79,Try.ntmps79
     go_wp2_with (first|((with_reducible refine gate_dst (N:=2) rfl ?_);refine bxE (N:=2) (cs:=#[.int .i64 a0_0,.string a0_1,.int .i64 a0_2,.int .i64 a0_3,.int .i64 a0_4,.int .i64 a0_5,.int .i64 a0_6,.int .i64 a0_7,.int .i64 a0_8]) (t:=71) ?_;intro gb278 hg w42 hbox hb;have n0_:=aMk (bSt hb);have n1_:=aMk (hbox);have n2_:=aMk ((by rw [hg];exact bSz : w.heap.size ≤ gb278));have n3_:=aMk ((by rw [hg];exact bSz : w.heap.size ≤ gb278));clear HB;have HB:=n0_;have BK278:=n1_;have GW278:=n2_;have GE278:=n3_;clear n0_ n1_ n2_ n3_;clear hb hbox hg)|((with_reducible refine gate_dst (N:=3) rfl ?_);refine bxE (N:=3) (cs:=#[.int .i64 a1_0,.string a1_1,.int .i64 a1_2,.int .i64 a1_3,.int .i64 a1_4,.int .i64 a1_5,.int .i64 a1_6,.int .i64 a1_7,.int .i64 a1_8]) (t:=71) ?_;intro gb279 hg w43 hbox hb;have n0_:=aMk (bkB BK278.out hb);have n1_:=aMk (below_step (by repeat (first|(with_reducible first|exact HB.out|apply bwA|apply bwN|apply bw1|refine below_set ?_ GE278.out)|exact HB.out)) hb);have n2_:=aMk (hbox);have n3_:=aMk ((by rw [hg];exact (below_size (by repeat (first|(with_reducible first|exact HB.out|apply bwA|apply bwN|apply bw1|refine below_set ?_ GE278.out)|exact HB.out))) : w.heap.size ≤ gb279));have n4_:=aMk ((by rw [hg];exact (below_size (by repeat (first|(with_reducible first|exact HB.out|apply bwA|apply bwN|apply bw1|refine below_set ?_ GE278.out)|exact HB.out))) : w.heap.size ≤ gb279));have n5_:=aMk ((bkL BK278.out hg : gb278 ≠ gb279));have n6_:=aMk ((bkG BK278.out hg : gb279 ≠ gb278));clear BK278;clear HB;have BK278:=n0_;have HB:=n1_;have BK279:=n2_;have GW279:=n3_;have GE279:=n4_;have NB278_279:=n5_;have NB279_278:=n6_;clear n0_ n1_ n2_ n3_ n4_ n5_ n6_;clear hb hbox hg;have hnb44:=NB278_279.out;have hnc44:=NB279_278.out;obtain ⟨hcz45_0,hcz45_1,hcz45_2,hcz45_3,hcz45_4,hcz45_5,hcz45_6,hcz45_7,hcz45_8,hfz45_0,hfz45_1,hfz45_2,hfz45_3,hfz45_4,hfz45_5,hfz45_6,hfz45_7,hfz45_8⟩:=bC9 BK278.out;obtain ⟨hcz46_0,hcz46_1,hcz46_2,hcz46_3,hcz46_4,hcz46_5,hcz46_6,hcz46_7,hcz46_8,hfz46_0,hfz46_1,hfz46_2,hfz46_3,hfz46_4,hfz46_5,hfz46_6,hfz46_7,hfz46_8⟩:=bC9 BK279.out))
     go_ret
     exact ⟨eRf,by repeat (first|(with_reducible first|exact HB.out|apply bwA|apply bwN|apply bw1|refine below_set ?_ GE278.out|refine below_set ?_ GE279.out)|exact HB.out)⟩
   ·rw [if_neg c5] at H
    have c5b0 : (a0_2 == a1_2) = false:=beq_eq_false_iff_ne.mpr c5
    have c5b1 : (a0_2 != a1_2) = true:=bne_iff_ne.mpr c5
    obtain rfl:=Option.some.inj H
    go_enter Try.func79,Try.ntmps79
    go_wp2_with (first|((with_reducible refine gate_dst (N:=2) rfl ?_);refine bxE (N:=2) (cs:=#[.int .i64 a0_0,.string a0_1,.int .i64 a0_2,.int .i64 a0_3,.int .i64 a0_4,.int .i64 a0_5,.int .i64 a0_6,.int .i64 a0_7,.int .i64 a0_8]) (t:=71) ?_;intro gb278 hg w47 hbox hb;have n0_:=aMk (bSt hb);have n1_:=aMk (hbox);have n2_:=aMk ((by rw [hg];exact bSz : w.heap.size ≤ gb278));have n3_:=aMk ((by rw [hg];exact bSz : w.heap.size ≤ gb278));clear HB;have HB:=n0_;have BK278:=n1_;have GW278:=n2_;have GE278:=n3_;clear n0_ n1_ n2_ n3_;clear hb hbox hg)|((with_reducible refine gate_dst (N:=3) rfl ?_);refine bxE (N:=3) (cs:=#[.int .i64 a1_0,.string a1_1,.int .i64 a1_2,.int .i64 a1_3,.int .i64 a1_4,.int .i64 a1_5,.int .i64 a1_6,.int .i64 a1_7,.int .i64 a1_8]) (t:=71) ?_;intro gb279 hg w48 hbox hb;have n0_:=aMk (bkB BK278.out hb);have n1_:=aMk (below_step (by repeat (first|(with_reducible first|exact HB.out|apply bwA|apply bwN|apply bw1|refine below_set ?_ GE278.out)|exact HB.out)) hb);have n2_:=aMk (hbox);have n3_:=aMk ((by rw [hg];exact (below_size (by repeat (first|(with_reducible first|exact HB.out|apply bwA|apply bwN|apply bw1|refine below_set ?_ GE278.out)|exact HB.out))) : w.heap.size ≤ gb279));have n4_:=aMk ((by rw [hg];exact (below_size (by repeat (first|(with_reducible first|exact HB.out|apply bwA|apply bwN|apply bw1|refine below_set ?_ GE278.out)|exact HB.out))) : w.heap.size ≤ gb279));have n5_:=aMk ((bkL BK278.out hg : gb278 ≠ gb279));have n6_:=aMk ((bkG BK278.out hg : gb279 ≠ gb278));clear BK278;clear HB;have BK278:=n0_;have HB:=n1_;have BK279:=n2_;have GW279:=n3_;have GE279:=n4_;have NB278_279:=n5_;have NB279_278:=n6_;clear n0_ n1_ n2_ n3_ n4_ n5_ n6_;clear hb hbox hg;have hnb49:=NB278_279.out;have hnc49:=NB279_278.out;obtain ⟨hcz50_0,hcz50_1,hcz50_2,hcz50_3,hcz50_4,hcz50_5,hcz50_6,hcz50_7,hcz50_8,hfz50_0,hfz50_1,hfz50_2,hfz50_3,hfz50_4,hfz50_5,hfz50_6,hfz50_7,hfz50_8⟩:=bC9 BK278.out;obtain ⟨hcz51_0,hcz51_1,hcz51_2,hcz51_3,hcz51_4,hcz51_5,hcz51_6,hcz51_7,hcz51_8,hfz51_0,hfz51_1,hfz51_2,hfz51_3,hfz51_4,hfz51_5,hfz51_6,hfz51_7,hfz51_8⟩:=bC9 BK279.out))
    go_ret
    exact ⟨eRf,by repeat (first|(with_reducible first|exact HB.out|apply bwA|apply bwN|apply bw1|refine below_set ?_ GE278.out|refine below_set ?_ GE279.out)|exact HB.out)⟩
  ·rw [if_neg c4] at H
   have c4b0 : (a0_1.toList == a1_1.toList) = false:=beq_eq_false_iff_ne.mpr c4
   have c4b1 : (a0_1.toList != a1_1.toList) = true:=bne_iff_ne.mpr c4
   obtain rfl:=Option.some.inj H
   go_enter Try.func79,Try.ntmps79
   go_wp2_with (first|((with_reducible refine gate_dst (N:=2) rfl ?_);refine bxE (N:=2) (cs:=#[.int .i64 a0_0,.string a0_1,.int .i64 a0_2,.int .i64 a0_3,.int .i64 a0_4,.int .i64 a0_5,.int .i64 a0_6,.int .i64 a0_7,.int .i64 a0_8]) (t:=71) ?_;intro gb278 hg w52 hbox hb;have n0_:=aMk (bSt hb);have n1_:=aMk (hbox);have n2_:=aMk ((by rw [hg];exact bSz : w.heap.size ≤ gb278));have n3_:=aMk ((by rw [hg];exact bSz : w.heap.size ≤ gb278));clear HB;have HB:=n0_;have BK278:=n1_;have GW278:=n2_;have GE278:=n3_;clear n0_ n1_ n2_ n3_;clear hb hbox hg)|((with_reducible refine gate_dst (N:=3) rfl ?_);refine bxE (N:=3) (cs:=#[.int .i64 a1_0,.string a1_1,.int .i64 a1_2,.int .i64 a1_3,.int .i64 a1_4,.int .i64 a1_5,.int .i64 a1_6,.int .i64 a1_7,.int .i64 a1_8]) (t:=71) ?_;intro gb279 hg w53 hbox hb;have n0_:=aMk (bkB BK278.out hb);have n1_:=aMk (below_step (by repeat (first|(with_reducible first|exact HB.out|apply bwA|apply bwN|apply bw1|refine below_set ?_ GE278.out)|exact HB.out)) hb);have n2_:=aMk (hbox);have n3_:=aMk ((by rw [hg];exact (below_size (by repeat (first|(with_reducible first|exact HB.out|apply bwA|apply bwN|apply bw1|refine below_set ?_ GE278.out)|exact HB.out))) : w.heap.size ≤ gb279));have n4_:=aMk ((by rw [hg];exact (below_size (by repeat (first|(with_reducible first|exact HB.out|apply bwA|apply bwN|apply bw1|refine below_set ?_ GE278.out)|exact HB.out))) : w.heap.size ≤ gb279));have n5_:=aMk ((bkL BK278.out hg : gb278 ≠ gb279));have n6_:=aMk ((bkG BK278.out hg : gb279 ≠ gb278));clear BK278;clear HB;have BK278:=n0_;have HB:=n1_;have BK279:=n2_;have GW279:=n3_;have GE279:=n4_;have NB278_279:=n5_;have NB279_278:=n6_;clear n0_ n1_ n2_ n3_ n4_ n5_ n6_;clear hb hbox hg;have hnb54:=NB278_279.out;have hnc54:=NB279_278.out;obtain ⟨hcz55_0,hcz55_1,hcz55_2,hcz55_3,hcz55_4,hcz55_5,hcz55_6,hcz55_7,hcz55_8,hfz55_0,hfz55_1,hfz55_2,hfz55_3,hfz55_4,hfz55_5,hfz55_6,hfz55_7,hfz55_8⟩:=bC9 BK278.out;obtain ⟨hcz56_0,hcz56_1,hcz56_2,hcz56_3,hcz56_4,hcz56_5,hcz56_6,hcz56_7,hcz56_8,hfz56_0,hfz56_1,hfz56_2,hfz56_3,hfz56_4,hfz56_5,hfz56_6,hfz56_7,hfz56_8⟩:=bC9 BK279.out))
   go_ret
   exact ⟨eRf,by repeat (first|(with_reducible first|exact HB.out|apply bwA|apply bwN|apply bw1|refine below_set ?_ GE278.out|refine below_set ?_ GE279.out)|exact HB.out)⟩
 ·rw [if_neg c3] at H
  have c3b0 : (a0_0 == a1_0) = false:=beq_eq_false_iff_ne.mpr c3
  have c3b1 : (a0_0 != a1_0) = true:=bne_iff_ne.mpr c3
  obtain rfl:=Option.some.inj H
  go_enter Try.func79,Try.ntmps79
  go_wp2_with (first|((with_reducible refine gate_dst (N:=2) rfl ?_);refine bxE (N:=2) (cs:=#[.int .i64 a0_0,.string a0_1,.int .i64 a0_2,.int .i64 a0_3,.int .i64 a0_4,.int .i64 a0_5,.int .i64 a0_6,.int .i64 a0_7,.int .i64 a0_8]) (t:=71) ?_;intro gb278 hg w57 hbox hb;have n0_:=aMk (bSt hb);have n1_:=aMk (hbox);have n2_:=aMk ((by rw [hg];exact bSz : w.heap.size ≤ gb278));have n3_:=aMk ((by rw [hg];exact bSz : w.heap.size ≤ gb278));clear HB;have HB:=n0_;have BK278:=n1_;have GW278:=n2_;have GE278:=n3_;clear n0_ n1_ n2_ n3_;clear hb hbox hg)|((with_reducible refine gate_dst (N:=3) rfl ?_);refine bxE (N:=3) (cs:=#[.int .i64 a1_0,.string a1_1,.int .i64 a1_2,.int .i64 a1_3,.int .i64 a1_4,.int .i64 a1_5,.int .i64 a1_6,.int .i64 a1_7,.int .i64 a1_8]) (t:=71) ?_;intro gb279 hg w58 hbox hb;have n0_:=aMk (bkB BK278.out hb);have n1_:=aMk (below_step (by repeat (first|(with_reducible first|exact HB.out|apply bwA|apply bwN|apply bw1|refine below_set ?_ GE278.out)|exact HB.out)) hb);have n2_:=aMk (hbox);have n3_:=aMk ((by rw [hg];exact (below_size (by repeat (first|(with_reducible first|exact HB.out|apply bwA|apply bwN|apply bw1|refine below_set ?_ GE278.out)|exact HB.out))) : w.heap.size ≤ gb279));have n4_:=aMk ((by rw [hg];exact (below_size (by repeat (first|(with_reducible first|exact HB.out|apply bwA|apply bwN|apply bw1|refine below_set ?_ GE278.out)|exact HB.out))) : w.heap.size ≤ gb279));have n5_:=aMk ((bkL BK278.out hg : gb278 ≠ gb279));have n6_:=aMk ((bkG BK278.out hg : gb279 ≠ gb278));clear BK278;clear HB;have BK278:=n0_;have HB:=n1_;have BK279:=n2_;have GW279:=n3_;have GE279:=n4_;have NB278_279:=n5_;have NB279_278:=n6_;clear n0_ n1_ n2_ n3_ n4_ n5_ n6_;clear hb hbox hg;have hnb59:=NB278_279.out;have hnc59:=NB279_278.out;obtain ⟨hcz60_0,hcz60_1,hcz60_2,hcz60_3,hcz60_4,hcz60_5,hcz60_6,hcz60_7,hcz60_8,hfz60_0,hfz60_1,hfz60_2,hfz60_3,hfz60_4,hfz60_5,hfz60_6,hfz60_7,hfz60_8⟩:=bC9 BK278.out;obtain ⟨hcz61_0,hcz61_1,hcz61_2,hcz61_3,hcz61_4,hcz61_5,hcz61_6,hcz61_7,hcz61_8,hfz61_0,hfz61_1,hfz61_2,hfz61_3,hfz61_4,hfz61_5,hfz61_6,hfz61_7,hfz61_8⟩:=bC9 BK279.out))
  go_ret
  exact ⟨eRf,by repeat (first|(with_reducible first|exact HB.out|apply bwA|apply bwN|apply bw1|refine below_set ?_ GE278.out|refine below_set ?_ GE279.out)|exact HB.out)⟩
end
section
/-! ### laws_eqFlowS: function 30 -/
def laws_eqFlowS.l0 : Nat → List (S71) → List (S71) → Int → Option (Bool)
 | 0,_,_,_ => none
 | k + 1,x0,x1,x5 => if x5 < (x0.length : Int) then (if 0 ≤ x5 then (if x5 < (x1.length : Int) then ((laws_eqFlow.f ((rd_T71 x0 x5).f0) ((rd_T71 x0 x5).f1) ((rd_T71 x0 x5).f2) ((rd_T71 x0 x5).f3) ((rd_T71 x0 x5).f4) ((rd_T71 x0 x5).f5) ((rd_T71 x0 x5).f6) ((rd_T71 x0 x5).f7) ((rd_T71 x0 x5).f8) ((rd_T71 x1 x5).f0) ((rd_T71 x1 x5).f1) ((rd_T71 x1 x5).f2) ((rd_T71 x1 x5).f3) ((rd_T71 x1 x5).f4) ((rd_T71 x1 x5).f5) ((rd_T71 x1 x5).f6) ((rd_T71 x1 x5).f7) ((rd_T71 x1 x5).f8)).bind fun t282 => (if t282 = true then (laws_eqFlowS.l0 k x0 x1 (wrap64 (x5 + 1))) else (some false))) else (none)) else (none)) else (some true)
def laws_eqFlowS.f (k : Nat) (l0 : List (S71)) (l1 : List (S71)) : Option (Bool):=if (l0.length : Int) = (l1.length : Int) then (laws_eqFlowS.l0 k l0 l1 0) else (some false)
theorem laws_eqFlowS.mono_l : ∀ k,(∀ y0 y1 y2,LeO (laws_eqFlowS.l0 k y0 y1 y2) (laws_eqFlowS.l0 (k + 1) y0 y1 y2))
 | 0 => fun _ _ _ r h => by simp [laws_eqFlowS.l0] at h
 | k + 1 => by
  have ih0:=laws_eqFlowS.mono_l k
  ·intro y0 y1 y2
   unfold laws_eqFlowS.l0
   repeat' first
   | (with_reducible exact ih0 _ _ _)
   | (with_reducible exact LeO.refl _)
   | (with_reducible exact LeO.none _)
   | (with_reducible refine LeO.ite ?_ ?_)
   | (with_reducible refine LeO.bind ?_ (fun _ => ?_))
   | exact ih0 _ _ _
   | exact LeO.none _
   | refine LeO.ite ?_ ?_
   | refine LeO.bind ?_ (fun _ => ?_)
theorem laws_eqFlowS.mono : ∀ a0 a1 k,LeO (laws_eqFlowS.f k a0 a1) (laws_eqFlowS.f (k + 1) a0 a1):=by
 intro a0 a1 k
 have ih0:=laws_eqFlowS.mono_l k
 unfold laws_eqFlowS.f
 repeat' first
   | (with_reducible exact ih0 _ _ _)
   | (with_reducible exact LeO.refl _)
   | (with_reducible exact LeO.none _)
   | (with_reducible refine LeO.ite ?_ ?_)
   | (with_reducible refine LeO.bind ?_ (fun _ => ?_))
   | exact ih0 _ _ _
   | exact LeO.none _
   | refine LeO.ite ?_ ?_
   | refine LeO.bind ?_ (fun _ => ?_)
def laws_eqFlowS.T6 : Bool × List (List Nat × List Nat):=(true,[([],[]),([],[]),([0,1],[0,1]),([2],[2]),([],[]),([],[]),([4,5],[4,5]),([6],[6]),([3,7],[3,7]),([8],[8])])
def laws_eqFlowS.B6 : List Nat:=[0,0,3,7,0,0,48,112,255,511]
theorem laws_eqFlowS.tab6 : rtab .any (opsOf Try.f30 6) = laws_eqFlowS.T6:=by kernel_rfl
theorem laws_eqFlowS.bits6 : waitsOk laws_eqFlowS.T6.2 laws_eqFlowS.B6 = true:=by kernel_rfl
set_option maxHeartbeats 8000000 in
set_option maxRecDepth 100000 in
theorem laws_eqFlowS.calls (k : Nat) (A0 : Option Addr) (c0 : Nat) (l0 : List (S71)) (A1 : Option Addr) (c1 : Nat) (l1 : List (S71)) (r : Bool) (w : World) (hr0 : Kd.C k71 w A0 l0.length l0) (hc0 : l0.length ≤ c0) (hr1 : Kd.C k71 w A1 l1.length l1) (hc1 : l1.length ≤ c1) (h : laws_eqFlowS.f k l0 l1 = some r) :
  Calls Try.prog 30 #[.slice A0 l0.length c0,.slice A1 l1.length c1] w fun e w' => e = .returned (.bool r) ∧ Below w.heap.size w w':=by
 have hu71:=Try.underlying71
 have HR0:=aMk hr0
 have HC0:=aMk hc0
 clear hr0 hc0
 have HR1:=aMk hr1
 have HC1:=aMk hc1
 clear hr1 hc1
 have HB:=aMk (Below.refl w.heap.size w)
 have H : (if (l0.length : Int) = (l1.length : Int) then (laws_eqFlowS.l0 k l0 l1 0) else (some false)) = some r:=h
 clear h
 by_cases c3 : (l0.length : Int) = (l1.length : Int)
 ·rw [if_pos c3] at H
  have c3b0 : ((l0.length : Int) == (l1.length : Int)) = true:=beq_iff_eq.mpr c3
  have c3b1 : ((l0.length : Int) != (l1.length : Int)) = false:=bne_eq_false_iff_eq.mpr c3
  have c3b2 : (l0.length == l1.length) = true:=by first | simpa using c3|(simp at c3 ⊢;omega)
  clear c3
  have H':=aMk H
  clear H
  go_enter Try.func30,Try.ntmps30
  go_wp2
  go_loopg [5] k (fun kq v5 w' => ∃ (x5_1 : Int),v5 = .int .i64 x5_1 ∧ Aside0 (laws_eqFlowS.l0 kq l0 l1 x5_1 = some r) ∧ Aside0 (kq ≤ k) ∧ Aside0 (Below w.heap.size w w'))
  case atStart => exact ⟨(0),(by first | rfl|(simp;done)|(simp [*];done)|(simp [ne_nil_b];done)|(simp [ne_nil_b, *];done)),H',⟨Nat.le_refl _⟩,⟨by repeat (first|(with_reducible first|exact HB.out|apply bwA|apply bwN|apply bw1)|exact HB.out)⟩⟩
  case round =>
   clear H'
   try clear c1
   try clear p2
   try clear c3
   try clear c3b0
   try clear c3b1
   try clear c3b2
   obtain ⟨x5_1,rfl,HA,HK1,HB⟩:=hrel
   cases gk with
   | zero => exact absurd HA.out (by simp [laws_eqFlowS.l0])
   | succ k1 =>
    have H:=HA.out
    clear HA
    simp only [laws_eqFlowS.l0] at H
    by_cases c4 : x5_1 < (l0.length : Int)
    ·rw [if_pos c4] at H
     have c4b0 : decide (x5_1 < (l0.length : Int)) = true:=decide_eq_true c4
     clear c4
     by_cases c5 : 0 ≤ x5_1
     ·rw [if_pos c5] at H
      have c5b0 : decide (0 ≤ x5_1) = true:=decide_eq_true c5
      clear c5
      by_cases c6 : x5_1 < (l1.length : Int)
      ·rw [if_pos c6] at H
       have c6b0 : decide (x5_1 < (l1.length : Int)) = true:=decide_eq_true c6
       clear c6
       replace H:=Option.bind_eq_some_iff.mp H
       obtain ⟨t282,A70,H⟩:=H
       replace H : (if t282 = true then (laws_eqFlowS.l0 k1 l0 l1 (wrap64 (x5_1 + 1))) else (some false)) = some r:=H
       have A7:=aMk A70
       clear A70
       by_cases c8 : t282 = true
       ·subst c8
        have H1 : (laws_eqFlowS.l0 k1 l0 l1 (wrap64 (x5_1 + 1))) = some r:=by rw [if_pos rfl] at H;exact H
        clear H
        have H:=H1
        clear H1
        have H':=aMk H
        clear H
        try go_wp2
        have n0_:=aMk (bw1 HB.out)
        clear HB
        have HB:=n0_
        clear n0_
        have p280 : 0 ≤ (x5_1 : Int):=of_decide_eq_true (by first|(with_reducible assumption) | assumption)
        have q280 : x5_1 < (l0.length : Int):=of_decide_eq_true (by first|(with_reducible assumption) | assumption)
        obtain ⟨ad280,e280,hx280_0,hx280_1,hx280_2,hx280_3,hx280_4,hx280_5,hx280_6,hx280_7,hx280_8⟩:=at_T71 HR0.out x5_1 p280 q280
        have hw280_8:=hx280_8
        have hw280_7:=hx280_7
        have hw280_6:=hx280_6
        have hw280_5:=hx280_5
        have hw280_4:=hx280_4
        have hw280_3:=hx280_3
        have hw280_2:=hx280_2
        have hw280_1:=hx280_1
        have hw280_0:=hx280_0
        cases e280
        replace hx280_0:=bXc HB.out hx280_0
        replace hx280_1:=bXc HB.out hx280_1
        replace hx280_2:=bXc HB.out hx280_2
        replace hx280_3:=bXc HB.out hx280_3
        replace hx280_4:=bXc HB.out hx280_4
        replace hx280_5:=bXc HB.out hx280_5
        replace hx280_6:=bXc HB.out hx280_6
        replace hx280_7:=bXc HB.out hx280_7
        replace hx280_8:=bXc HB.out hx280_8
        replace p280:=eq_true p280
        replace q280:=eq_true q280
        have p281 : 0 ≤ (x5_1 : Int):=of_decide_eq_true (by first|(with_reducible assumption) | assumption)
        have q281 : x5_1 < (l1.length : Int):=of_decide_eq_true (by first|(with_reducible assumption) | assumption)
        obtain ⟨ad281,e281,hx281_0,hx281_1,hx281_2,hx281_3,hx281_4,hx281_5,hx281_6,hx281_7,hx281_8⟩:=at_T71 HR1.out x5_1 p281 q281
        have hw281_8:=hx281_8
        have hw281_7:=hx281_7
        have hw281_6:=hx281_6
        have hw281_5:=hx281_5
        have hw281_4:=hx281_4
        have hw281_3:=hx281_3
        have hw281_2:=hx281_2
        have hw281_1:=hx281_1
        have hw281_0:=hx281_0
        cases e281
        replace hx281_0:=bXc HB.out hx281_0
        replace hx281_1:=bXc HB.out hx281_1
        replace hx281_2:=bXc HB.out hx281_2
        replace hx281_3:=bXc HB.out hx281_3
        replace hx281_4:=bXc HB.out hx281_4
        replace hx281_5:=bXc HB.out hx281_5
        replace hx281_6:=bXc HB.out hx281_6
        replace hx281_7:=bXc HB.out hx281_7
        replace hx281_8:=bXc HB.out hx281_8
        replace p281:=eq_true p281
        replace q281:=eq_true q281
        refine start_ (n:=10) (S:=fun w' => w'.cell? (ad280.add ((x5_1).toNat * 9)) = some (.int .i64 ((rd_T71 l0 x5_1).f0)) ∧ w'.cell? ⟨(ad280.add ((x5_1).toNat * 9)).block,(ad280.add ((x5_1).toNat * 9)).off + 1,none⟩ = some (.string ((rd_T71 l0 x5_1).f1)) ∧ w'.cell? ⟨(ad280.add ((x5_1).toNat * 9)).block,(ad280.add ((x5_1).toNat * 9)).off + 2,none⟩ = some (.int .i64 ((rd_T71 l0 x5_1).f2)) ∧ w'.cell? ⟨(ad280.add ((x5_1).toNat * 9)).block,(ad280.add ((x5_1).toNat * 9)).off + 3,none⟩ = some (.int .i64 ((rd_T71 l0 x5_1).f3)) ∧ w'.cell? ⟨(ad280.add ((x5_1).toNat * 9)).block,(ad280.add ((x5_1).toNat * 9)).off + 4,none⟩ = some (.int .i64 ((rd_T71 l0 x5_1).f4)) ∧ w'.cell? ⟨(ad280.add ((x5_1).toNat * 9)).block,(ad280.add ((x5_1).toNat * 9)).off + 5,none⟩ = some (.int .i64 ((rd_T71 l0 x5_1).f5)) ∧ w'.cell? ⟨(ad280.add ((x5_1).toNat * 9)).block,(ad280.add ((x5_1).toNat * 9)).off + 6,none⟩ = some (.int .i64 ((rd_T71 l0 x5_1).f6)) ∧ w'.cell? ⟨(ad280.add ((x5_1).toNat * 9)).block,(ad280.add ((x5_1).toNat * 9)).off + 7,none⟩ = some (.int .i64 ((rd_T71 l0 x5_1).f7)) ∧ w'.cell? ⟨(ad280.add ((x5_1).toNat * 9)).block,(ad280.add ((x5_1).toNat * 9)).off + 8,none⟩ = some (.int .i64 ((rd_T71 l0 x5_1).f8)) ∧ w'.cell? (ad281.add ((x5_1).toNat * 9)) = some (.int .i64 ((rd_T71 l1 x5_1).f0)) ∧ w'.cell? ⟨(ad281.add ((x5_1).toNat * 9)).block,(ad281.add ((x5_1).toNat * 9)).off + 1,none⟩ = some (.string ((rd_T71 l1 x5_1).f1)) ∧ w'.cell? ⟨(ad281.add ((x5_1).toNat * 9)).block,(ad281.add ((x5_1).toNat * 9)).off + 2,none⟩ = some (.int .i64 ((rd_T71 l1 x5_1).f2)) ∧ w'.cell? ⟨(ad281.add ((x5_1).toNat * 9)).block,(ad281.add ((x5_1).toNat * 9)).off + 3,none⟩ = some (.int .i64 ((rd_T71 l1 x5_1).f3)) ∧ w'.cell? ⟨(ad281.add ((x5_1).toNat * 9)).block,(ad281.add ((x5_1).toNat * 9)).off + 4,none⟩ = some (.int .i64 ((rd_T71 l1 x5_1).f4)) ∧ w'.cell? ⟨(ad281.add ((x5_1).toNat * 9)).block,(ad281.add ((x5_1).toNat * 9)).off + 5,none⟩ = some (.int .i64 ((rd_T71 l1 x5_1).f5)) ∧ w'.cell? ⟨(ad281.add ((x5_1).toNat * 9)).block,(ad281.add ((x5_1).toNat * 9)).off + 6,none⟩ = some (.int .i64 ((rd_T71 l1 x5_1).f6)) ∧ w'.cell? ⟨(ad281.add ((x5_1).toNat * 9)).block,(ad281.add ((x5_1).toNat * 9)).off + 7,none⟩ = some (.int .i64 ((rd_T71 l1 x5_1).f7)) ∧ w'.cell? ⟨(ad281.add ((x5_1).toNat * 9)).block,(ad281.add ((x5_1).toNat * 9)).off + 8,none⟩ = some (.int .i64 ((rd_T71 l1 x5_1).f8))) (ds:=[]) #[false,false,false,false,false,false,false,false,false,false] (by kernel_rfl) rfl rfl ⟨((HB.out.cell (wLt w _ hw280_0)).trans hw280_0),((HB.out.cell (wLt w _ hw280_1)).trans hw280_1),((HB.out.cell (wLt w _ hw280_2)).trans hw280_2),((HB.out.cell (wLt w _ hw280_3)).trans hw280_3),((HB.out.cell (wLt w _ hw280_4)).trans hw280_4),((HB.out.cell (wLt w _ hw280_5)).trans hw280_5),((HB.out.cell (wLt w _ hw280_6)).trans hw280_6),((HB.out.cell (wLt w _ hw280_7)).trans hw280_7),((HB.out.cell (wLt w _ hw280_8)).trans hw280_8),((HB.out.cell (wLt w _ hw281_0)).trans hw281_0),((HB.out.cell (wLt w _ hw281_1)).trans hw281_1),((HB.out.cell (wLt w _ hw281_2)).trans hw281_2),((HB.out.cell (wLt w _ hw281_3)).trans hw281_3),((HB.out.cell (wLt w _ hw281_4)).trans hw281_4),((HB.out.cell (wLt w _ hw281_5)).trans hw281_5),((HB.out.cell (wLt w _ hw281_6)).trans hw281_6),((HB.out.cell (wLt w _ hw281_7)).trans hw281_7),((HB.out.cell (wLt w _ hw281_8)).trans hw281_8)⟩ (fun hHeld => ?_);refine with_tabW laws_eqFlowS.tab6 laws_eqFlowS.bits6 (fun HT_ HW_ => ?_)
        generalize wr.drew = w9 at HB hx280_0 hx280_1 hx280_2 hx280_3 hx280_4 hx280_5 hx280_6 hx280_7 hx280_8 hx281_0 hx281_1 hx281_2 hx281_3 hx281_4 hx281_5 hx281_6 hx281_7 hx281_8 hHeld ⊢
        refine pure_ (i:=0) (N:=some 17) (v:=?_) (a':=?_) #[true,false,false,false,false,false,false,false,false,false] rfl rfl (any_of HT_.out (by kernel_rfl)) (fun _ _ _ h => h) (Or.inl ⟨by rfl,?_⟩) ?_ ?_
        rotate_left
        ·intro w'
         go_simp
         with_reducible rfl
        rotate_left
        ·simp only [Act.put,List.setIfInBounds_toArray,List.set_cons_zero,List.set_cons_succ,i64_w,i32_w]
         rfl
        refine pure_ (i:=1) (N:=some 18) (v:=?_) (a':=?_) #[true,true,false,false,false,false,false,false,false,false] rfl rfl (any_of HT_.out (by kernel_rfl)) (fun _ _ _ h => h) (Or.inl ⟨by rfl,?_⟩) ?_ ?_
        rotate_left
        ·intro w'
         go_simp
         with_reducible rfl
        rotate_left
        ·simp only [Act.put,List.setIfInBounds_toArray,List.set_cons_zero,List.set_cons_succ,i64_w,i32_w]
         rfl
        refine pure_ (i:=2) (N:=some 19) (v:=?_) (a':=?_) #[true,true,true,false,false,false,false,false,false,false] rfl rfl (any_of HT_.out (by kernel_rfl)) (fun _ _ _ h => h) (Or.inl ⟨by rfl,?_⟩) ?_ ?_
        rotate_left
        ·intro w'
         go_simp
         with_reducible rfl
        rotate_left
        ·simp only [Act.put,List.setIfInBounds_toArray,List.set_cons_zero,List.set_cons_succ,i64_w,i32_w]
         rfl
        refine pure_ (i:=4) (N:=some 21) (v:=?_) (a':=?_) #[true,true,true,false,true,false,false,false,false,false] rfl rfl (any_of HT_.out (by kernel_rfl)) (fun _ _ _ h => h) (Or.inl ⟨by rfl,?_⟩) ?_ ?_
        rotate_left
        ·intro w'
         go_simp
         with_reducible rfl
        rotate_left
        ·simp only [Act.put,List.setIfInBounds_toArray,List.set_cons_zero,List.set_cons_succ,i64_w,i32_w]
         rfl
        refine pure_ (i:=5) (N:=some 22) (v:=?_) (a':=?_) #[true,true,true,false,true,true,false,false,false,false] rfl rfl (any_of HT_.out (by kernel_rfl)) (fun _ _ _ h => h) (Or.inl ⟨by rfl,?_⟩) ?_ ?_
        rotate_left
        ·intro w'
         go_simp
         with_reducible rfl
        rotate_left
        ·simp only [Act.put,List.setIfInBounds_toArray,List.set_cons_zero,List.set_cons_succ,i64_w,i32_w]
         rfl
        refine pure_ (i:=6) (N:=some 23) (v:=?_) (a':=?_) #[true,true,true,false,true,true,true,false,false,false] rfl rfl (any_of HT_.out (by kernel_rfl)) (fun _ _ _ h => h) (Or.inl ⟨by rfl,?_⟩) ?_ ?_
        rotate_left
        ·intro w'
         go_simp
         with_reducible rfl
        rotate_left
        ·simp only [Act.put,List.setIfInBounds_toArray,List.set_cons_zero,List.set_cons_succ,i64_w,i32_w]
         rfl
        refine take_ (i:=3) (N:=some 20) (v:=?_) (a':=?_) #[true,true,true,true,true,true,true,false,false,false] rfl rfl (take_ofW HT_.out HW_.out (by kernel_rfl)) (fun _ _ _ h => h) (Or.inl ⟨by rfl,?_⟩) hHeld ?_ ?_
        rotate_left
        ·rintro w' ⟨s0,s1,s2,s3,s4,s5,s6,s7,s8,s9,s10,s11,s12,s13,s14,s15,s16,s17⟩
         go_simp
         with_reducible rfl
        rotate_left
        ·simp only [Act.put,List.setIfInBounds_toArray,List.set_cons_zero,List.set_cons_succ,i64_w,i32_w]
         rfl
        refine take_ (i:=7) (N:=some 24) (v:=?_) (a':=?_) #[true,true,true,true,true,true,true,true,false,false] rfl rfl (take_ofW HT_.out HW_.out (by kernel_rfl)) (fun _ _ _ h => h) (Or.inl ⟨by rfl,?_⟩) hHeld ?_ ?_
        rotate_left
        ·rintro w' ⟨s0,s1,s2,s3,s4,s5,s6,s7,s8,s9,s10,s11,s12,s13,s14,s15,s16,s17⟩
         go_simp
         with_reducible rfl
        rotate_left
        ·simp only [Act.put,List.setIfInBounds_toArray,List.set_cons_zero,List.set_cons_succ,i64_w,i32_w]
         rfl
        refine one_ (i:=8) (N:=some 25) #[true,true,true,true,true,true,true,true,true,false] rfl rfl (one_of HT_.out (by kernel_rfl)) (by decide) (fun K hK => ?_)
        refine goes_ Try.func79 (by kernel_rfl) rfl #[.agg #[.int .i64 ((rd_T71 l0 x5_1).f0),.string ((rd_T71 l0 x5_1).f1),.int .i64 ((rd_T71 l0 x5_1).f2),.int .i64 ((rd_T71 l0 x5_1).f3),.int .i64 ((rd_T71 l0 x5_1).f4),.int .i64 ((rd_T71 l0 x5_1).f5),.int .i64 ((rd_T71 l0 x5_1).f6),.int .i64 ((rd_T71 l0 x5_1).f7),.int .i64 ((rd_T71 l0 x5_1).f8)],.agg #[.int .i64 ((rd_T71 l1 x5_1).f0),.string ((rd_T71 l1 x5_1).f1),.int .i64 ((rd_T71 l1 x5_1).f2),.int .i64 ((rd_T71 l1 x5_1).f3),.int .i64 ((rd_T71 l1 x5_1).f4),.int .i64 ((rd_T71 l1 x5_1).f5),.int .i64 ((rd_T71 l1 x5_1).f6),.int .i64 ((rd_T71 l1 x5_1).f7),.int .i64 ((rd_T71 l1 x5_1).f8)]] (by rfl) rfl rfl (by (try simp only [List.map_toArray,List.map_cons,List.map_nil]);first | done | rfl|(simp only [List.length_drop,List.length_take];rfl)) ?_
        with_reducible refine (laws_eqFlow.calls ((rd_T71 l0 x5_1).f0) ((rd_T71 l0 x5_1).f1) ((rd_T71 l0 x5_1).f2) ((rd_T71 l0 x5_1).f3) ((rd_T71 l0 x5_1).f4) ((rd_T71 l0 x5_1).f5) ((rd_T71 l0 x5_1).f6) ((rd_T71 l0 x5_1).f7) ((rd_T71 l0 x5_1).f8) ((rd_T71 l1 x5_1).f0) ((rd_T71 l1 x5_1).f1) ((rd_T71 l1 x5_1).f2) ((rd_T71 l1 x5_1).f3) ((rd_T71 l1 x5_1).f4) ((rd_T71 l1 x5_1).f5) ((rd_T71 l1 x5_1).f6) ((rd_T71 l1 x5_1).f7) ((rd_T71 l1 x5_1).f8) true _ A7.out).mono ?_
        rintro e w10 ⟨rfl,hb⟩
        refine ⟨_,rfl,?_⟩
        have n0_:=aMk (bSt hb)
        clear HB
        have HB:=n0_
        clear n0_
        (try clear hb)
        (try clear hb2)
        (try clear hk)
        (try clear hi)
        refine hK.out _ _ ⟨((HB.out.cell (wLt w _ hw280_0)).trans hw280_0),((HB.out.cell (wLt w _ hw280_1)).trans hw280_1),((HB.out.cell (wLt w _ hw280_2)).trans hw280_2),((HB.out.cell (wLt w _ hw280_3)).trans hw280_3),((HB.out.cell (wLt w _ hw280_4)).trans hw280_4),((HB.out.cell (wLt w _ hw280_5)).trans hw280_5),((HB.out.cell (wLt w _ hw280_6)).trans hw280_6),((HB.out.cell (wLt w _ hw280_7)).trans hw280_7),((HB.out.cell (wLt w _ hw280_8)).trans hw280_8),((HB.out.cell (wLt w _ hw281_0)).trans hw281_0),((HB.out.cell (wLt w _ hw281_1)).trans hw281_1),((HB.out.cell (wLt w _ hw281_2)).trans hw281_2),((HB.out.cell (wLt w _ hw281_3)).trans hw281_3),((HB.out.cell (wLt w _ hw281_4)).trans hw281_4),((HB.out.cell (wLt w _ hw281_5)).trans hw281_5),((HB.out.cell (wLt w _ hw281_6)).trans hw281_6),((HB.out.cell (wLt w _ hw281_7)).trans hw281_7),((HB.out.cell (wLt w _ hw281_8)).trans hw281_8)⟩ (fun hHeld => ?_)
        clear hK K
        refine norm_ (a':=?_) ?_ ?_
        rotate_left
        ·show Act.put _ (some 25) _ = _
         simp only [Act.put,List.setIfInBounds_toArray,List.set_cons_zero,List.set_cons_succ,i64_w,i32_w]
         rfl
        refine pure_ (i:=9) (N:=some 26) (v:=?_) (a':=?_) #[true,true,true,true,true,true,true,true,true,true] rfl rfl (any_of HT_.out (by kernel_rfl)) (fun _ _ _ h => h) (Or.inl ⟨by rfl,?_⟩) ?_ ?_
        rotate_left
        ·intro w'
         go_simp
         with_reducible rfl
        rotate_left
        ·simp only [Act.put,List.setIfInBounds_toArray,List.set_cons_zero,List.set_cons_succ,i64_w,i32_w]
         rfl
        refine done_ (done_of HT_.out (by kernel_rfl)) ?_
        try go_wp2
        go_roundg k1
        case measure => have:=HK1.out;omega
        case rel => exact ⟨(wrap64 (x5_1 + 1)),(by first | rfl|(simp;done)|(simp [*];done)|(simp [ne_nil_b];done)|(simp [ne_nil_b, *];done)),H',⟨by have:=HK1.out;omega⟩,⟨by repeat (first|(with_reducible first|exact HB.out|apply bwA|apply bwN|apply bw1)|exact HB.out)⟩⟩
       ·replace c8:=Bool.eq_false_iff.mpr c8
        subst c8
        have H1 : (some false) = some r:=by rw [if_neg (show ¬ (false = true) by decide)] at H;exact H
        clear H
        have H:=H1
        clear H1
        obtain rfl:=Option.some.inj H
        try go_wp2
        have n0_:=aMk (bw1 HB.out)
        clear HB
        have HB:=n0_
        clear n0_
        have p280 : 0 ≤ (x5_1 : Int):=of_decide_eq_true (by first|(with_reducible assumption) | assumption)
        have q280 : x5_1 < (l0.length : Int):=of_decide_eq_true (by first|(with_reducible assumption) | assumption)
        obtain ⟨ad280,e280,hx280_0,hx280_1,hx280_2,hx280_3,hx280_4,hx280_5,hx280_6,hx280_7,hx280_8⟩:=at_T71 HR0.out x5_1 p280 q280
        have hw280_8:=hx280_8
        have hw280_7:=hx280_7
        have hw280_6:=hx280_6
        have hw280_5:=hx280_5
        have hw280_4:=hx280_4
        have hw280_3:=hx280_3
        have hw280_2:=hx280_2
        have hw280_1:=hx280_1
        have hw280_0:=hx280_0
        cases e280
        replace hx280_0:=bXc HB.out hx280_0
        replace hx280_1:=bXc HB.out hx280_1
        replace hx280_2:=bXc HB.out hx280_2
        replace hx280_3:=bXc HB.out hx280_3
        replace hx280_4:=bXc HB.out hx280_4
        replace hx280_5:=bXc HB.out hx280_5
        replace hx280_6:=bXc HB.out hx280_6
        replace hx280_7:=bXc HB.out hx280_7
        replace hx280_8:=bXc HB.out hx280_8
        replace p280:=eq_true p280
        replace q280:=eq_true q280
        have p281 : 0 ≤ (x5_1 : Int):=of_decide_eq_true (by first|(with_reducible assumption) | assumption)
        have q281 : x5_1 < (l1.length : Int):=of_decide_eq_true (by first|(with_reducible assumption) | assumption)
        obtain ⟨ad281,e281,hx281_0,hx281_1,hx281_2,hx281_3,hx281_4,hx281_5,hx281_6,hx281_7,hx281_8⟩:=at_T71 HR1.out x5_1 p281 q281
        have hw281_8:=hx281_8
        have hw281_7:=hx281_7
        have hw281_6:=hx281_6
        have hw281_5:=hx281_5
        have hw281_4:=hx281_4
        have hw281_3:=hx281_3
        have hw281_2:=hx281_2
        have hw281_1:=hx281_1
        have hw281_0:=hx281_0
        cases e281
        replace hx281_0:=bXc HB.out hx281_0
        replace hx281_1:=bXc HB.out hx281_1
        replace hx281_2:=bXc HB.out hx281_2
        replace hx281_3:=bXc HB.out hx281_3
        replace hx281_4:=bXc HB.out hx281_4
        replace hx281_5:=bXc HB.out hx281_5
        replace hx281_6:=bXc HB.out hx281_6
        replace hx281_7:=bXc HB.out hx281_7
        replace hx281_8:=bXc HB.out hx281_8
        replace p281:=eq_true p281
        replace q281:=eq_true q281
        refine start_ (n:=10) (S:=fun w' => w'.cell? (ad280.add ((x5_1).toNat * 9)) = some (.int .i64 ((rd_T71 l0 x5_1).f0)) ∧ w'.cell? ⟨(ad280.add ((x5_1).toNat * 9)).block,(ad280.add ((x5_1).toNat * 9)).off + 1,none⟩ = some (.string ((rd_T71 l0 x5_1).f1)) ∧ w'.cell? ⟨(ad280.add ((x5_1).toNat * 9)).block,(ad280.add ((x5_1).toNat * 9)).off + 2,none⟩ = some (.int .i64 ((rd_T71 l0 x5_1).f2)) ∧ w'.cell? ⟨(ad280.add ((x5_1).toNat * 9)).block,(ad280.add ((x5_1).toNat * 9)).off + 3,none⟩ = some (.int .i64 ((rd_T71 l0 x5_1).f3)) ∧ w'.cell? ⟨(ad280.add ((x5_1).toNat * 9)).block,(ad280.add ((x5_1).toNat * 9)).off + 4,none⟩ = some (.int .i64 ((rd_T71 l0 x5_1).f4)) ∧ w'.cell? ⟨(ad280.add ((x5_1).toNat * 9)).block,(ad280.add ((x5_1).toNat * 9)).off + 5,none⟩ = some (.int .i64 ((rd_T71 l0 x5_1).f5)) ∧ w'.cell? ⟨(ad280.add ((x5_1).toNat * 9)).block,(ad280.add ((x5_1).toNat * 9)).off + 6,none⟩ = some (.int .i64 ((rd_T71 l0 x5_1).f6)) ∧ w'.cell? ⟨(ad280.add ((x5_1).toNat * 9)).block,(ad280.add ((x5_1).toNat * 9)).off + 7,none⟩ = some (.int .i64 ((rd_T71 l0 x5_1).f7)) ∧ w'.cell? ⟨(ad280.add ((x5_1).toNat * 9)).block,(ad280.add ((x5_1).toNat * 9)).off + 8,none⟩ = some (.int .i64 ((rd_T71 l0 x5_1).f8)) ∧ w'.cell? (ad281.add ((x5_1).toNat * 9)) = some (.int .i64 ((rd_T71 l1 x5_1).f0)) ∧ w'.cell? ⟨(ad281.add ((x5_1).toNat * 9)).block,(ad281.add ((x5_1).toNat * 9)).off + 1,none⟩ = some (.string ((rd_T71 l1 x5_1).f1)) ∧ w'.cell? ⟨(ad281.add ((x5_1).toNat * 9)).block,(ad281.add ((x5_1).toNat * 9)).off + 2,none⟩ = some (.int .i64 ((rd_T71 l1 x5_1).f2)) ∧ w'.cell? ⟨(ad281.add ((x5_1).toNat * 9)).block,(ad281.add ((x5_1).toNat * 9)).off + 3,none⟩ = some (.int .i64 ((rd_T71 l1 x5_1).f3)) ∧ w'.cell? ⟨(ad281.add ((x5_1).toNat * 9)).block,(ad281.add ((x5_1).toNat * 9)).off + 4,none⟩ = some (.int .i64 ((rd_T71 l1 x5_1).f4)) ∧ w'.cell? ⟨(ad281.add ((x5_1).toNat * 9)).block,(ad281.add ((x5_1).toNat * 9)).off + 5,none⟩ = some (.int .i64 ((rd_T71 l1 x5_1).f5)) ∧ w'.cell? ⟨(ad281.add ((x5_1).toNat * 9)).block,(ad281.add ((x5_1).toNat * 9)).off + 6,none⟩ = some (.int .i64 ((rd_T71 l1 x5_1).f6)) ∧ w'.cell? ⟨(ad281.add ((x5_1).toNat * 9)).block,(ad281.add ((x5_1).toNat * 9)).off + 7,none⟩ = some (.int .i64 ((rd_T71 l1 x5_1).f7)) ∧ w'.cell? ⟨(ad281.add ((x5_1).toNat * 9)).block,(ad281.add ((x5_1).toNat * 9)).off + 8,none⟩ = some (.int .i64 ((rd_T71 l1 x5_1).f8))) (ds:=[]) #[false,false,false,false,false,false,false,false,false,false] (by kernel_rfl) rfl rfl ⟨((HB.out.cell (wLt w _ hw280_0)).trans hw280_0),((HB.out.cell (wLt w _ hw280_1)).trans hw280_1),((HB.out.cell (wLt w _ hw280_2)).trans hw280_2),((HB.out.cell (wLt w _ hw280_3)).trans hw280_3),((HB.out.cell (wLt w _ hw280_4)).trans hw280_4),((HB.out.cell (wLt w _ hw280_5)).trans hw280_5),((HB.out.cell (wLt w _ hw280_6)).trans hw280_6),((HB.out.cell (wLt w _ hw280_7)).trans hw280_7),((HB.out.cell (wLt w _ hw280_8)).trans hw280_8),((HB.out.cell (wLt w _ hw281_0)).trans hw281_0),((HB.out.cell (wLt w _ hw281_1)).trans hw281_1),((HB.out.cell (wLt w _ hw281_2)).trans hw281_2),((HB.out.cell (wLt w _ hw281_3)).trans hw281_3),((HB.out.cell (wLt w _ hw281_4)).trans hw281_4),((HB.out.cell (wLt w _ hw281_5)).trans hw281_5),((HB.out.cell (wLt w _ hw281_6)).trans hw281_6),((HB.out.cell (wLt w _ hw281_7)).trans hw281_7),((HB.out.cell (wLt w _ hw281_8)).trans hw281_8)⟩ (fun hHeld => ?_);refine with_tabW laws_eqFlowS.tab6 laws_eqFlowS.bits6 (fun HT_ HW_ => ?_)
        generalize wr.drew = w11 at HB hx280_0 hx280_1 hx280_2 hx280_3 hx280_4 hx280_5 hx280_6 hx280_7 hx280_8 hx281_0 hx281_1 hx281_2 hx281_3 hx281_4 hx281_5 hx281_6 hx281_7 hx281_8 hHeld ⊢
        refine pure_ (i:=0) (N:=some 17) (v:=?_) (a':=?_) #[true,false,false,false,false,false,false,false,false,false] rfl rfl (any_of HT_.out (by kernel_rfl)) (fun _ _ _ h => h) (Or.inl ⟨by rfl,?_⟩) ?_ ?_
        rotate_left
        ·intro w'
         go_simp
         with_reducible rfl
        rotate_left
        ·simp only [Act.put,List.setIfInBounds_toArray,List.set_cons_zero,List.set_cons_succ,i64_w,i32_w]
         rfl
        refine pure_ (i:=1) (N:=some 18) (v:=?_) (a':=?_) #[true,true,false,false,false,false,false,false,false,false] rfl rfl (any_of HT_.out (by kernel_rfl)) (fun _ _ _ h => h) (Or.inl ⟨by rfl,?_⟩) ?_ ?_
        rotate_left
        ·intro w'
         go_simp
         with_reducible rfl
        rotate_left
        ·simp only [Act.put,List.setIfInBounds_toArray,List.set_cons_zero,List.set_cons_succ,i64_w,i32_w]
         rfl
        refine pure_ (i:=2) (N:=some 19) (v:=?_) (a':=?_) #[true,true,true,false,false,false,false,false,false,false] rfl rfl (any_of HT_.out (by kernel_rfl)) (fun _ _ _ h => h) (Or.inl ⟨by rfl,?_⟩) ?_ ?_
        rotate_left
        ·intro w'
         go_simp
         with_reducible rfl
        rotate_left
        ·simp only [Act.put,List.setIfInBounds_toArray,List.set_cons_zero,List.set_cons_succ,i64_w,i32_w]
         rfl
        refine pure_ (i:=4) (N:=some 21) (v:=?_) (a':=?_) #[true,true,true,false,true,false,false,false,false,false] rfl rfl (any_of HT_.out (by kernel_rfl)) (fun _ _ _ h => h) (Or.inl ⟨by rfl,?_⟩) ?_ ?_
        rotate_left
        ·intro w'
         go_simp
         with_reducible rfl
        rotate_left
        ·simp only [Act.put,List.setIfInBounds_toArray,List.set_cons_zero,List.set_cons_succ,i64_w,i32_w]
         rfl
        refine pure_ (i:=5) (N:=some 22) (v:=?_) (a':=?_) #[true,true,true,false,true,true,false,false,false,false] rfl rfl (any_of HT_.out (by kernel_rfl)) (fun _ _ _ h => h) (Or.inl ⟨by rfl,?_⟩) ?_ ?_
        rotate_left
        ·intro w'
         go_simp
         with_reducible rfl
        rotate_left
        ·simp only [Act.put,List.setIfInBounds_toArray,List.set_cons_zero,List.set_cons_succ,i64_w,i32_w]
         rfl
        refine pure_ (i:=6) (N:=some 23) (v:=?_) (a':=?_) #[true,true,true,false,true,true,true,false,false,false] rfl rfl (any_of HT_.out (by kernel_rfl)) (fun _ _ _ h => h) (Or.inl ⟨by rfl,?_⟩) ?_ ?_
        rotate_left
        ·intro w'
         go_simp
         with_reducible rfl
        rotate_left
        ·simp only [Act.put,List.setIfInBounds_toArray,List.set_cons_zero,List.set_cons_succ,i64_w,i32_w]
         rfl
        refine take_ (i:=3) (N:=some 20) (v:=?_) (a':=?_) #[true,true,true,true,true,true,true,false,false,false] rfl rfl (take_ofW HT_.out HW_.out (by kernel_rfl)) (fun _ _ _ h => h) (Or.inl ⟨by rfl,?_⟩) hHeld ?_ ?_
        rotate_left
        ·rintro w' ⟨s0,s1,s2,s3,s4,s5,s6,s7,s8,s9,s10,s11,s12,s13,s14,s15,s16,s17⟩
         go_simp
         with_reducible rfl
        rotate_left
        ·simp only [Act.put,List.setIfInBounds_toArray,List.set_cons_zero,List.set_cons_succ,i64_w,i32_w]
         rfl
        refine take_ (i:=7) (N:=some 24) (v:=?_) (a':=?_) #[true,true,true,true,true,true,true,true,false,false] rfl rfl (take_ofW HT_.out HW_.out (by kernel_rfl)) (fun _ _ _ h => h) (Or.inl ⟨by rfl,?_⟩) hHeld ?_ ?_
        rotate_left
        ·rintro w' ⟨s0,s1,s2,s3,s4,s5,s6,s7,s8,s9,s10,s11,s12,s13,s14,s15,s16,s17⟩
         go_simp
         with_reducible rfl
        rotate_left
        ·simp only [Act.put,List.setIfInBounds_toArray,List.set_cons_zero,List.set_cons_succ,i64_w,i32_w]
         rfl
        refine one_ (i:=8) (N:=some 25) #[true,true,true,true,true,true,true,true,true,false] rfl rfl (one_of HT_.out (by kernel_rfl)) (by decide) (fun K hK => ?_)
        refine goes_ Try.func79 (by kernel_rfl) rfl #[.agg #[.int .i64 ((rd_T71 l0 x5_1).f0),.string ((rd_T71 l0 x5_1).f1),.int .i64 ((rd_T71 l0 x5_1).f2),.int .i64 ((rd_T71 l0 x5_1).f3),.int .i64 ((rd_T71 l0 x5_1).f4),.int .i64 ((rd_T71 l0 x5_1).f5),.int .i64 ((rd_T71 l0 x5_1).f6),.int .i64 ((rd_T71 l0 x5_1).f7),.int .i64 ((rd_T71 l0 x5_1).f8)],.agg #[.int .i64 ((rd_T71 l1 x5_1).f0),.string ((rd_T71 l1 x5_1).f1),.int .i64 ((rd_T71 l1 x5_1).f2),.int .i64 ((rd_T71 l1 x5_1).f3),.int .i64 ((rd_T71 l1 x5_1).f4),.int .i64 ((rd_T71 l1 x5_1).f5),.int .i64 ((rd_T71 l1 x5_1).f6),.int .i64 ((rd_T71 l1 x5_1).f7),.int .i64 ((rd_T71 l1 x5_1).f8)]] (by rfl) rfl rfl (by (try simp only [List.map_toArray,List.map_cons,List.map_nil]);first | done | rfl|(simp only [List.length_drop,List.length_take];rfl)) ?_
        with_reducible refine (laws_eqFlow.calls ((rd_T71 l0 x5_1).f0) ((rd_T71 l0 x5_1).f1) ((rd_T71 l0 x5_1).f2) ((rd_T71 l0 x5_1).f3) ((rd_T71 l0 x5_1).f4) ((rd_T71 l0 x5_1).f5) ((rd_T71 l0 x5_1).f6) ((rd_T71 l0 x5_1).f7) ((rd_T71 l0 x5_1).f8) ((rd_T71 l1 x5_1).f0) ((rd_T71 l1 x5_1).f1) ((rd_T71 l1 x5_1).f2) ((rd_T71 l1 x5_1).f3) ((rd_T71 l1 x5_1).f4) ((rd_T71 l1 x5_1).f5) ((rd_T71 l1 x5_1).f6) ((rd_T71 l1 x5_1).f7) ((rd_T71 l1 x5_1).f8) false _ A7.out).mono ?_
        rintro e w12 ⟨rfl,hb⟩
        refine ⟨_,rfl,?_⟩
        have n0_:=aMk (bSt hb)
        clear HB
        have HB:=n0_
        clear n0_
        (try clear hb)
        (try clear hb2)
        (try clear hk)
        (try clear hi)
        refine hK.out _ _ ⟨((HB.out.cell (wLt w _ hw280_0)).trans hw280_0),((HB.out.cell (wLt w _ hw280_1)).trans hw280_1),((HB.out.cell (wLt w _ hw280_2)).trans hw280_2),((HB.out.cell (wLt w _ hw280_3)).trans hw280_3),((HB.out.cell (wLt w _ hw280_4)).trans hw280_4),((HB.out.cell (wLt w _ hw280_5)).trans hw280_5),((HB.out.cell (wLt w _ hw280_6)).trans hw280_6),((HB.out.cell (wLt w _ hw280_7)).trans hw280_7),((HB.out.cell (wLt w _ hw280_8)).trans hw280_8),((HB.out.cell (wLt w _ hw281_0)).trans hw281_0),((HB.out.cell (wLt w _ hw281_1)).trans hw281_1),((HB.out.cell (wLt w _ hw281_2)).trans hw281_2),((HB.out.cell (wLt w _ hw281_3)).trans hw281_3),((HB.out.cell (wLt w _ hw281_4)).trans hw281_4),((HB.out.cell (wLt w _ hw281_5)).trans hw281_5),((HB.out.cell (wLt w _ hw281_6)).trans hw281_6),((HB.out.cell (wLt w _ hw281_7)).trans hw281_7),((HB.out.cell (wLt w _ hw281_8)).trans hw281_8)⟩ (fun hHeld => ?_)
        clear hK K
        refine norm_ (a':=?_) ?_ ?_
        rotate_left
        ·show Act.put _ (some 25) _ = _
         simp only [Act.put,List.setIfInBounds_toArray,List.set_cons_zero,List.set_cons_succ,i64_w,i32_w]
         rfl
        refine pure_ (i:=9) (N:=some 26) (v:=?_) (a':=?_) #[true,true,true,true,true,true,true,true,true,true] rfl rfl (any_of HT_.out (by kernel_rfl)) (fun _ _ _ h => h) (Or.inl ⟨by rfl,?_⟩) ?_ ?_
        rotate_left
        ·intro w'
         go_simp
         with_reducible rfl
        rotate_left
        ·simp only [Act.put,List.setIfInBounds_toArray,List.set_cons_zero,List.set_cons_succ,i64_w,i32_w]
         rfl
        refine done_ (done_of HT_.out (by kernel_rfl)) ?_
        try go_wp2
        go_ret
        exact ⟨eRf,by repeat (first|(with_reducible first|exact HB.out|apply bwA|apply bwN|apply bw1)|exact HB.out)⟩
      ·rw [if_neg c6] at H
       exact absurd H (by simp)
     ·rw [if_neg c5] at H
      exact absurd H (by simp)
    ·rw [if_neg c4] at H
     have c4b0 : decide (x5_1 < (l0.length : Int)) = false:=decide_eq_false c4
     clear c4
     obtain rfl:=Option.some.inj H
     go_wp2
     go_ret
     exact ⟨eRf,by repeat (first|(with_reducible first|exact HB.out|apply bwA|apply bwN|apply bw1)|exact HB.out)⟩
 ·rw [if_neg c3] at H
  have c3b0 : ((l0.length : Int) == (l1.length : Int)) = false:=beq_eq_false_iff_ne.mpr c3
  have c3b1 : ((l0.length : Int) != (l1.length : Int)) = true:=bne_iff_ne.mpr c3
  have c3b2 : (l0.length == l1.length) = false:=by first | simpa using c3|(simp at c3 ⊢;omega)
  obtain rfl:=Option.some.inj H
  go_enter Try.func30,Try.ntmps30
  go_wp2
  go_ret
  exact ⟨eRf,by repeat (first|(with_reducible first|exact HB.out|apply bwA|apply bwN|apply bw1)|exact HB.out)⟩
end
section
/-! ### laws_markText: function 89 -/
def laws_markText.l0 : Nat → Int → ByteArray → Option (ByteArray)
 | 0,_,_ => none
 | k + 1,x0,x3 => if x0 > 0 then ((some (([(wrap64 (48 + (Int.tmod x0 10))) % 256] : List Int) : List Int)).bind fun y447 => (if (strOfNums y447).size + x3.size ≤ 9223372036854775807 then (laws_markText.l0 k (wrap64 (Int.tdiv x0 10)) ((strOfNums y447) ++ x3)) else (none))) else (if 1 + x3.size ≤ 9223372036854775807 then (some ((⟨#[109]⟩ : ByteArray) ++ x3)) else (none))
def laws_markText.f (k : Nat) (a0 : Int) : Option (ByteArray):=if a0 ≤ 0 then (some (⟨#[109,48]⟩ : ByteArray)) else (laws_markText.l0 k a0 (⟨#[]⟩ : ByteArray))
theorem laws_markText.mono_l : ∀ k,(∀ y0 y1,LeO (laws_markText.l0 k y0 y1) (laws_markText.l0 (k + 1) y0 y1))
 | 0 => fun _ _ r h => by simp [laws_markText.l0] at h
 | k + 1 => by
  have ih0:=laws_markText.mono_l k
  ·intro y0 y1
   unfold laws_markText.l0
   repeat' first
   | (with_reducible exact ih0 _ _)
   | (with_reducible exact LeO.refl _)
   | (with_reducible exact LeO.none _)
   | (with_reducible refine LeO.ite ?_ ?_)
   | (with_reducible refine LeO.bind ?_ (fun _ => ?_))
   | exact ih0 _ _
   | exact LeO.none _
   | refine LeO.ite ?_ ?_
   | refine LeO.bind ?_ (fun _ => ?_)
theorem laws_markText.mono : ∀ a0 k,LeO (laws_markText.f k a0) (laws_markText.f (k + 1) a0):=by
 intro a0 k
 have ih0:=laws_markText.mono_l k
 unfold laws_markText.f
 repeat' first
   | (with_reducible exact ih0 _ _)
   | (with_reducible exact LeO.refl _)
   | (with_reducible exact LeO.none _)
   | (with_reducible refine LeO.ite ?_ ?_)
   | (with_reducible refine LeO.bind ?_ (fun _ => ?_))
   | exact ih0 _ _
   | exact LeO.none _
   | refine LeO.ite ?_ ?_
   | refine LeO.bind ?_ (fun _ => ?_)
set_option maxHeartbeats 8000000 in
set_option maxRecDepth 100000 in
theorem laws_markText.calls (k : Nat) (a0 : Int) (r : ByteArray) (w : World) (h : laws_markText.f k a0 = some r) :
  Calls Try.prog 89 #[.int .i64 a0] w fun e w' => e = .returned (.string r) ∧ Below w.heap.size w w':=by
 have HB:=aMk (Below.refl w.heap.size w)
 have H : (if a0 ≤ 0 then (some (⟨#[109,48]⟩ : ByteArray)) else (laws_markText.l0 k a0 (⟨#[]⟩ : ByteArray))) = some r:=h
 clear h
 by_cases c2 : a0 ≤ 0
 ·rw [if_pos c2] at H
  have c2b0 : decide (a0 ≤ 0) = true:=decide_eq_true c2
  clear c2
  obtain rfl:=Option.some.inj H
  go_enter Try.func89,Try.ntmps89
  go_wp2
  go_ret
  exact ⟨eRf,by repeat (first|(with_reducible first|exact HB.out|apply bwA|apply bwN|apply bw1)|exact HB.out)⟩
 ·rw [if_neg c2] at H
  have c2b0 : decide (a0 ≤ 0) = false:=decide_eq_false c2
  clear c2
  have H':=aMk H
  clear H
  go_enter Try.func89,Try.ntmps89
  go_wp2
  go_loopg [0,3] k (fun kq v0 v3 w' => ∃ (x0_1 : Int) (x3_1 : ByteArray),v0 = .int .i64 x0_1 ∧ v3 = .string x3_1 ∧ Aside0 (laws_markText.l0 kq x0_1 x3_1 = some r) ∧ Aside0 (kq ≤ k) ∧ Aside0 (Below w.heap.size w w'))
  case atStart => exact ⟨(a0),((⟨#[]⟩ : ByteArray)),(by first | rfl|(simp;done)|(simp [*];done)|(simp [ne_nil_b];done)|(simp [ne_nil_b, *];done)),(by first | rfl|(simp;done)|(simp [*];done)|(simp [ne_nil_b];done)|(simp [ne_nil_b, *];done)),H',⟨Nat.le_refl _⟩,⟨by repeat (first|(with_reducible first|exact HB.out|apply bwA|apply bwN|apply bw1)|exact HB.out)⟩⟩
  case round =>
   clear H'
   try clear c2
   try clear c2b0
   try clear p2
   obtain ⟨x0_1,x3_1,rfl,rfl,HA,HK1,HB⟩:=hrel
   cases gk with
   | zero => exact absurd HA.out (by simp [laws_markText.l0])
   | succ k1 =>
    have H:=HA.out
    clear HA
    simp only [laws_markText.l0] at H
    by_cases c3 : x0_1 > 0
    ·rw [if_pos c3] at H
     have c3b0 : decide (0 < x0_1) = true:=decide_eq_true c3
     clear c3
     obtain ⟨y447,hy447⟩ : ∃ y_ : List Int,y_ = (([(wrap64 (48 + (Int.tmod x0_1 10))) % 256] : List Int)):=⟨_,rfl⟩
     replace H : (if (strOfNums y447).size + x3_1.size ≤ 9223372036854775807 then (laws_markText.l0 k1 (wrap64 (Int.tdiv x0_1 10)) ((strOfNums y447) ++ x3_1)) else (none)) = some r:=by first|(rw [hy447];with_reducible exact H)|(have H2_:=(Option.bind_some _ _).symm.trans H;rw [hy447];with_reducible exact H2_)|(have H2_:=(Option.bind_some _ _).symm.trans H;with_reducible exact H2_) | with_reducible exact H|(rw [hy447];exact H)|exact H
     have Ny447:=aMk hy447
     clear hy447
     by_cases c4 : (strOfNums y447).size + x3_1.size ≤ 9223372036854775807
     ·rw [if_pos c4] at H
      have c4b0:=eq_true c4
      have c4b1 : decide ((strOfNums y447).size + x3_1.size ≤ 9223372036854775807) = true:=decide_eq_true c4
      try have c4b2 : (9223372036854775807 < (strOfNums y447).size + x3_1.size) = False:=eq_false (Nat.not_lt.2 c4)
      have H':=aMk H
      clear H
      go_wp2_with (first|((with_reducible refine gate_dst (N:=12) rfl ?_);refine Kd.R_lit (Kd.int .u8) _ 5 ?hg (N:=12) ?hd (xs:=([(wrap64 (48 + (Int.tmod x0_1 10))) % 256] : List Int)) (inner:=[.int .u8 ((wrap64 (48 + (Int.tmod x0_1 10))) % 256)]) (ok:=fun _ => True) (okp:=fun _ => True) ?hr ?hp (fun _ hk => hk) trivial (Below.refl _ _) (Nat.le_refl _) (by simp) ?_;(case hd => rfl);(case hg => rfl);(case hr => first|(go_simp;done)|(go_simp;rfl));(case hp => exact (Reps.one (show Kd.M (Kd.int .u8) _ _ _ ((wrap64 (48 + (Int.tmod x0_1 10))) % 256) [.int .u8 ((wrap64 (48 + (Int.tmod x0_1 10))) % 256)] from rfl) (Reps.none _ _)));intro v448 w5 ho6 hb hg_ hnew_;clear hg_ hnew_;(first|rw [← Ny447.out] at ho6|(simp only [Int.reduceToNat] at ho6;rw [← Ny447.out] at ho6));have n0_:=aMk (Kd.R_lower ho6 bSz);have n1_:=aMk (bSt hb);clear HB;have HO449:=n0_;have HB:=n1_;clear n0_ n1_;clear hb ho6;have hcv7:=own_string (P:=Try.prog) Try.underlying25 Try.underlying5 Try.underlying9 (Kd.own_of_R HO449.out)))
      go_roundg k1
      case measure => have:=HK1.out;omega
      case rel => exact ⟨(wrap64 (Int.tdiv x0_1 10)),((strOfNums y447) ++ x3_1),(by first | rfl|(simp;done)|(simp [*];done)|(simp [ne_nil_b];done)|(simp [ne_nil_b, *];done)),(by first | rfl|(simp;done)|(simp [*];done)|(simp [ne_nil_b];done)|(simp [ne_nil_b, *];done)),H',⟨by have:=HK1.out;omega⟩,⟨by repeat (first|(with_reducible first|exact HB.out|apply bwA|apply bwN|apply bw1)|exact HB.out)⟩⟩
     ·rw [if_neg c4] at H
      exact absurd H (by simp)
    ·rw [if_neg c3] at H
     have c3b0 : decide (0 < x0_1) = false:=decide_eq_false c3
     clear c3
     by_cases c8 : 1 + x3_1.size ≤ 9223372036854775807
     ·rw [if_pos c8] at H
      have c8b0:=eq_true c8
      have c8b1 : decide (1 + x3_1.size ≤ 9223372036854775807) = true:=decide_eq_true c8
      try have c8b2 : (9223372036854775807 < 1 + x3_1.size) = False:=eq_false (Nat.not_lt.2 c8)
      obtain rfl:=Option.some.inj H
      go_wp2
      go_ret
      exact ⟨eRf,by repeat (first|(with_reducible first|exact HB.out|apply bwA|apply bwN|apply bw1)|exact HB.out)⟩
     ·rw [if_neg c8] at H
      exact absurd H (by simp)
end
section
/-! ### laws_markFlowS: function 47 -/
def laws_markFlowS.l0 : Nat → List (S71) → Int → Int → Option (Int × (List (S71)))
 | 0,_,_,_ => none
 | k + 1,x0,x1,x5 => if x5 < (x0.length : Int) then (if 0 ≤ x5 then ((some (x0.set (x5 : Int).toNat (⟨x1,(rd_T71 x0 x5).f1,(rd_T71 x0 x5).f2,(rd_T71 x0 x5).f3,(rd_T71 x0 x5).f4,(rd_T71 x0 x5).f5,(rd_T71 x0 x5).f6,(rd_T71 x0 x5).f7,(rd_T71 x0 x5).f8⟩ : S71) : List (S71))).bind fun y862 => ((laws_markText.f k (wrap64 (x1 + 1))).bind fun t863 => ((some (y862.set (x5 : Int).toNat (⟨(rd_T71 y862 x5).f0,t863,(rd_T71 y862 x5).f2,(rd_T71 y862 x5).f3,(rd_T71 y862 x5).f4,(rd_T71 y862 x5).f5,(rd_T71 y862 x5).f6,(rd_T71 y862 x5).f7,(rd_T71 y862 x5).f8⟩ : S71) : List (S71))).bind fun y864 => ((some (y864.set (x5 : Int).toNat (⟨(rd_T71 y864 x5).f0,(rd_T71 y864 x5).f1,wrap64 ((wrap64 (x1 + 1)) + 1),(rd_T71 y864 x5).f3,(rd_T71 y864 x5).f4,(rd_T71 y864 x5).f5,(rd_T71 y864 x5).f6,(rd_T71 y864 x5).f7,(rd_T71 y864 x5).f8⟩ : S71) : List (S71))).bind fun y865 => ((some (y865.set (x5 : Int).toNat (⟨(rd_T71 y865 x5).f0,(rd_T71 y865 x5).f1,(rd_T71 y865 x5).f2,wrap64 ((wrap64 ((wrap64 (x1 + 1)) + 1)) + 1),(rd_T71 y865 x5).f4,(rd_T71 y865 x5).f5,(rd_T71 y865 x5).f6,(rd_T71 y865 x5).f7,(rd_T71 y865 x5).f8⟩ : S71) : List (S71))).bind fun y866 => ((some (y866.set (x5 : Int).toNat (⟨(rd_T71 y866 x5).f0,(rd_T71 y866 x5).f1,(rd_T71 y866 x5).f2,(rd_T71 y866 x5).f3,wrap64 ((wrap64 ((wrap64 ((wrap64 (x1 + 1)) + 1)) + 1)) + 1),(rd_T71 y866 x5).f5,(rd_T71 y866 x5).f6,(rd_T71 y866 x5).f7,(rd_T71 y866 x5).f8⟩ : S71) : List (S71))).bind fun y867 => ((some (y867.set (x5 : Int).toNat (⟨(rd_T71 y867 x5).f0,(rd_T71 y867 x5).f1,(rd_T71 y867 x5).f2,(rd_T71 y867 x5).f3,(rd_T71 y867 x5).f4,wrap64 ((wrap64 ((wrap64 ((wrap64 ((wrap64 (x1 + 1)) + 1)) + 1)) + 1)) + 1),(rd_T71 y867 x5).f6,(rd_T71 y867 x5).f7,(rd_T71 y867 x5).f8⟩ : S71) : List (S71))).bind fun y868 => ((some (y868.set (x5 : Int).toNat (⟨(rd_T71 y868 x5).f0,(rd_T71 y868 x5).f1,(rd_T71 y868 x5).f2,(rd_T71 y868 x5).f3,(rd_T71 y868 x5).f4,(rd_T71 y868 x5).f5,wrap64 ((wrap64 ((wrap64 ((wrap64 ((wrap64 ((wrap64 (x1 + 1)) + 1)) + 1)) + 1)) + 1)) + 1),(rd_T71 y868 x5).f7,(rd_T71 y868 x5).f8⟩ : S71) : List (S71))).bind fun y869 => ((some (y869.set (x5 : Int).toNat (⟨(rd_T71 y869 x5).f0,(rd_T71 y869 x5).f1,(rd_T71 y869 x5).f2,(rd_T71 y869 x5).f3,(rd_T71 y869 x5).f4,(rd_T71 y869 x5).f5,(rd_T71 y869 x5).f6,wrap64 ((wrap64 ((wrap64 ((wrap64 ((wrap64 ((wrap64 ((wrap64 (x1 + 1)) + 1)) + 1)) + 1)) + 1)) + 1)) + 1),(rd_T71 y869 x5).f8⟩ : S71) : List (S71))).bind fun y870 => (laws_markFlowS.l0 k (y870.set (x5 : Int).toNat (⟨(rd_T71 y870 x5).f0,(rd_T71 y870 x5).f1,(rd_T71 y870 x5).f2,(rd_T71 y870 x5).f3,(rd_T71 y870 x5).f4,(rd_T71 y870 x5).f5,(rd_T71 y870 x5).f6,(rd_T71 y870 x5).f7,wrap64 ((wrap64 ((wrap64 ((wrap64 ((wrap64 ((wrap64 ((wrap64 ((wrap64 (x1 + 1)) + 1)) + 1)) + 1)) + 1)) + 1)) + 1)) + 1)⟩ : S71)) (wrap64 ((wrap64 ((wrap64 ((wrap64 ((wrap64 ((wrap64 ((wrap64 ((wrap64 ((wrap64 (x1 + 1)) + 1)) + 1)) + 1)) + 1)) + 1)) + 1)) + 1)) + 1)) (wrap64 (x5 + 1)))))))))))) else (none)) else (some (x1,x0))
def laws_markFlowS.f (k : Nat) (l0 : List (S71)) (a1 : Int) : Option (Int × (List (S71))):=laws_markFlowS.l0 k l0 a1 0
theorem laws_markFlowS.mono_l : ∀ k,(∀ y0 y1 y2,LeO (laws_markFlowS.l0 k y0 y1 y2) (laws_markFlowS.l0 (k + 1) y0 y1 y2))
 | 0 => fun _ _ _ r h => by simp [laws_markFlowS.l0] at h
 | k + 1 => by
  have ih0:=laws_markFlowS.mono_l k
  ·intro y0 y1 y2
   unfold laws_markFlowS.l0
   repeat' first
   | (with_reducible exact ih0 _ _ _)
   | (with_reducible exact laws_markText.mono ..)
   | (with_reducible exact LeO.refl _)
   | (with_reducible exact LeO.none _)
   | (with_reducible refine LeO.ite ?_ ?_)
   | (with_reducible refine LeO.bind ?_ (fun _ => ?_))
   | exact ih0 _ _ _
   | exact laws_markText.mono ..
   | exact LeO.none _
   | refine LeO.ite ?_ ?_
   | refine LeO.bind ?_ (fun _ => ?_)
theorem laws_markFlowS.mono : ∀ a0 a1 k,LeO (laws_markFlowS.f k a0 a1) (laws_markFlowS.f (k + 1) a0 a1):=by
 intro a0 a1 k
 have ih0:=laws_markFlowS.mono_l k
 unfold laws_markFlowS.f
 repeat' first
   | (with_reducible exact ih0 _ _ _)
   | (with_reducible exact laws_markText.mono ..)
   | (with_reducible exact LeO.refl _)
   | (with_reducible exact LeO.none _)
   | (with_reducible refine LeO.ite ?_ ?_)
   | (with_reducible refine LeO.bind ?_ (fun _ => ?_))
   | exact ih0 _ _ _
   | exact laws_markText.mono ..
   | exact LeO.none _
   | refine LeO.ite ?_ ?_
   | refine LeO.bind ?_ (fun _ => ?_)
set_option maxHeartbeats 8000000 in
set_option maxRecDepth 100000 in
theorem laws_markFlowS.calls (k : Nat) (P0_ : Nat → Prop) (u9000_ : Value) (l0 : List (S71)) (a1 : Int) (r1 : Int) (r2 : List (S71)) (w0 w : World) (hB : Below w0.heap.size w0 w) (ho0 : Kd.R k71 71 w w0.heap.size P0_ u9000_ l0) (h : laws_markFlowS.f k l0 a1 = some (r1,r2)) :
  Calls Try.prog 47 #[u9000_,.int .i64 a1] w fun e w' => e = .returned (.int .i64 r1) ∧ Kd.R k71 71 w' w0.heap.size (fun k_ => (P0_ k_ ∨ w.heap.size ≤ k_)) u9000_ r2 ∧ Below w0.heap.size w0 w' ∧ Kept w w' (fun k_ => P0_ k_):=by
 have HO0:=aMk (show Kd.R k71 71 w w0.heap.size (fun k_ => (P0_ k_ ∨ w.heap.size ≤ k_)) u9000_ l0 from Kd.R_mono ho0 (fun k_ hk => (.inl hk)))
 have HK:=aMk (Kept.refl w (fun k_ => P0_ k_))
 have HW0:=aMk hB.size
 have HB:=aMk hB
 clear hB
 have H : (laws_markFlowS.l0 k l0 a1 0) = some (r1,r2):=h
 clear h
 have H':=aMk H
 clear H
 go_enter Try.func47,Try.ntmps47
 go_wp2
 go_loopg [1,5] k (fun kq v1 v5 w' => ∃ (x0_1 : List (S71)) (x1_1 : Int) (x5_1 : Int),v1 = .int .i64 x1_1 ∧ v5 = .int .i64 x5_1 ∧ Aside0 (laws_markFlowS.l0 kq x0_1 x1_1 x5_1 = some (r1,r2)) ∧ Aside0 (kq ≤ k) ∧ Aside0 (Kd.R k71 71 w' w0.heap.size (fun k_ => (P0_ k_ ∨ w.heap.size ≤ k_)) u9000_ x0_1) ∧ Aside0 (Kept w w' (fun k_ => P0_ k_)) ∧ Aside0 (Below w0.heap.size w0 w'))
 case atStart => exact ⟨(l0),(a1),(0),(by first | rfl|(simp;done)|(simp [*];done)|(simp [ne_nil_b];done)|(simp [ne_nil_b, *];done)),(by first | rfl|(simp;done)|(simp [*];done)|(simp [ne_nil_b];done)|(simp [ne_nil_b, *];done)),H',⟨Nat.le_refl _⟩,⟨by (with_reducible repeat (first|apply Kd.R_alloc|apply Kd.R_drewN|apply Kd.R_drew));exact HO0.out⟩,⟨by repeat (first|(with_reducible first|exact HK.out|apply Kept.alloc|apply Kept.drewN|apply Kept.drew)|exact HK.out)⟩,⟨by repeat (first|(with_reducible first|exact HB.out|apply bwA|apply bwN|apply bw1)|exact HB.out)⟩⟩
 case round =>
  clear H'
  try clear p2
  obtain ⟨x0_1,x1_1,x5_1,rfl,rfl,HA,HK1,HO_0,HK,HB⟩:=hrel
  cases gk with
  | zero => exact absurd HA.out (by simp [laws_markFlowS.l0])
  | succ k1 =>
   have H:=HA.out
   clear HA
   simp only [laws_markFlowS.l0] at H
   by_cases c3 : x5_1 < (x0_1.length : Int)
   ·rw [if_pos c3] at H
    have c3b0 : decide (x5_1 < (x0_1.length : Int)) = true:=decide_eq_true c3
    clear c3
    by_cases c4 : 0 ≤ x5_1
    ·rw [if_pos c4] at H
     have c4b0 : decide (0 ≤ x5_1) = true:=decide_eq_true c4
     clear c4
     obtain ⟨y862,hy862⟩ : ∃ y_ : List (S71),y_ = (x0_1.set (x5_1 : Int).toNat (⟨x1_1,(rd_T71 x0_1 x5_1).f1,(rd_T71 x0_1 x5_1).f2,(rd_T71 x0_1 x5_1).f3,(rd_T71 x0_1 x5_1).f4,(rd_T71 x0_1 x5_1).f5,(rd_T71 x0_1 x5_1).f6,(rd_T71 x0_1 x5_1).f7,(rd_T71 x0_1 x5_1).f8⟩ : S71)):=⟨_,rfl⟩
     replace H : ((laws_markText.f k1 (wrap64 (x1_1 + 1))).bind fun t863 => ((some (y862.set (x5_1 : Int).toNat (⟨(rd_T71 y862 x5_1).f0,t863,(rd_T71 y862 x5_1).f2,(rd_T71 y862 x5_1).f3,(rd_T71 y862 x5_1).f4,(rd_T71 y862 x5_1).f5,(rd_T71 y862 x5_1).f6,(rd_T71 y862 x5_1).f7,(rd_T71 y862 x5_1).f8⟩ : S71) : List (S71))).bind fun y864 => ((some (y864.set (x5_1 : Int).toNat (⟨(rd_T71 y864 x5_1).f0,(rd_T71 y864 x5_1).f1,wrap64 ((wrap64 (x1_1 + 1)) + 1),(rd_T71 y864 x5_1).f3,(rd_T71 y864 x5_1).f4,(rd_T71 y864 x5_1).f5,(rd_T71 y864 x5_1).f6,(rd_T71 y864 x5_1).f7,(rd_T71 y864 x5_1).f8⟩ : S71) : List (S71))).bind fun y865 => ((some (y865.set (x5_1 : Int).toNat (⟨(rd_T71 y865 x5_1).f0,(rd_T71 y865 x5_1).f1,(rd_T71 y865 x5_1).f2,wrap64 ((wrap64 ((wrap64 (x1_1 + 1)) + 1)) + 1),(rd_T71 y865 x5_1).f4,(rd_T71 y865 x5_1).f5,(rd_T71 y865 x5_1).f6,(rd_T71 y865 x5_1).f7,(rd_T71 y865 x5_1).f8⟩ : S71) : List (S71))).bind fun y866 => ((some (y866.set (x5_1 : Int).toNat (⟨(rd_T71 y866 x5_1).f0,(rd_T71 y866 x5_1).f1,(rd_T71 y866 x5_1).f2,(rd_T71 y866 x5_1).f3,wrap64 ((wrap64 ((wrap64 ((wrap64 (x1_1 + 1)) + 1)) + 1)) + 1),(rd_T71 y866 x5_1).f5,(rd_T71 y866 x5_1).f6,(rd_T71 y866 x5_1).f7,(rd_T71 y866 x5_1).f8⟩ : S71) : List (S71))).bind fun y867 => ((some (y867.set (x5_1 : Int).toNat (⟨(rd_T71 y867 x5_1).f0,(rd_T71 y867 x5_1).f1,(rd_T71 y867 x5_1).f2,(rd_T71 y867 x5_1).f3,(rd_T71 y867 x5_1).f4,wrap64 ((wrap64 ((wrap64 ((wrap64 ((wrap64 (x1_1 + 1)) + 1)) + 1)) + 1)) + 1),(rd_T71 y867 x5_1).f6,(rd_T71 y867 x5_1).f7,(rd_T71 y867 x5_1).f8⟩ : S71) : List (S71))).bind fun y868 => ((some (y868.set (x5_1 : Int).toNat (⟨(rd_T71 y868 x5_1).f0,(rd_T71 y868 x5_1).f1,(rd_T71 y868 x5_1).f2,(rd_T71 y868 x5_1).f3,(rd_T71 y868 x5_1).f4,(rd_T71 y868 x5_1).f5,wrap64 ((wrap64 ((wrap64 ((wrap64 ((wrap64 ((wrap64 (x1_1 + 1)) + 1)) + 1)) + 1)) + 1)) + 1),(rd_T71 y868 x5_1).f7,(rd_T71 y868 x5_1).f8⟩ : S71) : List (S71))).bind fun y869 => ((some (y869.set (x5_1 : Int).toNat (⟨(rd_T71 y869 x5_1).f0,(rd_T71 y869 x5_1).f1,(rd_T71 y869 x5_1).f2,(rd_T71 y869 x5_1).f3,(rd_T71 y869 x5_1).f4,(rd_T71 y869 x5_1).f5,(rd_T71 y869 x5_1).f6,wrap64 ((wrap64 ((wrap64 ((wrap64 ((wrap64 ((wrap64 ((wrap64 (x1_1 + 1)) + 1)) + 1)) + 1)) + 1)) + 1)) + 1),(rd_T71 y869 x5_1).f8⟩ : S71) : List (S71))).bind fun y870 => (laws_markFlowS.l0 k1 (y870.set (x5_1 : Int).toNat (⟨(rd_T71 y870 x5_1).f0,(rd_T71 y870 x5_1).f1,(rd_T71 y870 x5_1).f2,(rd_T71 y870 x5_1).f3,(rd_T71 y870 x5_1).f4,(rd_T71 y870 x5_1).f5,(rd_T71 y870 x5_1).f6,(rd_T71 y870 x5_1).f7,wrap64 ((wrap64 ((wrap64 ((wrap64 ((wrap64 ((wrap64 ((wrap64 ((wrap64 (x1_1 + 1)) + 1)) + 1)) + 1)) + 1)) + 1)) + 1)) + 1)⟩ : S71)) (wrap64 ((wrap64 ((wrap64 ((wrap64 ((wrap64 ((wrap64 ((wrap64 ((wrap64 ((wrap64 (x1_1 + 1)) + 1)) + 1)) + 1)) + 1)) + 1)) + 1)) + 1)) + 1)) (wrap64 (x5_1 + 1))))))))))) = some (r1,r2):=by first|(rw [hy862];with_reducible exact H)|(have H2_:=(Option.bind_some _ _).symm.trans H;rw [hy862];with_reducible exact H2_)|(have H2_:=(Option.bind_some _ _).symm.trans H;with_reducible exact H2_) | with_reducible exact H|(rw [hy862];exact H)|exact H
     have Ny862:=aMk hy862
     clear hy862
     replace H:=Option.bind_eq_some_iff.mp H
     obtain ⟨t863,A60,H⟩:=H
     replace H : ((some (y862.set (x5_1 : Int).toNat (⟨(rd_T71 y862 x5_1).f0,t863,(rd_T71 y862 x5_1).f2,(rd_T71 y862 x5_1).f3,(rd_T71 y862 x5_1).f4,(rd_T71 y862 x5_1).f5,(rd_T71 y862 x5_1).f6,(rd_T71 y862 x5_1).f7,(rd_T71 y862 x5_1).f8⟩ : S71) : List (S71))).bind fun y864 => ((some (y864.set (x5_1 : Int).toNat (⟨(rd_T71 y864 x5_1).f0,(rd_T71 y864 x5_1).f1,wrap64 ((wrap64 (x1_1 + 1)) + 1),(rd_T71 y864 x5_1).f3,(rd_T71 y864 x5_1).f4,(rd_T71 y864 x5_1).f5,(rd_T71 y864 x5_1).f6,(rd_T71 y864 x5_1).f7,(rd_T71 y864 x5_1).f8⟩ : S71) : List (S71))).bind fun y865 => ((some (y865.set (x5_1 : Int).toNat (⟨(rd_T71 y865 x5_1).f0,(rd_T71 y865 x5_1).f1,(rd_T71 y865 x5_1).f2,wrap64 ((wrap64 ((wrap64 (x1_1 + 1)) + 1)) + 1),(rd_T71 y865 x5_1).f4,(rd_T71 y865 x5_1).f5,(rd_T71 y865 x5_1).f6,(rd_T71 y865 x5_1).f7,(rd_T71 y865 x5_1).f8⟩ : S71) : List (S71))).bind fun y866 => ((some (y866.set (x5_1 : Int).toNat (⟨(rd_T71 y866 x5_1).f0,(rd_T71 y866 x5_1).f1,(rd_T71 y866 x5_1).f2,(rd_T71 y866 x5_1).f3,wrap64 ((wrap64 ((wrap64 ((wrap64 (x1_1 + 1)) + 1)) + 1)) + 1),(rd_T71 y866 x5_1).f5,(rd_T71 y866 x5_1).f6,(rd_T71 y866 x5_1).f7,(rd_T71 y866 x5_1).f8⟩ : S71) : List (S71))).bind fun y867 => ((some (y867.set (x5_1 : Int).toNat (⟨(rd_T71 y867 x5_1).f0,(rd_T71 y867 x5_1).f1,(rd_T71 y867 x5_1).f2,(rd_T71 y867 x5_1).f3,(rd_T71 y867 x5_1).f4,wrap64 ((wrap64 ((wrap64 ((wrap64 ((wrap64 (x1_1 + 1)) + 1)) + 1)) + 1)) + 1),(rd_T71 y867 x5_1).f6,(rd_T71 y867 x5_1).f7,(rd_T71 y867 x5_1).f8⟩ : S71) : List (S71))).bind fun y868 => ((some (y868.set (x5_1 : Int).toNat (⟨(rd_T71 y868 x5_1).f0,(rd_T71 y868 x5_1).f1,(rd_T71 y868 x5_1).f2,(rd_T71 y868 x5_1).f3,(rd_T71 y868 x5_1).f4,(rd_T71 y868 x5_1).f5,wrap64 ((wrap64 ((wrap64 ((wrap64 ((wrap64 ((wrap64 (x1_1 + 1)) + 1)) + 1)) + 1)) + 1)) + 1),(rd_T71 y868 x5_1).f7,(rd_T71 y868 x5_1).f8⟩ : S71) : List (S71))).bind fun y869 => ((some (y869.set (x5_1 : Int).toNat (⟨(rd_T71 y869 x5_1).f0,(rd_T71 y869 x5_1).f1,(rd_T71 y869 x5_1).f2,(rd_T71 y869 x5_1).f3,(rd_T71 y869 x5_1).f4,(rd_T71 y869 x5_1).f5,(rd_T71 y869 x5_1).f6,wrap64 ((wrap64 ((wrap64 ((wrap64 ((wrap64 ((wrap64 ((wrap64 (x1_1 + 1)) + 1)) + 1)) + 1)) + 1)) + 1)) + 1),(rd_T71 y869 x5_1).f8⟩ : S71) : List (S71))).bind fun y870 => (laws_markFlowS.l0 k1 (y870.set (x5_1 : Int).toNat (⟨(rd_T71 y870 x5_1).f0,(rd_T71 y870 x5_1).f1,(rd_T71 y870 x5_1).f2,(rd_T71 y870 x5_1).f3,(rd_T71 y870 x5_1).f4,(rd_T71 y870 x5_1).f5,(rd_T71 y870 x5_1).f6,(rd_T71 y870 x5_1).f7,wrap64 ((wrap64 ((wrap64 ((wrap64 ((wrap64 ((wrap64 ((wrap64 ((wrap64 (x1_1 + 1)) + 1)) + 1)) + 1)) + 1)) + 1)) + 1)) + 1)⟩ : S71)) (wrap64 ((wrap64 ((wrap64 ((wrap64 ((wrap64 ((wrap64 ((wrap64 ((wrap64 ((wrap64 (x1_1 + 1)) + 1)) + 1)) + 1)) + 1)) + 1)) + 1)) + 1)) + 1)) (wrap64 (x5_1 + 1)))))))))) = some (r1,r2):=H
     have A6:=aMk A60
     clear A60
     obtain ⟨y864,hy864⟩ : ∃ y_ : List (S71),y_ = (y862.set (x5_1 : Int).toNat (⟨(rd_T71 y862 x5_1).f0,t863,(rd_T71 y862 x5_1).f2,(rd_T71 y862 x5_1).f3,(rd_T71 y862 x5_1).f4,(rd_T71 y862 x5_1).f5,(rd_T71 y862 x5_1).f6,(rd_T71 y862 x5_1).f7,(rd_T71 y862 x5_1).f8⟩ : S71)):=⟨_,rfl⟩
     replace H : ((some (y864.set (x5_1 : Int).toNat (⟨(rd_T71 y864 x5_1).f0,(rd_T71 y864 x5_1).f1,wrap64 ((wrap64 (x1_1 + 1)) + 1),(rd_T71 y864 x5_1).f3,(rd_T71 y864 x5_1).f4,(rd_T71 y864 x5_1).f5,(rd_T71 y864 x5_1).f6,(rd_T71 y864 x5_1).f7,(rd_T71 y864 x5_1).f8⟩ : S71) : List (S71))).bind fun y865 => ((some (y865.set (x5_1 : Int).toNat (⟨(rd_T71 y865 x5_1).f0,(rd_T71 y865 x5_1).f1,(rd_T71 y865 x5_1).f2,wrap64 ((wrap64 ((wrap64 (x1_1 + 1)) + 1)) + 1),(rd_T71 y865 x5_1).f4,(rd_T71 y865 x5_1).f5,(rd_T71 y865 x5_1).f6,(rd_T71 y865 x5_1).f7,(rd_T71 y865 x5_1).f8⟩ : S71) : List (S71))).bind fun y866 => ((some (y866.set (x5_1 : Int).toNat (⟨(rd_T71 y866 x5_1).f0,(rd_T71 y866 x5_1).f1,(rd_T71 y866 x5_1).f2,(rd_T71 y866 x5_1).f3,wrap64 ((wrap64 ((wrap64 ((wrap64 (x1_1 + 1)) + 1)) + 1)) + 1),(rd_T71 y866 x5_1).f5,(rd_T71 y866 x5_1).f6,(rd_T71 y866 x5_1).f7,(rd_T71 y866 x5_1).f8⟩ : S71) : List (S71))).bind fun y867 => ((some (y867.set (x5_1 : Int).toNat (⟨(rd_T71 y867 x5_1).f0,(rd_T71 y867 x5_1).f1,(rd_T71 y867 x5_1).f2,(rd_T71 y867 x5_1).f3,(rd_T71 y867 x5_1).f4,wrap64 ((wrap64 ((wrap64 ((wrap64 ((wrap64 (x1_1 + 1)) + 1)) + 1)) + 1)) + 1),(rd_T71 y867 x5_1).f6,(rd_T71 y867 x5_1).f7,(rd_T71 y867 x5_1).f8⟩ : S71) : List (S71))).bind fun y868 => ((some (y868.set (x5_1 : Int).toNat (⟨(rd_T71 y868 x5_1).f0,(rd_T71 y868 x5_1).f1,(rd_T71 y868 x5_1).f2,(rd_T71 y868 x5_1).f3,(rd_T71 y868 x5_1).f4,(rd_T71 y868 x5_1).f5,wrap64 ((wrap64 ((wrap64 ((wrap64 ((wrap64 ((wrap64 (x1_1 + 1)) + 1)) + 1)) + 1)) + 1)) + 1),(rd_T71 y868 x5_1).f7,(rd_T71 y868 x5_1).f8⟩ : S71) : List (S71))).bind fun y869 => ((some (y869.set (x5_1 : Int).toNat (⟨(rd_T71 y869 x5_1).f0,(rd_T71 y869 x5_1).f1,(rd_T71 y869 x5_1).f2,(rd_T71 y869 x5_1).f3,(rd_T71 y869 x5_1).f4,(rd_T71 y869 x5_1).f5,(rd_T71 y869 x5_1).f6,wrap64 ((wrap64 ((wrap64 ((wrap64 ((wrap64 ((wrap64 ((wrap64 (x1_1 + 1)) + 1)) + 1)) + 1)) + 1)) + 1)) + 1),(rd_T71 y869 x5_1).f8⟩ : S71) : List (S71))).bind fun y870 => (laws_markFlowS.l0 k1 (y870.set (x5_1 : Int).toNat (⟨(rd_T71 y870 x5_1).f0,(rd_T71 y870 x5_1).f1,(rd_T71 y870 x5_1).f2,(rd_T71 y870 x5_1).f3,(rd_T71 y870 x5_1).f4,(rd_T71 y870 x5_1).f5,(rd_T71 y870 x5_1).f6,(rd_T71 y870 x5_1).f7,wrap64 ((wrap64 ((wrap64 ((wrap64 ((wrap64 ((wrap64 ((wrap64 ((wrap64 (x1_1 + 1)) + 1)) + 1)) + 1)) + 1)) + 1)) + 1)) + 1)⟩ : S71)) (wrap64 ((wrap64 ((wrap64 ((wrap64 ((wrap64 ((wrap64 ((wrap64 ((wrap64 ((wrap64 (x1_1 + 1)) + 1)) + 1)) + 1)) + 1)) + 1)) + 1)) + 1)) + 1)) (wrap64 (x5_1 + 1))))))))) = some (r1,r2):=by first|(rw [hy864];with_reducible exact H)|(have H2_:=(Option.bind_some _ _).symm.trans H;rw [hy864];with_reducible exact H2_)|(have H2_:=(Option.bind_some _ _).symm.trans H;with_reducible exact H2_) | with_reducible exact H|(rw [hy864];exact H)|exact H
     have Ny864:=aMk hy864
     clear hy864
     obtain ⟨y865,hy865⟩ : ∃ y_ : List (S71),y_ = (y864.set (x5_1 : Int).toNat (⟨(rd_T71 y864 x5_1).f0,(rd_T71 y864 x5_1).f1,wrap64 ((wrap64 (x1_1 + 1)) + 1),(rd_T71 y864 x5_1).f3,(rd_T71 y864 x5_1).f4,(rd_T71 y864 x5_1).f5,(rd_T71 y864 x5_1).f6,(rd_T71 y864 x5_1).f7,(rd_T71 y864 x5_1).f8⟩ : S71)):=⟨_,rfl⟩
     replace H : ((some (y865.set (x5_1 : Int).toNat (⟨(rd_T71 y865 x5_1).f0,(rd_T71 y865 x5_1).f1,(rd_T71 y865 x5_1).f2,wrap64 ((wrap64 ((wrap64 (x1_1 + 1)) + 1)) + 1),(rd_T71 y865 x5_1).f4,(rd_T71 y865 x5_1).f5,(rd_T71 y865 x5_1).f6,(rd_T71 y865 x5_1).f7,(rd_T71 y865 x5_1).f8⟩ : S71) : List (S71))).bind fun y866 => ((some (y866.set (x5_1 : Int).toNat (⟨(rd_T71 y866 x5_1).f0,(rd_T71 y866 x5_1).f1,(rd_T71 y866 x5_1).f2,(rd_T71 y866 x5_1).f3,wrap64 ((wrap64 ((wrap64 ((wrap64 (x1_1 + 1)) + 1)) + 1)) + 1),(rd_T71 y866 x5_1).f5,(rd_T71 y866 x5_1).f6,(rd_T71 y866 x5_1).f7,(rd_T71 y866 x5_1).f8⟩ : S71) : List (S71))).bind fun y867 => ((some (y867.set (x5_1 : Int).toNat (⟨(rd_T71 y867 x5_1).f0,(rd_T71 y867 x5_1).f1,(rd_T71 y867 x5_1).f2,(rd_T71 y867 x5_1).f3,(rd_T71 y867 x5_1).f4,wrap64 ((wrap64 ((wrap64 ((wrap64 ((wrap64 (x1_1 + 1)) + 1)) + 1)) + 1)) + 1),(rd_T71 y867 x5_1).f6,(rd_T71 y867 x5_1).f7,(rd_T71 y867 x5_1).f8⟩ : S71) : List (S71))).bind fun y868 => ((some (y868.set (x5_1 : Int).toNat (⟨(rd_T71 y868 x5_1).f0,(rd_T71 y868 x5_1).f1,(rd_T71 y868 x5_1).f2,(rd_T71 y868 x5_1).f3,(rd_T71 y868 x5_1).f4,(rd_T71 y868 x5_1).f5,wrap64 ((wrap64 ((wrap64 ((wrap64 ((wrap64 ((wrap64 (x1_1 + 1)) + 1)) + 1)) + 1)) + 1)) + 1),(rd_T71 y868 x5_1).f7,(rd_T71 y868 x5_1).f8⟩ : S71) : List (S71))).bind fun y869 => ((some (y869.set (x5_1 : Int).toNat (⟨(rd_T71 y869 x5_1).f0,(rd_T71 y869 x5_1).f1,(rd_T71 y869 x5_1).f2,(rd_T71 y869 x5_1).f3,(rd_T71 y869 x5_1).f4,(rd_T71 y869 x5_1).f5,(rd_T71 y869 x5_1).f6,wrap64 ((wrap64 ((wrap64 ((wrap64 ((wrap64 ((wrap64 ((wrap64 (x1_1 + 1)) + 1)) + 1)) + 1)) + 1)) + 1)) + 1),(rd_T71 y869 x5_1).f8⟩ : S71) : List (S71))).bind fun y870 => (laws_markFlowS.l0 k1 (y870.set (x5_1 : Int).toNat (⟨(rd_T71 y870 x5_1).f0,(rd_T71 y870 x5_1).f1,(rd_T71 y870 x5_1).f2,(rd_T71 y870 x5_1).f3,(rd_T71 y870 x5_1).f4,(rd_T71 y870 x5_1).f5,(rd_T71 y870 x5_1).f6,(rd_T71 y870 x5_1).f7,wrap64 ((wrap64 ((wrap64 ((wrap64 ((wrap64 ((wrap64 ((wrap64 ((wrap64 (x1_1 + 1)) + 1)) + 1)) + 1)) + 1)) + 1)) + 1)) + 1)⟩ : S71)) (wrap64 ((wrap64 ((wrap64 ((wrap64 ((wrap64 ((wrap64 ((wrap64 ((wrap64 ((wrap64 (x1_1 + 1)) + 1)) + 1)) + 1)) + 1)) + 1)) + 1)) + 1)) + 1)) (wrap64 (x5_1 + 1)))))))) = some (r1,r2):=by first|(rw [hy865];with_reducible exact H)|(have H2_:=(Option.bind_some _ _).symm.trans H;rw [hy865];with_reducible exact H2_)|(have H2_:=(Option.bind_some _ _).symm.trans H;with_reducible exact H2_) | with_reducible exact H|(rw [hy865];exact H)|exact H
     have Ny865:=aMk hy865
     clear hy865
     obtain ⟨y866,hy866⟩ : ∃ y_ : List (S71),y_ = (y865.set (x5_1 : Int).toNat (⟨(rd_T71 y865 x5_1).f0,(rd_T71 y865 x5_1).f1,(rd_T71 y865 x5_1).f2,wrap64 ((wrap64 ((wrap64 (x1_1 + 1)) + 1)) + 1),(rd_T71 y865 x5_1).f4,(rd_T71 y865 x5_1).f5,(rd_T71 y865 x5_1).f6,(rd_T71 y865 x5_1).f7,(rd_T71 y865 x5_1).f8⟩ : S71)):=⟨_,rfl⟩
     replace H : ((some (y866.set (x5_1 : Int).toNat (⟨(rd_T71 y866 x5_1).f0,(rd_T71 y866 x5_1).f1,(rd_T71 y866 x5_1).f2,(rd_T71 y866 x5_1).f3,wrap64 ((wrap64 ((wrap64 ((wrap64 (x1_1 + 1)) + 1)) + 1)) + 1),(rd_T71 y866 x5_1).f5,(rd_T71 y866 x5_1).f6,(rd_T71 y866 x5_1).f7,(rd_T71 y866 x5_1).f8⟩ : S71) : List (S71))).bind fun y867 => ((some (y867.set (x5_1 : Int).toNat (⟨(rd_T71 y867 x5_1).f0,(rd_T71 y867 x5_1).f1,(rd_T71 y867 x5_1).f2,(rd_T71 y867 x5_1).f3,(rd_T71 y867 x5_1).f4,wrap64 ((wrap64 ((wrap64 ((wrap64 ((wrap64 (x1_1 + 1)) + 1)) + 1)) + 1)) + 1),(rd_T71 y867 x5_1).f6,(rd_T71 y867 x5_1).f7,(rd_T71 y867 x5_1).f8⟩ : S71) : List (S71))).bind fun y868 => ((some (y868.set (x5_1 : Int).toNat (⟨(rd_T71 y868 x5_1).f0,(rd_T71 y868 x5_1).f1,(rd_T71 y868 x5_1).f2,(rd_T71 y868 x5_1).f3,(rd_T71 y868 x5_1).f4,(rd_T71 y868 x5_1).f5,wrap64 ((wrap64 ((wrap64 ((wrap64 ((wrap64 ((wrap64 (x1_1 + 1)) + 1)) + 1)) + 1)) + 1)) + 1),(rd_T71 y868 x5_1).f7,(rd_T71 y868 x5_1).f8⟩ : S71) : List (S71))).bind fun y869 => ((some (y869.set (x5_1 : Int).toNat (⟨(rd_T71 y869 x5_1).f0,(rd_T71 y869 x5_1).f1,(rd_T71 y869 x5_1).f2,(rd_T71 y869 x5_1).f3,(rd_T71 y869 x5_1).f4,(rd_T71 y869 x5_1).f5,(rd_T71 y869 x5_1).f6,wrap64 ((wrap64 ((wrap64 ((wrap64 ((wrap64 ((wrap64 ((wrap64 (x1_1 + 1)) + 1)) + 1)) + 1)) + 1)) + 1)) + 1),(rd_T71 y869 x5_1).f8⟩ : S71) : List (S71))).bind fun y870 => (laws_markFlowS.l0 k1 (y870.set (x5_1 : Int).toNat (⟨(rd_T71 y870 x5_1).f0,(rd_T71 y870 x5_1).f1,(rd_T71 y870 x5_1).f2,(rd_T71 y870 x5_1).f3,(rd_T71 y870 x5_1).f4,(rd_T71 y870 x5_1).f5,(rd_T71 y870 x5_1).f6,(rd_T71 y870 x5_1).f7,wrap64 ((wrap64 ((wrap64 ((wrap64 ((wrap64 ((wrap64 ((wrap64 ((wrap64 (x1_1 + 1)) + 1)) + 1)) + 1)) + 1)) + 1)) + 1)) + 1)⟩ : S71)) (wrap64 ((wrap64 ((wrap64 ((wrap64 ((wrap64 ((wrap64 ((wrap64 ((wrap64 ((wrap64 (x1_1 + 1)) + 1)) + 1)) + 1)) + 1)) + 1)) + 1)) + 1)) + 1)) (wrap64 (x5_1 + 1))))))) = some (r1,r2):=by first|(rw [hy866];with_reducible exact H)|(have H2_:=(Option.bind_some _ _).symm.trans H;rw [hy866];with_reducible exact H2_)|(have H2_:=(Option.bind_some _ _).symm.trans H;with_reducible exact H2_) | with_reducible exact H|(rw [hy866];exact H)|exact H
     have Ny866:=aMk hy866
     clear hy866
     obtain ⟨y867,hy867⟩ : ∃ y_ : List (S71),y_ = (y866.set (x5_1 : Int).toNat (⟨(rd_T71 y866 x5_1).f0,(rd_T71 y866 x5_1).f1,(rd_T71 y866 x5_1).f2,(rd_T71 y866 x5_1).f3,wrap64 ((wrap64 ((wrap64 ((wrap64 (x1_1 + 1)) + 1)) + 1)) + 1),(rd_T71 y866 x5_1).f5,(rd_T71 y866 x5_1).f6,(rd_T71 y866 x5_1).f7,(rd_T71 y866 x5_1).f8⟩ : S71)):=⟨_,rfl⟩
     replace H : ((some (y867.set (x5_1 : Int).toNat (⟨(rd_T71 y867 x5_1).f0,(rd_T71 y867 x5_1).f1,(rd_T71 y867 x5_1).f2,(rd_T71 y867 x5_1).f3,(rd_T71 y867 x5_1).f4,wrap64 ((wrap64 ((wrap64 ((wrap64 ((wrap64 (x1_1 + 1)) + 1)) + 1)) + 1)) + 1),(rd_T71 y867 x5_1).f6,(rd_T71 y867 x5_1).f7,(rd_T71 y867 x5_1).f8⟩ : S71) : List (S71))).bind fun y868 => ((some (y868.set (x5_1 : Int).toNat (⟨(rd_T71 y868 x5_1).f0,(rd_T71 y868 x5_1).f1,(rd_T71 y868 x5_1).f2,(rd_T71 y868 x5_1).f3,(rd_T71 y868 x5_1).f4,(rd_T71 y868 x5_1).f5,wrap64 ((wrap64 ((wrap64 ((wrap64 ((wrap64 ((wrap64 (x1_1 + 1)) + 1)) + 1)) + 1)) + 1)) + 1),(rd_T71 y868 x5_1).f7,(rd_T71 y868 x5_1).f8⟩ : S71) : List (S71))).bind fun y869 => ((some (y869.set (x5_1 : Int).toNat (⟨(rd_T71 y869 x5_1).f0,(rd_T71 y869 x5_1).f1,(rd_T71 y869 x5_1).f2,(rd_T71 y869 x5_1).f3,(rd_T71 y869 x5_1).f4,(rd_T71 y869 x5_1).f5,(rd_T71 y869 x5_1).f6,wrap64 ((wrap64 ((wrap64 ((wrap64 ((wrap64 ((wrap64 ((wrap64 (x1_1 + 1)) + 1)) + 1)) + 1)) + 1)) + 1)) + 1),(rd_T71 y869 x5_1).f8⟩ : S71) : List (S71))).bind fun y870 => (laws_markFlowS.l0 k1 (y870.set (x5_1 : Int).toNat (⟨(rd_T71 y870 x5_1).f0,(rd_T71 y870 x5_1).f1,(rd_T71 y870 x5_1).f2,(rd_T71 y870 x5_1).f3,(rd_T71 y870 x5_1).f4,(rd_T71 y870 x5_1).f5,(rd_T71 y870 x5_1).f6,(rd_T71 y870 x5_1).f7,wrap64 ((wrap64 ((wrap64 ((wrap64 ((wrap64 ((wrap64 ((wrap64 ((wrap64 (x1_1 + 1)) + 1)) + 1)) + 1)) + 1)) + 1)) + 1)) + 1)⟩ : S71)) (wrap64 ((wrap64 ((wrap64 ((wrap64 ((wrap64 ((wrap64 ((wrap64 ((wrap64 ((wrap64 (x1_1 + 1)) + 1)) + 1)) + 1)) + 1)) + 1)) + 1)) + 1)) + 1)) (wrap64 (x5_1 + 1)))))) = some (r1,r2):=by first|(rw [hy867];with_reducible exact H)|(have H2_:=(Option.bind_some _ _).symm.trans H;rw [hy867];with_reducible exact H2_)|(have H2_:=(Option.bind_some _ _).symm.trans H;with_reducible exact H2_) | with_reducible exact H|(rw [hy867];exact H)|exact H
     have Ny867:=aMk hy867
     clear hy867
     obtain ⟨y868,hy868⟩ : ∃ y_ : List (S71),y_ = (y867.set (x5_1 : Int).toNat (⟨(rd_T71 y867 x5_1).f0,(rd_T71 y867 x5_1).f1,(rd_T71 y867 x5_1).f2,(rd_T71 y867 x5_1).f3,(rd_T71 y867 x5_1).f4,wrap64 ((wrap64 ((wrap64 ((wrap64 ((wrap64 (x1_1 + 1)) + 1)) + 1)) + 1)) + 1),(rd_T71 y867 x5_1).f6,(rd_T71 y867 x5_1).f7,(rd_T71 y867 x5_1).f8⟩ : S71)):=⟨_,rfl⟩
     replace H : ((some (y868.set (x5_1 : Int).toNat (⟨(rd_T71 y868 x5_1).f0,(rd_T71 y868 x5_1).f1,(rd_T71 y868 x5_1).f2,(rd_T71 y868 x5_1).f3,(rd_T71 y868 x5_1).f4,(rd_T71 y868 x5_1).f5,wrap64 ((wrap64 ((wrap64 ((wrap64 ((wrap64 ((wrap64 (x1_1 + 1)) + 1)) + 1)) + 1)) + 1)) + 1),(rd_T71 y868 x5_1).f7,(rd_T71 y868 x5_1).f8⟩ : S71) : List (S71))).bind fun y869 => ((some (y869.set (x5_1 : Int).toNat (⟨(rd_T71 y869 x5_1).f0,(rd_T71 y869 x5_1).f1,(rd_T71 y869 x5_1).f2,(rd_T71 y869 x5_1).f3,(rd_T71 y869 x5_1).f4,(rd_T71 y869 x5_1).f5,(rd_T71 y869 x5_1).f6,wrap64 ((wrap64 ((wrap64 ((wrap64 ((wrap64 ((wrap64 ((wrap64 (x1_1 + 1)) + 1)) + 1)) + 1)) + 1)) + 1)) + 1),(rd_T71 y869 x5_1).f8⟩ : S71) : List (S71))).bind fun y870 => (laws_markFlowS.l0 k1 (y870.set (x5_1 : Int).toNat (⟨(rd_T71 y870 x5_1).f0,(rd_T71 y870 x5_1).f1,(rd_T71 y870 x5_1).f2,(rd_T71 y870 x5_1).f3,(rd_T71 y870 x5_1).f4,(rd_T71 y870 x5_1).f5,(rd_T71 y870 x5_1).f6,(rd_T71 y870 x5_1).f7,wrap64 ((wrap64 ((wrap64 ((wrap64 ((wrap64 ((wrap64 ((wrap64 ((wrap64 (x1_1 + 1)) + 1)) + 1)) + 1)) + 1)) + 1)) + 1)) + 1)⟩ : S71)) (wrap64 ((wrap64 ((wrap64 ((wrap64 ((wrap64 ((wrap64 ((wrap64 ((wrap64 ((wrap64 (x1_1 + 1)) + 1)) + 1)) + 1)) + 1)) + 1)) + 1)) + 1)) + 1)) (wrap64 (x5_1 + 1))))) = some (r1,r2):=by first|(rw [hy868];with_reducible exact H)|(have H2_:=(Option.bind_some _ _).symm.trans H;rw [hy868];with_reducible exact H2_)|(have H2_:=(Option.bind_some _ _).symm.trans H;with_reducible exact H2_) | with_reducible exact H|(rw [hy868];exact H)|exact H
     have Ny868:=aMk hy868
     clear hy868
     obtain ⟨y869,hy869⟩ : ∃ y_ : List (S71),y_ = (y868.set (x5_1 : Int).toNat (⟨(rd_T71 y868 x5_1).f0,(rd_T71 y868 x5_1).f1,(rd_T71 y868 x5_1).f2,(rd_T71 y868 x5_1).f3,(rd_T71 y868 x5_1).f4,(rd_T71 y868 x5_1).f5,wrap64 ((wrap64 ((wrap64 ((wrap64 ((wrap64 ((wrap64 (x1_1 + 1)) + 1)) + 1)) + 1)) + 1)) + 1),(rd_T71 y868 x5_1).f7,(rd_T71 y868 x5_1).f8⟩ : S71)):=⟨_,rfl⟩
     replace H : ((some (y869.set (x5_1 : Int).toNat (⟨(rd_T71 y869 x5_1).f0,(rd_T71 y869 x5_1).f1,(rd_T71 y869 x5_1).f2,(rd_T71 y869 x5_1).f3,(rd_T71 y869 x5_1).f4,(rd_T71 y869 x5_1).f5,(rd_T71 y869 x5_1).f6,wrap64 ((wrap64 ((wrap64 ((wrap64 ((wrap64 ((wrap64 ((wrap64 (x1_1 + 1)) + 1)) + 1)) + 1)) + 1)) + 1)) + 1),(rd_T71 y869 x5_1).f8⟩ : S71) : List (S71))).bind fun y870 => (laws_markFlowS.l0 k1 (y870.set (x5_1 : Int).toNat (⟨(rd_T71 y870 x5_1).f0,(rd_T71 y870 x5_1).f1,(rd_T71 y870 x5_1).f2,(rd_T71 y870 x5_1).f3,(rd_T71 y870 x5_1).f4,(rd_T71 y870 x5_1).f5,(rd_T71 y870 x5_1).f6,(rd_T71 y870 x5_1).f7,wrap64 ((wrap64 ((wrap64 ((wrap64 ((wrap64 ((wrap64 ((wrap64 ((wrap64 (x1_1 + 1)) + 1)) + 1)) + 1)) + 1)) + 1)) + 1)) + 1)⟩ : S71)) (wrap64 ((wrap64 ((wrap64 ((wrap64 ((wrap64 ((wrap64 ((wrap64 ((wrap64 ((wrap64 (x1_1 + 1)) + 1)) + 1)) + 1)) + 1)) + 1)) + 1)) + 1)) + 1)) (wrap64 (x5_1 + 1)))) = some (r1,r2):=by first|(rw [hy869];with_reducible exact H)|(have H2_:=(Option.bind_some _ _).symm.trans H;rw [hy869];with_reducible exact H2_)|(have H2_:=(Option.bind_some _ _).symm.trans H;with_reducible exact H2_) | with_reducible exact H|(rw [hy869];exact H)|exact H
     have Ny869:=aMk hy869
     clear hy869
     obtain ⟨y870,hy870⟩ : ∃ y_ : List (S71),y_ = (y869.set (x5_1 : Int).toNat (⟨(rd_T71 y869 x5_1).f0,(rd_T71 y869 x5_1).f1,(rd_T71 y869 x5_1).f2,(rd_T71 y869 x5_1).f3,(rd_T71 y869 x5_1).f4,(rd_T71 y869 x5_1).f5,(rd_T71 y869 x5_1).f6,wrap64 ((wrap64 ((wrap64 ((wrap64 ((wrap64 ((wrap64 ((wrap64 (x1_1 + 1)) + 1)) + 1)) + 1)) + 1)) + 1)) + 1),(rd_T71 y869 x5_1).f8⟩ : S71)):=⟨_,rfl⟩
     replace H : (laws_markFlowS.l0 k1 (y870.set (x5_1 : Int).toNat (⟨(rd_T71 y870 x5_1).f0,(rd_T71 y870 x5_1).f1,(rd_T71 y870 x5_1).f2,(rd_T71 y870 x5_1).f3,(rd_T71 y870 x5_1).f4,(rd_T71 y870 x5_1).f5,(rd_T71 y870 x5_1).f6,(rd_T71 y870 x5_1).f7,wrap64 ((wrap64 ((wrap64 ((wrap64 ((wrap64 ((wrap64 ((wrap64 ((wrap64 (x1_1 + 1)) + 1)) + 1)) + 1)) + 1)) + 1)) + 1)) + 1)⟩ : S71)) (wrap64 ((wrap64 ((wrap64 ((wrap64 ((wrap64 ((wrap64 ((wrap64 ((wrap64 ((wrap64 (x1_1 + 1)) + 1)) + 1)) + 1)) + 1)) + 1)) + 1)) + 1)) + 1)) (wrap64 (x5_1 + 1))) = some (r1,r2):=by first|(rw [hy870];with_reducible exact H)|(have H2_:=(Option.bind_some _ _).symm.trans H;rw [hy870];with_reducible exact H2_)|(have H2_:=(Option.bind_some _ _).symm.trans H;with_reducible exact H2_) | with_reducible exact H|(rw [hy870];exact H)|exact H
     have Ny870:=aMk hy870
     clear hy870
     obtain ⟨y871,hy871⟩ : ∃ y_ : List (S71),y_ = (y870.set (x5_1 : Int).toNat (⟨(rd_T71 y870 x5_1).f0,(rd_T71 y870 x5_1).f1,(rd_T71 y870 x5_1).f2,(rd_T71 y870 x5_1).f3,(rd_T71 y870 x5_1).f4,(rd_T71 y870 x5_1).f5,(rd_T71 y870 x5_1).f6,(rd_T71 y870 x5_1).f7,wrap64 ((wrap64 ((wrap64 ((wrap64 ((wrap64 ((wrap64 ((wrap64 ((wrap64 (x1_1 + 1)) + 1)) + 1)) + 1)) + 1)) + 1)) + 1)) + 1)⟩ : S71)):=⟨_,rfl⟩
     replace H : (laws_markFlowS.l0 k1 y871 (wrap64 ((wrap64 ((wrap64 ((wrap64 ((wrap64 ((wrap64 ((wrap64 ((wrap64 ((wrap64 (x1_1 + 1)) + 1)) + 1)) + 1)) + 1)) + 1)) + 1)) + 1)) + 1)) (wrap64 (x5_1 + 1))) = some (r1,r2):=by first|(rw [hy871];with_reducible exact H)|(have H2_:=(Option.bind_some _ _).symm.trans H;rw [hy871];with_reducible exact H2_)|(have H2_:=(Option.bind_some _ _).symm.trans H;with_reducible exact H2_) | with_reducible exact H|(rw [hy871];exact H)|exact H
     have Ny871:=aMk hy871
     clear hy871
     have H':=aMk H
     clear H
     obtain ⟨Ao15,co15,eo15⟩:=Kd.R_slice HO_0.out
     subst eo15
     have p5 : 0 ≤ (x5_1 : Int):=of_decide_eq_true (by first|(with_reducible assumption) | assumption)
     have q5 : (x5_1 : Int) < ((x0_1.length : Int) : Int):=of_decide_eq_true (by first|(with_reducible assumption) | assumption)
     obtain ⟨go5,co5,eo5,gb5,gl5,cl5,HG5⟩:=Kd.R_form HO_0.out (by omega)
     (first|cases eo5|(injection eo5 with ea_ en_ ec_;(first|subst ea_|(injection ea_ with ea_;subst ea_));subst ec_;clear en_))
     have GB5:=aMk gb5
     have GG5:=aMk HG5
     clear gb5 gl5 HG5
     have HMgo5:=aMk (show (P0_ go5 ∨ w.heap.size ≤ go5) from (HO_0.out.1 _ rfl))
     obtain ⟨ce5,hcl5,hM5,hcc5,hfr5⟩:=Kd.R_elem HO_0.out z71 (x5_1 : Int) p5 q5
     obtain rfl:=k71_openM hM5
     have hx5_0 : wr.cell? ⟨go5,(x5_1 : Int).toNat * 9,none⟩ = some (.int .i64 ((rd_T71 x0_1 x5_1).f0)):=hcc5 0 _ rfl
     have hx5_1 : wr.cell? ⟨go5,(x5_1 : Int).toNat * 9 + 1,none⟩ = some (.string ((rd_T71 x0_1 x5_1).f1)):=hcc5 1 _ rfl
     have hx5_2 : wr.cell? ⟨go5,(x5_1 : Int).toNat * 9 + 2,none⟩ = some (.int .i64 ((rd_T71 x0_1 x5_1).f2)):=hcc5 2 _ rfl
     have hx5_3 : wr.cell? ⟨go5,(x5_1 : Int).toNat * 9 + 3,none⟩ = some (.int .i64 ((rd_T71 x0_1 x5_1).f3)):=hcc5 3 _ rfl
     have hx5_4 : wr.cell? ⟨go5,(x5_1 : Int).toNat * 9 + 4,none⟩ = some (.int .i64 ((rd_T71 x0_1 x5_1).f4)):=hcc5 4 _ rfl
     have hx5_5 : wr.cell? ⟨go5,(x5_1 : Int).toNat * 9 + 5,none⟩ = some (.int .i64 ((rd_T71 x0_1 x5_1).f5)):=hcc5 5 _ rfl
     have hx5_6 : wr.cell? ⟨go5,(x5_1 : Int).toNat * 9 + 6,none⟩ = some (.int .i64 ((rd_T71 x0_1 x5_1).f6)):=hcc5 6 _ rfl
     have hx5_7 : wr.cell? ⟨go5,(x5_1 : Int).toNat * 9 + 7,none⟩ = some (.int .i64 ((rd_T71 x0_1 x5_1).f7)):=hcc5 7 _ rfl
     have hx5_8 : wr.cell? ⟨go5,(x5_1 : Int).toNat * 9 + 8,none⟩ = some (.int .i64 ((rd_T71 x0_1 x5_1).f8)):=hcc5 8 _ rfl
     have hf5_0 : wr.frozen? ⟨go5,(x5_1 : Int).toNat * 9,none⟩ = false:=hfr5 0
     have hf5_1 : wr.frozen? ⟨go5,(x5_1 : Int).toNat * 9 + 1,none⟩ = false:=hfr5 1
     have hf5_2 : wr.frozen? ⟨go5,(x5_1 : Int).toNat * 9 + 2,none⟩ = false:=hfr5 2
     have hf5_3 : wr.frozen? ⟨go5,(x5_1 : Int).toNat * 9 + 3,none⟩ = false:=hfr5 3
     have hf5_4 : wr.frozen? ⟨go5,(x5_1 : Int).toNat * 9 + 4,none⟩ = false:=hfr5 4
     have hf5_5 : wr.frozen? ⟨go5,(x5_1 : Int).toNat * 9 + 5,none⟩ = false:=hfr5 5
     have hf5_6 : wr.frozen? ⟨go5,(x5_1 : Int).toNat * 9 + 6,none⟩ = false:=hfr5 6
     have hf5_7 : wr.frozen? ⟨go5,(x5_1 : Int).toNat * 9 + 7,none⟩ = false:=hfr5 7
     have hf5_8 : wr.frozen? ⟨go5,(x5_1 : Int).toNat * 9 + 8,none⟩ = false:=hfr5 8
     clear hcl5 hcc5 hfr5 hM5
     replace p5:=eq_true p5
     replace q5:=eq_true q5
     have HX16:=aMk (show Kd.R k71 71 wr w0.heap.size (fun k_ => (P0_ k_ ∨ w.heap.size ≤ k_)) (.slice (some ⟨go5,0,none⟩) x0_1.length co15) x0_1 from (by (with_reducible repeat (first|apply Kd.R_alloc|apply Kd.R_drewN|apply Kd.R_drew));exact HO_0.out))
     obtain ⟨ce16,hcl16,hM16,hcc16,hfr16⟩:=Kd.R_elem HX16.out z71 (x5_1 : Int) (of_decide_eq_true (by first|(with_reducible assumption) | assumption)) (by have h_ : (x5_1 : Int) < ((x0_1.length : Int) : Int):=of_decide_eq_true (by first|(with_reducible assumption) | assumption);first|exact h_|(have e_:=(Kd.R_reads' HO_0.out).1;omega) | simpa using h_)
     obtain rfl:=k71_openM hM16
     have HP16:=Kd.R_seg HX16.out (x5_1 : Int) (of_decide_eq_true (by first|(with_reducible assumption) | assumption)) (by have h_ : (x5_1 : Int) < ((x0_1.length : Int) : Int):=of_decide_eq_true (by first|(with_reducible assumption) | assumption);first|exact h_|(have e_:=(Kd.R_reads' HO_0.out).1;omega) | simpa using h_) (seg:=[.int .i64 x1_1]) (j:=0) hcl16 hcc16 (show 1 ≤ 9 from by decide) (x':=(⟨x1_1,(rd_T71 x0_1 x5_1).f1,(rd_T71 x0_1 x5_1).f2,(rd_T71 x0_1 x5_1).f3,(rd_T71 x0_1 x5_1).f4,(rd_T71 x0_1 x5_1).f5,(rd_T71 x0_1 x5_1).f6,(rd_T71 x0_1 x5_1).f7,(rd_T71 x0_1 x5_1).f8⟩ : S71)) (k71_mkM _ _ _ (⟨x1_1,(rd_T71 x0_1 x5_1).f1,(rd_T71 x0_1 x5_1).f2,(rd_T71 x0_1 x5_1).f3,(rd_T71 x0_1 x5_1).f4,(rd_T71 x0_1 x5_1).f5,(rd_T71 x0_1 x5_1).f6,(rd_T71 x0_1 x5_1).f7,(rd_T71 x0_1 x5_1).f8⟩ : S71) ) (fun _ hk => hk)
     have hx16_0:=hcc16 0 _ rfl
     (try simp only [show (k71).sz = 9 from rfl,Nat.mul_one,Nat.add_zero] at hx16_0)
     have hf16_0:=hfr16 0
     (try simp only [show (k71).sz = 9 from rfl,Nat.mul_one,Nat.add_zero] at hf16_0)
     clear hcl16 hcc16 hfr16 hM16
     go_wp2_with (first|((with_reducible refine gate_store (t:=3) (p:=16) rfl ?_);refine store_event (t:=3) (p:=16) (v:=?vo_w17) (w1:=(wr.setCell ⟨go5,(x5_1 : Int).toNat * 9,none⟩ (.int .i64 x1_1))) ?hg ?ho ?hn ?hr ?_;(case ho => rfl);(case hg => rfl);(case hn => rfl);(case hr => first|(go_simp;done)|(go_simp;rfl));intro w17 hw;have hg : wr.grownBy w17 (some go5):=(by rw [hw];exact HP16.2);have hp_ : Kd.R k71 71 w17 w0.heap.size (fun k_ => (P0_ k_ ∨ w.heap.size ≤ k_)) (.slice (some ⟨go5,0,none⟩) x0_1.length co15) y862:=(by rw [hw,Ny862.out];exact HP16.1);clear HP16;have n0_:=aMk (hp_);have n1_:=aMk ((by rw [hw];exact below_set (HB.out) GB5.out : Below w0.heap.size w0 w17));have n2_:=aMk (Kept.of_grown (S:=(fun k_ => P0_ k_)) hg (by repeat (first|(with_reducible first|exact HK.out|apply Kept.alloc|apply Kept.drewN|apply Kept.drew)|exact HK.out)) (fun k_ e_ => (HO_0.out.1 k_ e_)));clear HO_0;clear HB;clear HK;have HO_0:=n0_;have HB:=n1_;have HK:=n2_;clear n0_ n1_ n2_;clear hg hw hp_)|((with_reducible refine gate_callee (f:=89) rfl ?_);refine gLs 22 Try.func89 #[.int .i64 (wrap64 (x1_1 + 1))] ?_;(with_reducible refine (laws_markText.calls k1 (wrap64 (x1_1 + 1)) t863 _ A6.out).mono ?_);rintro e w18 ⟨rfl,hb⟩;refine ⟨_,rfl,?_⟩;have n0_:=aMk (Kd.R_below (by (with_reducible repeat (first|apply Kd.R_alloc|apply Kd.R_drewN|apply Kd.R_drew));exact HO_0.out) hb);have n1_:=aMk (Kept.below (S:=(fun k_ => P0_ k_)) (by repeat (first|(with_reducible first|exact HK.out|apply Kept.alloc|apply Kept.drewN|apply Kept.drew)|exact HK.out)) hb);have n2_:=aMk (bSt hb);clear HO_0;clear HK;clear HB;have HO_0:=n0_;have HK:=n1_;have HB:=n2_;clear n0_ n1_ n2_;(try clear hb);(try clear hb2);(try clear hk);(try clear hi);have p7 : 0 ≤ (x5_1 : Int):=of_decide_eq_true (by first|(with_reducible assumption) | assumption);have q7 : (x5_1 : Int) < ((x0_1.length : Int) : Int):=of_decide_eq_true (by first|(with_reducible assumption) | assumption);obtain ⟨ce7,hcl7,hM7,hcc7,hfr7⟩:=Kd.R_elem HO_0.out z71 (x5_1 : Int) p7 q7;obtain rfl:=k71_openM hM7;have hx7_0 : w18.cell? ⟨go5,(x5_1 : Int).toNat * 9,none⟩ = some (.int .i64 ((rd_T71 y862 x5_1).f0)):=hcc7 0 _ rfl;have hx7_1 : w18.cell? ⟨go5,(x5_1 : Int).toNat * 9 + 1,none⟩ = some (.string ((rd_T71 y862 x5_1).f1)):=hcc7 1 _ rfl;have hx7_2 : w18.cell? ⟨go5,(x5_1 : Int).toNat * 9 + 2,none⟩ = some (.int .i64 ((rd_T71 y862 x5_1).f2)):=hcc7 2 _ rfl;have hx7_3 : w18.cell? ⟨go5,(x5_1 : Int).toNat * 9 + 3,none⟩ = some (.int .i64 ((rd_T71 y862 x5_1).f3)):=hcc7 3 _ rfl;have hx7_4 : w18.cell? ⟨go5,(x5_1 : Int).toNat * 9 + 4,none⟩ = some (.int .i64 ((rd_T71 y862 x5_1).f4)):=hcc7 4 _ rfl;have hx7_5 : w18.cell? ⟨go5,(x5_1 : Int).toNat * 9 + 5,none⟩ = some (.int .i64 ((rd_T71 y862 x5_1).f5)):=hcc7 5 _ rfl;have hx7_6 : w18.cell? ⟨go5,(x5_1 : Int).toNat * 9 + 6,none⟩ = some (.int .i64 ((rd_T71 y862 x5_1).f6)):=hcc7 6 _ rfl;have hx7_7 : w18.cell? ⟨go5,(x5_1 : Int).toNat * 9 + 7,none⟩ = some (.int .i64 ((rd_T71 y862 x5_1).f7)):=hcc7 7 _ rfl;have hx7_8 : w18.cell? ⟨go5,(x5_1 : Int).toNat * 9 + 8,none⟩ = some (.int .i64 ((rd_T71 y862 x5_1).f8)):=hcc7 8 _ rfl;have hf7_0 : w18.frozen? ⟨go5,(x5_1 : Int).toNat * 9,none⟩ = false:=hfr7 0;have hf7_1 : w18.frozen? ⟨go5,(x5_1 : Int).toNat * 9 + 1,none⟩ = false:=hfr7 1;have hf7_2 : w18.frozen? ⟨go5,(x5_1 : Int).toNat * 9 + 2,none⟩ = false:=hfr7 2;have hf7_3 : w18.frozen? ⟨go5,(x5_1 : Int).toNat * 9 + 3,none⟩ = false:=hfr7 3;have hf7_4 : w18.frozen? ⟨go5,(x5_1 : Int).toNat * 9 + 4,none⟩ = false:=hfr7 4;have hf7_5 : w18.frozen? ⟨go5,(x5_1 : Int).toNat * 9 + 5,none⟩ = false:=hfr7 5;have hf7_6 : w18.frozen? ⟨go5,(x5_1 : Int).toNat * 9 + 6,none⟩ = false:=hfr7 6;have hf7_7 : w18.frozen? ⟨go5,(x5_1 : Int).toNat * 9 + 7,none⟩ = false:=hfr7 7;have hf7_8 : w18.frozen? ⟨go5,(x5_1 : Int).toNat * 9 + 8,none⟩ = false:=hfr7 8;clear hcl7 hcc7 hfr7 hM7;replace p7:=eq_true p7;replace q7:=eq_true q7;have HX19:=aMk (show Kd.R k71 71 w18 w0.heap.size (fun k_ => (P0_ k_ ∨ w.heap.size ≤ k_)) (.slice (some ⟨go5,0,none⟩) x0_1.length co15) y862 from (by (with_reducible repeat (first|apply Kd.R_alloc|apply Kd.R_drewN|apply Kd.R_drew));exact HO_0.out));obtain ⟨ce19,hcl19,hM19,hcc19,hfr19⟩:=Kd.R_elem HX19.out z71 (x5_1 : Int) (of_decide_eq_true (by first|(with_reducible assumption) | assumption)) (by have h_ : (x5_1 : Int) < ((x0_1.length : Int) : Int):=of_decide_eq_true (by first|(with_reducible assumption) | assumption);first|exact h_|(have e_:=(Kd.R_reads' HO_0.out).1;omega) | simpa using h_);obtain rfl:=k71_openM hM19;have HP19:=Kd.R_seg HX19.out (x5_1 : Int) (of_decide_eq_true (by first|(with_reducible assumption) | assumption)) (by have h_ : (x5_1 : Int) < ((x0_1.length : Int) : Int):=of_decide_eq_true (by first|(with_reducible assumption) | assumption);first|exact h_|(have e_:=(Kd.R_reads' HO_0.out).1;omega) | simpa using h_) (seg:=[.string t863]) (j:=1) hcl19 hcc19 (show 2 ≤ 9 from by decide) (x':=(⟨(rd_T71 y862 x5_1).f0,t863,(rd_T71 y862 x5_1).f2,(rd_T71 y862 x5_1).f3,(rd_T71 y862 x5_1).f4,(rd_T71 y862 x5_1).f5,(rd_T71 y862 x5_1).f6,(rd_T71 y862 x5_1).f7,(rd_T71 y862 x5_1).f8⟩ : S71)) (k71_mkM _ _ _ (⟨(rd_T71 y862 x5_1).f0,t863,(rd_T71 y862 x5_1).f2,(rd_T71 y862 x5_1).f3,(rd_T71 y862 x5_1).f4,(rd_T71 y862 x5_1).f5,(rd_T71 y862 x5_1).f6,(rd_T71 y862 x5_1).f7,(rd_T71 y862 x5_1).f8⟩ : S71) ) (fun _ hk => hk);have hx19_1:=hcc19 1 _ rfl;(try simp only [show (k71).sz = 9 from rfl,Nat.mul_one,Nat.add_zero] at hx19_1);have hf19_1:=hfr19 1;(try simp only [show (k71).sz = 9 from rfl,Nat.mul_one,Nat.add_zero] at hf19_1);clear hcl19 hcc19 hfr19 hM19)|((with_reducible refine gate_store (t:=9) (p:=24) rfl ?_);refine store_event (t:=9) (p:=24) (v:=?vo_w20) (w1:=(w18.setCell ⟨go5,(x5_1 : Int).toNat * 9 + 1,none⟩ (.string t863))) ?hg ?ho ?hn ?hr ?_;(case ho => rfl);(case hg => rfl);(case hn => rfl);(case hr => first|(go_simp;done)|(go_simp;rfl));intro w20 hw;have hg : w18.grownBy w20 (some go5):=(by rw [hw];exact HP19.2);have hp_ : Kd.R k71 71 w20 w0.heap.size (fun k_ => (P0_ k_ ∨ w.heap.size ≤ k_)) (.slice (some ⟨go5,0,none⟩) x0_1.length co15) y864:=(by rw [hw,Ny864.out];exact HP19.1);clear HP19;have n0_:=aMk (hp_);have n1_:=aMk ((by rw [hw];exact below_set (HB.out) GB5.out : Below w0.heap.size w0 w20));have n2_:=aMk (Kept.of_grown (S:=(fun k_ => P0_ k_)) hg (by repeat (first|(with_reducible first|exact HK.out|apply Kept.alloc|apply Kept.drewN|apply Kept.drew)|exact HK.out)) (fun k_ e_ => (HO_0.out.1 k_ e_)));clear HO_0;clear HB;clear HK;have HO_0:=n0_;have HB:=n1_;have HK:=n2_;clear n0_ n1_ n2_;clear hg hw hp_;have p8 : 0 ≤ (x5_1 : Int):=of_decide_eq_true (by first|(with_reducible assumption) | assumption);have q8 : (x5_1 : Int) < ((x0_1.length : Int) : Int):=of_decide_eq_true (by first|(with_reducible assumption) | assumption);obtain ⟨ce8,hcl8,hM8,hcc8,hfr8⟩:=Kd.R_elem HO_0.out z71 (x5_1 : Int) p8 q8;obtain rfl:=k71_openM hM8;have hx8_0 : w20.cell? ⟨go5,(x5_1 : Int).toNat * 9,none⟩ = some (.int .i64 ((rd_T71 y864 x5_1).f0)):=hcc8 0 _ rfl;have hx8_1 : w20.cell? ⟨go5,(x5_1 : Int).toNat * 9 + 1,none⟩ = some (.string ((rd_T71 y864 x5_1).f1)):=hcc8 1 _ rfl;have hx8_2 : w20.cell? ⟨go5,(x5_1 : Int).toNat * 9 + 2,none⟩ = some (.int .i64 ((rd_T71 y864 x5_1).f2)):=hcc8 2 _ rfl;have hx8_3 : w20.cell? ⟨go5,(x5_1 : Int).toNat * 9 + 3,none⟩ = some (.int .i64 ((rd_T71 y864 x5_1).f3)):=hcc8 3 _ rfl;have hx8_4 : w20.cell? ⟨go5,(x5_1 : Int).toNat * 9 + 4,none⟩ = some (.int .i64 ((rd_T71 y864 x5_1).f4)):=hcc8 4 _ rfl;have hx8_5 : w20.cell? ⟨go5,(x5_1 : Int).toNat * 9 + 5,none⟩ = some (.int .i64 ((rd_T71 y864 x5_1).f5)):=hcc8 5 _ rfl;have hx8_6 : w20.cell? ⟨go5,(x5_1 : Int).toNat * 9 + 6,none⟩ = some (.int .i64 ((rd_T71 y864 x5_1).f6)):=hcc8 6 _ rfl;have hx8_7 : w20.cell? ⟨go5,(x5_1 : Int).toNat * 9 + 7,none⟩ = some (.int .i64 ((rd_T71 y864 x5_1).f7)):=hcc8 7 _ rfl;have hx8_8 : w20.cell? ⟨go5,(x5_1 : Int).toNat * 9 + 8,none⟩ = some (.int .i64 ((rd_T71 y864 x5_1).f8)):=hcc8 8 _ rfl;have hf8_0 : w20.frozen? ⟨go5,(x5_1 : Int).toNat * 9,none⟩ = false:=hfr8 0;have hf8_1 : w20.frozen? ⟨go5,(x5_1 : Int).toNat * 9 + 1,none⟩ = false:=hfr8 1;have hf8_2 : w20.frozen? ⟨go5,(x5_1 : Int).toNat * 9 + 2,none⟩ = false:=hfr8 2;have hf8_3 : w20.frozen? ⟨go5,(x5_1 : Int).toNat * 9 + 3,none⟩ = false:=hfr8 3;have hf8_4 : w20.frozen? ⟨go5,(x5_1 : Int).toNat * 9 + 4,none⟩ = false:=hfr8 4;have hf8_5 : w20.frozen? ⟨go5,(x5_1 : Int).toNat * 9 + 5,none⟩ = false:=hfr8 5;have hf8_6 : w20.frozen? ⟨go5,(x5_1 : Int).toNat * 9 + 6,none⟩ = false:=hfr8 6;have hf8_7 : w20.frozen? ⟨go5,(x5_1 : Int).toNat * 9 + 7,none⟩ = false:=hfr8 7;have hf8_8 : w20.frozen? ⟨go5,(x5_1 : Int).toNat * 9 + 8,none⟩ = false:=hfr8 8;clear hcl8 hcc8 hfr8 hM8;replace p8:=eq_true p8;replace q8:=eq_true q8;have HX21:=aMk (show Kd.R k71 71 w20 w0.heap.size (fun k_ => (P0_ k_ ∨ w.heap.size ≤ k_)) (.slice (some ⟨go5,0,none⟩) x0_1.length co15) y864 from (by (with_reducible repeat (first|apply Kd.R_alloc|apply Kd.R_drewN|apply Kd.R_drew));exact HO_0.out));obtain ⟨ce21,hcl21,hM21,hcc21,hfr21⟩:=Kd.R_elem HX21.out z71 (x5_1 : Int) (of_decide_eq_true (by first|(with_reducible assumption) | assumption)) (by have h_ : (x5_1 : Int) < ((x0_1.length : Int) : Int):=of_decide_eq_true (by first|(with_reducible assumption) | assumption);first|exact h_|(have e_:=(Kd.R_reads' HO_0.out).1;omega) | simpa using h_);obtain rfl:=k71_openM hM21;have HP21:=Kd.R_seg HX21.out (x5_1 : Int) (of_decide_eq_true (by first|(with_reducible assumption) | assumption)) (by have h_ : (x5_1 : Int) < ((x0_1.length : Int) : Int):=of_decide_eq_true (by first|(with_reducible assumption) | assumption);first|exact h_|(have e_:=(Kd.R_reads' HO_0.out).1;omega) | simpa using h_) (seg:=[.int .i64 (wrap64 ((wrap64 (x1_1 + 1)) + 1))]) (j:=2) hcl21 hcc21 (show 3 ≤ 9 from by decide) (x':=(⟨(rd_T71 y864 x5_1).f0,(rd_T71 y864 x5_1).f1,wrap64 ((wrap64 (x1_1 + 1)) + 1),(rd_T71 y864 x5_1).f3,(rd_T71 y864 x5_1).f4,(rd_T71 y864 x5_1).f5,(rd_T71 y864 x5_1).f6,(rd_T71 y864 x5_1).f7,(rd_T71 y864 x5_1).f8⟩ : S71)) (k71_mkM _ _ _ (⟨(rd_T71 y864 x5_1).f0,(rd_T71 y864 x5_1).f1,wrap64 ((wrap64 (x1_1 + 1)) + 1),(rd_T71 y864 x5_1).f3,(rd_T71 y864 x5_1).f4,(rd_T71 y864 x5_1).f5,(rd_T71 y864 x5_1).f6,(rd_T71 y864 x5_1).f7,(rd_T71 y864 x5_1).f8⟩ : S71) ) (fun _ hk => hk);have hx21_2:=hcc21 2 _ rfl;(try simp only [show (k71).sz = 9 from rfl,Nat.mul_one,Nat.add_zero] at hx21_2);have hf21_2:=hfr21 2;(try simp only [show (k71).sz = 9 from rfl,Nat.mul_one,Nat.add_zero] at hf21_2);clear hcl21 hcc21 hfr21 hM21)|((with_reducible refine gate_store (t:=3) (p:=31) rfl ?_);refine store_event (t:=3) (p:=31) (v:=?vo_w22) (w1:=(w20.setCell ⟨go5,(x5_1 : Int).toNat * 9 + 2,none⟩ (.int .i64 (wrap64 ((wrap64 (x1_1 + 1)) + 1))))) ?hg ?ho ?hn ?hr ?_;(case ho => rfl);(case hg => rfl);(case hn => rfl);(case hr => first|(go_simp;done)|(go_simp;rfl));intro w22 hw;have hg : w20.grownBy w22 (some go5):=(by rw [hw];exact HP21.2);have hp_ : Kd.R k71 71 w22 w0.heap.size (fun k_ => (P0_ k_ ∨ w.heap.size ≤ k_)) (.slice (some ⟨go5,0,none⟩) x0_1.length co15) y865:=(by rw [hw,Ny865.out];exact HP21.1);clear HP21;have n0_:=aMk (hp_);have n1_:=aMk ((by rw [hw];exact below_set (HB.out) GB5.out : Below w0.heap.size w0 w22));have n2_:=aMk (Kept.of_grown (S:=(fun k_ => P0_ k_)) hg (by repeat (first|(with_reducible first|exact HK.out|apply Kept.alloc|apply Kept.drewN|apply Kept.drew)|exact HK.out)) (fun k_ e_ => (HO_0.out.1 k_ e_)));clear HO_0;clear HB;clear HK;have HO_0:=n0_;have HB:=n1_;have HK:=n2_;clear n0_ n1_ n2_;clear hg hw hp_;have p9 : 0 ≤ (x5_1 : Int):=of_decide_eq_true (by first|(with_reducible assumption) | assumption);have q9 : (x5_1 : Int) < ((x0_1.length : Int) : Int):=of_decide_eq_true (by first|(with_reducible assumption) | assumption);obtain ⟨ce9,hcl9,hM9,hcc9,hfr9⟩:=Kd.R_elem HO_0.out z71 (x5_1 : Int) p9 q9;obtain rfl:=k71_openM hM9;have hx9_0 : w22.cell? ⟨go5,(x5_1 : Int).toNat * 9,none⟩ = some (.int .i64 ((rd_T71 y865 x5_1).f0)):=hcc9 0 _ rfl;have hx9_1 : w22.cell? ⟨go5,(x5_1 : Int).toNat * 9 + 1,none⟩ = some (.string ((rd_T71 y865 x5_1).f1)):=hcc9 1 _ rfl;have hx9_2 : w22.cell? ⟨go5,(x5_1 : Int).toNat * 9 + 2,none⟩ = some (.int .i64 ((rd_T71 y865 x5_1).f2)):=hcc9 2 _ rfl;have hx9_3 : w22.cell? ⟨go5,(x5_1 : Int).toNat * 9 + 3,none⟩ = some (.int .i64 ((rd_T71 y865 x5_1).f3)):=hcc9 3 _ rfl;have hx9_4 : w22.cell? ⟨go5,(x5_1 : Int).toNat * 9 + 4,none⟩ = some (.int .i64 ((rd_T71 y865 x5_1).f4)):=hcc9 4 _ rfl;have hx9_5 : w22.cell? ⟨go5,(x5_1 : Int).toNat * 9 + 5,none⟩ = some (.int .i64 ((rd_T71 y865 x5_1).f5)):=hcc9 5 _ rfl;have hx9_6 : w22.cell? ⟨go5,(x5_1 : Int).toNat * 9 + 6,none⟩ = some (.int .i64 ((rd_T71 y865 x5_1).f6)):=hcc9 6 _ rfl;have hx9_7 : w22.cell? ⟨go5,(x5_1 : Int).toNat * 9 + 7,none⟩ = some (.int .i64 ((rd_T71 y865 x5_1).f7)):=hcc9 7 _ rfl;have hx9_8 : w22.cell? ⟨go5,(x5_1 : Int).toNat * 9 + 8,none⟩ = some (.int .i64 ((rd_T71 y865 x5_1).f8)):=hcc9 8 _ rfl;have hf9_0 : w22.frozen? ⟨go5,(x5_1 : Int).toNat * 9,none⟩ = false:=hfr9 0;have hf9_1 : w22.frozen? ⟨go5,(x5_1 : Int).toNat * 9 + 1,none⟩ = false:=hfr9 1;have hf9_2 : w22.frozen? ⟨go5,(x5_1 : Int).toNat * 9 + 2,none⟩ = false:=hfr9 2;have hf9_3 : w22.frozen? ⟨go5,(x5_1 : Int).toNat * 9 + 3,none⟩ = false:=hfr9 3;have hf9_4 : w22.frozen? ⟨go5,(x5_1 : Int).toNat * 9 + 4,none⟩ = false:=hfr9 4;have hf9_5 : w22.frozen? ⟨go5,(x5_1 : Int).toNat * 9 + 5,none⟩ = false:=hfr9 5;have hf9_6 : w22.frozen? ⟨go5,(x5_1 : Int).toNat * 9 + 6,none⟩ = false:=hfr9 6;have hf9_7 : w22.frozen? ⟨go5,(x5_1 : Int).toNat * 9 + 7,none⟩ = false:=hfr9 7;have hf9_8 : w22.frozen? ⟨go5,(x5_1 : Int).toNat * 9 + 8,none⟩ = false:=hfr9 8;clear hcl9 hcc9 hfr9 hM9;replace p9:=eq_true p9;replace q9:=eq_true q9;have HX23:=aMk (show Kd.R k71 71 w22 w0.heap.size (fun k_ => (P0_ k_ ∨ w.heap.size ≤ k_)) (.slice (some ⟨go5,0,none⟩) x0_1.length co15) y865 from (by (with_reducible repeat (first|apply Kd.R_alloc|apply Kd.R_drewN|apply Kd.R_drew));exact HO_0.out));obtain ⟨ce23,hcl23,hM23,hcc23,hfr23⟩:=Kd.R_elem HX23.out z71 (x5_1 : Int) (of_decide_eq_true (by first|(with_reducible assumption) | assumption)) (by have h_ : (x5_1 : Int) < ((x0_1.length : Int) : Int):=of_decide_eq_true (by first|(with_reducible assumption) | assumption);first|exact h_|(have e_:=(Kd.R_reads' HO_0.out).1;omega) | simpa using h_);obtain rfl:=k71_openM hM23;have HP23:=Kd.R_seg HX23.out (x5_1 : Int) (of_decide_eq_true (by first|(with_reducible assumption) | assumption)) (by have h_ : (x5_1 : Int) < ((x0_1.length : Int) : Int):=of_decide_eq_true (by first|(with_reducible assumption) | assumption);first|exact h_|(have e_:=(Kd.R_reads' HO_0.out).1;omega) | simpa using h_) (seg:=[.int .i64 (wrap64 ((wrap64 ((wrap64 (x1_1 + 1)) + 1)) + 1))]) (j:=3) hcl23 hcc23 (show 4 ≤ 9 from by decide) (x':=(⟨(rd_T71 y865 x5_1).f0,(rd_T71 y865 x5_1).f1,(rd_T71 y865 x5_1).f2,wrap64 ((wrap64 ((wrap64 (x1_1 + 1)) + 1)) + 1),(rd_T71 y865 x5_1).f4,(rd_T71 y865 x5_1).f5,(rd_T71 y865 x5_1).f6,(rd_T71 y865 x5_1).f7,(rd_T71 y865 x5_1).f8⟩ : S71)) (k71_mkM _ _ _ (⟨(rd_T71 y865 x5_1).f0,(rd_T71 y865 x5_1).f1,(rd_T71 y865 x5_1).f2,wrap64 ((wrap64 ((wrap64 (x1_1 + 1)) + 1)) + 1),(rd_T71 y865 x5_1).f4,(rd_T71 y865 x5_1).f5,(rd_T71 y865 x5_1).f6,(rd_T71 y865 x5_1).f7,(rd_T71 y865 x5_1).f8⟩ : S71) ) (fun _ hk => hk);have hx23_3:=hcc23 3 _ rfl;(try simp only [show (k71).sz = 9 from rfl,Nat.mul_one,Nat.add_zero] at hx23_3);have hf23_3:=hfr23 3;(try simp only [show (k71).sz = 9 from rfl,Nat.mul_one,Nat.add_zero] at hf23_3);clear hcl23 hcc23 hfr23 hM23)|((with_reducible refine gate_store (t:=3) (p:=38) rfl ?_);refine store_event (t:=3) (p:=38) (v:=?vo_w24) (w1:=(w22.setCell ⟨go5,(x5_1 : Int).toNat * 9 + 3,none⟩ (.int .i64 (wrap64 ((wrap64 ((wrap64 (x1_1 + 1)) + 1)) + 1))))) ?hg ?ho ?hn ?hr ?_;(case ho => rfl);(case hg => rfl);(case hn => rfl);(case hr => first|(go_simp;done)|(go_simp;rfl));intro w24 hw;have hg : w22.grownBy w24 (some go5):=(by rw [hw];exact HP23.2);have hp_ : Kd.R k71 71 w24 w0.heap.size (fun k_ => (P0_ k_ ∨ w.heap.size ≤ k_)) (.slice (some ⟨go5,0,none⟩) x0_1.length co15) y866:=(by rw [hw,Ny866.out];exact HP23.1);clear HP23;have n0_:=aMk (hp_);have n1_:=aMk ((by rw [hw];exact below_set (HB.out) GB5.out : Below w0.heap.size w0 w24));have n2_:=aMk (Kept.of_grown (S:=(fun k_ => P0_ k_)) hg (by repeat (first|(with_reducible first|exact HK.out|apply Kept.alloc|apply Kept.drewN|apply Kept.drew)|exact HK.out)) (fun k_ e_ => (HO_0.out.1 k_ e_)));clear HO_0;clear HB;clear HK;have HO_0:=n0_;have HB:=n1_;have HK:=n2_;clear n0_ n1_ n2_;clear hg hw hp_;have p10 : 0 ≤ (x5_1 : Int):=of_decide_eq_true (by first|(with_reducible assumption) | assumption);have q10 : (x5_1 : Int) < ((x0_1.length : Int) : Int):=of_decide_eq_true (by first|(with_reducible assumption) | assumption);obtain ⟨ce10,hcl10,hM10,hcc10,hfr10⟩:=Kd.R_elem HO_0.out z71 (x5_1 : Int) p10 q10;obtain rfl:=k71_openM hM10;have hx10_0 : w24.cell? ⟨go5,(x5_1 : Int).toNat * 9,none⟩ = some (.int .i64 ((rd_T71 y866 x5_1).f0)):=hcc10 0 _ rfl;have hx10_1 : w24.cell? ⟨go5,(x5_1 : Int).toNat * 9 + 1,none⟩ = some (.string ((rd_T71 y866 x5_1).f1)):=hcc10 1 _ rfl;have hx10_2 : w24.cell? ⟨go5,(x5_1 : Int).toNat * 9 + 2,none⟩ = some (.int .i64 ((rd_T71 y866 x5_1).f2)):=hcc10 2 _ rfl;have hx10_3 : w24.cell? ⟨go5,(x5_1 : Int).toNat * 9 + 3,none⟩ = some (.int .i64 ((rd_T71 y866 x5_1).f3)):=hcc10 3 _ rfl;have hx10_4 : w24.cell? ⟨go5,(x5_1 : Int).toNat * 9 + 4,none⟩ = some (.int .i64 ((rd_T71 y866 x5_1).f4)):=hcc10 4 _ rfl;have hx10_5 : w24.cell? ⟨go5,(x5_1 : Int).toNat * 9 + 5,none⟩ = some (.int .i64 ((rd_T71 y866 x5_1).f5)):=hcc10 5 _ rfl;have hx10_6 : w24.cell? ⟨go5,(x5_1 : Int).toNat * 9 + 6,none⟩ = some (.int .i64 ((rd_T71 y866 x5_1).f6)):=hcc10 6 _ rfl;have hx10_7 : w24.cell? ⟨go5,(x5_1 : Int).toNat * 9 + 7,none⟩ = some (.int .i64 ((rd_T71 y866 x5_1).f7)):=hcc10 7 _ rfl;have hx10_8 : w24.cell? ⟨go5,(x5_1 : Int).toNat * 9 + 8,none⟩ = some (.int .i64 ((rd_T71 y866 x5_1).f8)):=hcc10 8 _ rfl;have hf10_0 : w24.frozen? ⟨go5,(x5_1 : Int).toNat * 9,none⟩ = false:=hfr10 0;have hf10_1 : w24.frozen? ⟨go5,(x5_1 : Int).toNat * 9 + 1,none⟩ = false:=hfr10 1;have hf10_2 : w24.frozen? ⟨go5,(x5_1 : Int).toNat * 9 + 2,none⟩ = false:=hfr10 2;have hf10_3 : w24.frozen? ⟨go5,(x5_1 : Int).toNat * 9 + 3,none⟩ = false:=hfr10 3;have hf10_4 : w24.frozen? ⟨go5,(x5_1 : Int).toNat * 9 + 4,none⟩ = false:=hfr10 4;have hf10_5 : w24.frozen? ⟨go5,(x5_1 : Int).toNat * 9 + 5,none⟩ = false:=hfr10 5;have hf10_6 : w24.frozen? ⟨go5,(x5_1 : Int).toNat * 9 + 6,none⟩ = false:=hfr10 6;have hf10_7 : w24.frozen? ⟨go5,(x5_1 : Int).toNat * 9 + 7,none⟩ = false:=hfr10 7;have hf10_8 : w24.frozen? ⟨go5,(x5_1 : Int).toNat * 9 + 8,none⟩ = false:=hfr10 8;clear hcl10 hcc10 hfr10 hM10;replace p10:=eq_true p10;replace q10:=eq_true q10;have HX25:=aMk (show Kd.R k71 71 w24 w0.heap.size (fun k_ => (P0_ k_ ∨ w.heap.size ≤ k_)) (.slice (some ⟨go5,0,none⟩) x0_1.length co15) y866 from (by (with_reducible repeat (first|apply Kd.R_alloc|apply Kd.R_drewN|apply Kd.R_drew));exact HO_0.out));obtain ⟨ce25,hcl25,hM25,hcc25,hfr25⟩:=Kd.R_elem HX25.out z71 (x5_1 : Int) (of_decide_eq_true (by first|(with_reducible assumption) | assumption)) (by have h_ : (x5_1 : Int) < ((x0_1.length : Int) : Int):=of_decide_eq_true (by first|(with_reducible assumption) | assumption);first|exact h_|(have e_:=(Kd.R_reads' HO_0.out).1;omega) | simpa using h_);obtain rfl:=k71_openM hM25;have HP25:=Kd.R_seg HX25.out (x5_1 : Int) (of_decide_eq_true (by first|(with_reducible assumption) | assumption)) (by have h_ : (x5_1 : Int) < ((x0_1.length : Int) : Int):=of_decide_eq_true (by first|(with_reducible assumption) | assumption);first|exact h_|(have e_:=(Kd.R_reads' HO_0.out).1;omega) | simpa using h_) (seg:=[.int .i64 (wrap64 ((wrap64 ((wrap64 ((wrap64 (x1_1 + 1)) + 1)) + 1)) + 1))]) (j:=4) hcl25 hcc25 (show 5 ≤ 9 from by decide) (x':=(⟨(rd_T71 y866 x5_1).f0,(rd_T71 y866 x5_1).f1,(rd_T71 y866 x5_1).f2,(rd_T71 y866 x5_1).f3,wrap64 ((wrap64 ((wrap64 ((wrap64 (x1_1 + 1)) + 1)) + 1)) + 1),(rd_T71 y866 x5_1).f5,(rd_T71 y866 x5_1).f6,(rd_T71 y866 x5_1).f7,(rd_T71 y866 x5_1).f8⟩ : S71)) (k71_mkM _ _ _ (⟨(rd_T71 y866 x5_1).f0,(rd_T71 y866 x5_1).f1,(rd_T71 y866 x5_1).f2,(rd_T71 y866 x5_1).f3,wrap64 ((wrap64 ((wrap64 ((wrap64 (x1_1 + 1)) + 1)) + 1)) + 1),(rd_T71 y866 x5_1).f5,(rd_T71 y866 x5_1).f6,(rd_T71 y866 x5_1).f7,(rd_T71 y866 x5_1).f8⟩ : S71) ) (fun _ hk => hk);have hx25_4:=hcc25 4 _ rfl;(try simp only [show (k71).sz = 9 from rfl,Nat.mul_one,Nat.add_zero] at hx25_4);have hf25_4:=hfr25 4;(try simp only [show (k71).sz = 9 from rfl,Nat.mul_one,Nat.add_zero] at hf25_4);clear hcl25 hcc25 hfr25 hM25)|((with_reducible refine gate_store (t:=3) (p:=45) rfl ?_);refine store_event (t:=3) (p:=45) (v:=?vo_w26) (w1:=(w24.setCell ⟨go5,(x5_1 : Int).toNat * 9 + 4,none⟩ (.int .i64 (wrap64 ((wrap64 ((wrap64 ((wrap64 (x1_1 + 1)) + 1)) + 1)) + 1))))) ?hg ?ho ?hn ?hr ?_;(case ho => rfl);(case hg => rfl);(case hn => rfl);(case hr => first|(go_simp;done)|(go_simp;rfl));intro w26 hw;have hg : w24.grownBy w26 (some go5):=(by rw [hw];exact HP25.2);have hp_ : Kd.R k71 71 w26 w0.heap.size (fun k_ => (P0_ k_ ∨ w.heap.size ≤ k_)) (.slice (some ⟨go5,0,none⟩) x0_1.length co15) y867:=(by rw [hw,Ny867.out];exact HP25.1);clear HP25;have n0_:=aMk (hp_);have n1_:=aMk ((by rw [hw];exact below_set (HB.out) GB5.out : Below w0.heap.size w0 w26));have n2_:=aMk (Kept.of_grown (S:=(fun k_ => P0_ k_)) hg (by repeat (first|(with_reducible first|exact HK.out|apply Kept.alloc|apply Kept.drewN|apply Kept.drew)|exact HK.out)) (fun k_ e_ => (HO_0.out.1 k_ e_)));clear HO_0;clear HB;clear HK;have HO_0:=n0_;have HB:=n1_;have HK:=n2_;clear n0_ n1_ n2_;clear hg hw hp_;have p11 : 0 ≤ (x5_1 : Int):=of_decide_eq_true (by first|(with_reducible assumption) | assumption);have q11 : (x5_1 : Int) < ((x0_1.length : Int) : Int):=of_decide_eq_true (by first|(with_reducible assumption) | assumption);obtain ⟨ce11,hcl11,hM11,hcc11,hfr11⟩:=Kd.R_elem HO_0.out z71 (x5_1 : Int) p11 q11;obtain rfl:=k71_openM hM11;have hx11_0 : w26.cell? ⟨go5,(x5_1 : Int).toNat * 9,none⟩ = some (.int .i64 ((rd_T71 y867 x5_1).f0)):=hcc11 0 _ rfl;have hx11_1 : w26.cell? ⟨go5,(x5_1 : Int).toNat * 9 + 1,none⟩ = some (.string ((rd_T71 y867 x5_1).f1)):=hcc11 1 _ rfl;have hx11_2 : w26.cell? ⟨go5,(x5_1 : Int).toNat * 9 + 2,none⟩ = some (.int .i64 ((rd_T71 y867 x5_1).f2)):=hcc11 2 _ rfl;have hx11_3 : w26.cell? ⟨go5,(x5_1 : Int).toNat * 9 + 3,none⟩ = some (.int .i64 ((rd_T71 y867 x5_1).f3)):=hcc11 3 _ rfl;have hx11_4 : w26.cell? ⟨go5,(x5_1 : Int).toNat * 9 + 4,none⟩ = some (.int .i64 ((rd_T71 y867 x5_1).f4)):=hcc11 4 _ rfl;have hx11_5 : w26.cell? ⟨go5,(x5_1 : Int).toNat * 9 + 5,none⟩ = some (.int .i64 ((rd_T71 y867 x5_1).f5)):=hcc11 5 _ rfl;have hx11_6 : w26.cell? ⟨go5,(x5_1 : Int).toNat * 9 + 6,none⟩ = some (.int .i64 ((rd_T71 y867 x5_1).f6)):=hcc11 6 _ rfl;have hx11_7 : w26.cell? ⟨go5,(x5_1 : Int).toNat * 9 + 7,none⟩ = some (.int .i64 ((rd_T71 y867 x5_1).f7)):=hcc11 7 _ rfl;have hx11_8 : w26.cell? ⟨go5,(x5_1 : Int).toNat * 9 + 8,none⟩ = some (.int .i64 ((rd_T71 y867 x5_1).f8)):=hcc11 8 _ rfl;have hf11_0 : w26.frozen? ⟨go5,(x5_1 : Int).toNat * 9,none⟩ = false:=hfr11 0;have hf11_1 : w26.frozen? ⟨go5,(x5_1 : Int).toNat * 9 + 1,none⟩ = false:=hfr11 1;have hf11_2 : w26.frozen? ⟨go5,(x5_1 : Int).toNat * 9 + 2,none⟩ = false:=hfr11 2;have hf11_3 : w26.frozen? ⟨go5,(x5_1 : Int).toNat * 9 + 3,none⟩ = false:=hfr11 3;have hf11_4 : w26.frozen? ⟨go5,(x5_1 : Int).toNat * 9 + 4,none⟩ = false:=hfr11 4;have hf11_5 : w26.frozen? ⟨go5,(x5_1 : Int).toNat * 9 + 5,none⟩ = false:=hfr11 5;have hf11_6 : w26.frozen? ⟨go5,(x5_1 : Int).toNat * 9 + 6,none⟩ = false:=hfr11 6;have hf11_7 : w26.frozen? ⟨go5,(x5_1 : Int).toNat * 9 + 7,none⟩ = false:=hfr11 7;have hf11_8 : w26.frozen? ⟨go5,(x5_1 : Int).toNat * 9 + 8,none⟩ = false:=hfr11 8;clear hcl11 hcc11 hfr11 hM11;replace p11:=eq_true p11;replace q11:=eq_true q11;have HX27:=aMk (show Kd.R k71 71 w26 w0.heap.size (fun k_ => (P0_ k_ ∨ w.heap.size ≤ k_)) (.slice (some ⟨go5,0,none⟩) x0_1.length co15) y867 from (by (with_reducible repeat (first|apply Kd.R_alloc|apply Kd.R_drewN|apply Kd.R_drew));exact HO_0.out));obtain ⟨ce27,hcl27,hM27,hcc27,hfr27⟩:=Kd.R_elem HX27.out z71 (x5_1 : Int) (of_decide_eq_true (by first|(with_reducible assumption) | assumption)) (by have h_ : (x5_1 : Int) < ((x0_1.length : Int) : Int):=of_decide_eq_true (by first|(with_reducible assumption) | assumption);first|exact h_|(have e_:=(Kd.R_reads' HO_0.out).1;omega) | simpa using h_);obtain rfl:=k71_openM hM27;have HP27:=Kd.R_seg HX27.out (x5_1 : Int) (of_decide_eq_true (by first|(with_reducible assumption) | assumption)) (by have h_ : (x5_1 : Int) < ((x0_1.length : Int) : Int):=of_decide_eq_true (by first|(with_reducible assumption) | assumption);first|exact h_|(have e_:=(Kd.R_reads' HO_0.out).1;omega) | simpa using h_) (seg:=[.int .i64 (wrap64 ((wrap64 ((wrap64 ((wrap64 ((wrap64 (x1_1 + 1)) + 1)) + 1)) + 1)) + 1))]) (j:=5) hcl27 hcc27 (show 6 ≤ 9 from by decide) (x':=(⟨(rd_T71 y867 x5_1).f0,(rd_T71 y867 x5_1).f1,(rd_T71 y867 x5_1).f2,(rd_T71 y867 x5_1).f3,(rd_T71 y867 x5_1).f4,wrap64 ((wrap64 ((wrap64 ((wrap64 ((wrap64 (x1_1 + 1)) + 1)) + 1)) + 1)) + 1),(rd_T71 y867 x5_1).f6,(rd_T71 y867 x5_1).f7,(rd_T71 y867 x5_1).f8⟩ : S71)) (k71_mkM _ _ _ (⟨(rd_T71 y867 x5_1).f0,(rd_T71 y867 x5_1).f1,(rd_T71 y867 x5_1).f2,(rd_T71 y867 x5_1).f3,(rd_T71 y867 x5_1).f4,wrap64 ((wrap64 ((wrap64 ((wrap64 ((wrap64 (x1_1 + 1)) + 1)) + 1)) + 1)) + 1),(rd_T71 y867 x5_1).f6,(rd_T71 y867 x5_1).f7,(rd_T71 y867 x5_1).f8⟩ : S71) ) (fun _ hk => hk);have hx27_5:=hcc27 5 _ rfl;(try simp only [show (k71).sz = 9 from rfl,Nat.mul_one,Nat.add_zero] at hx27_5);have hf27_5:=hfr27 5;(try simp only [show (k71).sz = 9 from rfl,Nat.mul_one,Nat.add_zero] at hf27_5);clear hcl27 hcc27 hfr27 hM27)|((with_reducible refine gate_store (t:=3) (p:=52) rfl ?_);refine store_event (t:=3) (p:=52) (v:=?vo_w28) (w1:=(w26.setCell ⟨go5,(x5_1 : Int).toNat * 9 + 5,none⟩ (.int .i64 (wrap64 ((wrap64 ((wrap64 ((wrap64 ((wrap64 (x1_1 + 1)) + 1)) + 1)) + 1)) + 1))))) ?hg ?ho ?hn ?hr ?_;(case ho => rfl);(case hg => rfl);(case hn => rfl);(case hr => first|(go_simp;done)|(go_simp;rfl));intro w28 hw;have hg : w26.grownBy w28 (some go5):=(by rw [hw];exact HP27.2);have hp_ : Kd.R k71 71 w28 w0.heap.size (fun k_ => (P0_ k_ ∨ w.heap.size ≤ k_)) (.slice (some ⟨go5,0,none⟩) x0_1.length co15) y868:=(by rw [hw,Ny868.out];exact HP27.1);clear HP27;have n0_:=aMk (hp_);have n1_:=aMk ((by rw [hw];exact below_set (HB.out) GB5.out : Below w0.heap.size w0 w28));have n2_:=aMk (Kept.of_grown (S:=(fun k_ => P0_ k_)) hg (by repeat (first|(with_reducible first|exact HK.out|apply Kept.alloc|apply Kept.drewN|apply Kept.drew)|exact HK.out)) (fun k_ e_ => (HO_0.out.1 k_ e_)));clear HO_0;clear HB;clear HK;have HO_0:=n0_;have HB:=n1_;have HK:=n2_;clear n0_ n1_ n2_;clear hg hw hp_;have p12 : 0 ≤ (x5_1 : Int):=of_decide_eq_true (by first|(with_reducible assumption) | assumption);have q12 : (x5_1 : Int) < ((x0_1.length : Int) : Int):=of_decide_eq_true (by first|(with_reducible assumption) | assumption);obtain ⟨ce12,hcl12,hM12,hcc12,hfr12⟩:=Kd.R_elem HO_0.out z71 (x5_1 : Int) p12 q12;obtain rfl:=k71_openM hM12;have hx12_0 : w28.cell? ⟨go5,(x5_1 : Int).toNat * 9,none⟩ = some (.int .i64 ((rd_T71 y868 x5_1).f0)):=hcc12 0 _ rfl;have hx12_1 : w28.cell? ⟨go5,(x5_1 : Int).toNat * 9 + 1,none⟩ = some (.string ((rd_T71 y868 x5_1).f1)):=hcc12 1 _ rfl;have hx12_2 : w28.cell? ⟨go5,(x5_1 : Int).toNat * 9 + 2,none⟩ = some (.int .i64 ((rd_T71 y868 x5_1).f2)):=hcc12 2 _ rfl;have hx12_3 : w28.cell? ⟨go5,(x5_1 : Int).toNat * 9 + 3,none⟩ = some (.int .i64 ((rd_T71 y868 x5_1).f3)):=hcc12 3 _ rfl;have hx12_4 : w28.cell? ⟨go5,(x5_1 : Int).toNat * 9 + 4,none⟩ = some (.int .i64 ((rd_T71 y868 x5_1).f4)):=hcc12 4 _ rfl;have hx12_5 : w28.cell? ⟨go5,(x5_1 : Int).toNat * 9 + 5,none⟩ = some (.int .i64 ((rd_T71 y868 x5_1).f5)):=hcc12 5 _ rfl;have hx12_6 : w28.cell? ⟨go5,(x5_1 : Int).toNat * 9 + 6,none⟩ = some (.int .i64 ((rd_T71 y868 x5_1).f6)):=hcc12 6 _ rfl;have hx12_7 : w28.cell? ⟨go5,(x5_1 : Int).toNat * 9 + 7,none⟩ = some (.int .i64 ((rd_T71 y868 x5_1).f7)):=hcc12 7 _ rfl;have hx12_8 : w28.cell? ⟨go5,(x5_1 : Int).toNat * 9 + 8,none⟩ = some (.int .i64 ((rd_T71 y868 x5_1).f8)):=hcc12 8 _ rfl;have hf12_0 : w28.frozen? ⟨go5,(x5_1 : Int).toNat * 9,none⟩ = false:=hfr12 0;have hf12_1 : w28.frozen? ⟨go5,(x5_1 : Int).toNat * 9 + 1,none⟩ = false:=hfr12 1;have hf12_2 : w28.frozen? ⟨go5,(x5_1 : Int).toNat * 9 + 2,none⟩ = false:=hfr12 2;have hf12_3 : w28.frozen? ⟨go5,(x5_1 : Int).toNat * 9 + 3,none⟩ = false:=hfr12 3;have hf12_4 : w28.frozen? ⟨go5,(x5_1 : Int).toNat * 9 + 4,none⟩ = false:=hfr12 4;have hf12_5 : w28.frozen? ⟨go5,(x5_1 : Int).toNat * 9 + 5,none⟩ = false:=hfr12 5;have hf12_6 : w28.frozen? ⟨go5,(x5_1 : Int).toNat * 9 + 6,none⟩ = false:=hfr12 6;have hf12_7 : w28.frozen? ⟨go5,(x5_1 : Int).toNat * 9 + 7,none⟩ = false:=hfr12 7;have hf12_8 : w28.frozen? ⟨go5,(x5_1 : Int).toNat * 9 + 8,none⟩ = false:=hfr12 8;clear hcl12 hcc12 hfr12 hM12;replace p12:=eq_true p12;replace q12:=eq_true q12;have HX29:=aMk (show Kd.R k71 71 w28 w0.heap.size (fun k_ => (P0_ k_ ∨ w.heap.size ≤ k_)) (.slice (some ⟨go5,0,none⟩) x0_1.length co15) y868 from (by (with_reducible repeat (first|apply Kd.R_alloc|apply Kd.R_drewN|apply Kd.R_drew));exact HO_0.out));obtain ⟨ce29,hcl29,hM29,hcc29,hfr29⟩:=Kd.R_elem HX29.out z71 (x5_1 : Int) (of_decide_eq_true (by first|(with_reducible assumption) | assumption)) (by have h_ : (x5_1 : Int) < ((x0_1.length : Int) : Int):=of_decide_eq_true (by first|(with_reducible assumption) | assumption);first|exact h_|(have e_:=(Kd.R_reads' HO_0.out).1;omega) | simpa using h_);obtain rfl:=k71_openM hM29;have HP29:=Kd.R_seg HX29.out (x5_1 : Int) (of_decide_eq_true (by first|(with_reducible assumption) | assumption)) (by have h_ : (x5_1 : Int) < ((x0_1.length : Int) : Int):=of_decide_eq_true (by first|(with_reducible assumption) | assumption);first|exact h_|(have e_:=(Kd.R_reads' HO_0.out).1;omega) | simpa using h_) (seg:=[.int .i64 (wrap64 ((wrap64 ((wrap64 ((wrap64 ((wrap64 ((wrap64 (x1_1 + 1)) + 1)) + 1)) + 1)) + 1)) + 1))]) (j:=6) hcl29 hcc29 (show 7 ≤ 9 from by decide) (x':=(⟨(rd_T71 y868 x5_1).f0,(rd_T71 y868 x5_1).f1,(rd_T71 y868 x5_1).f2,(rd_T71 y868 x5_1).f3,(rd_T71 y868 x5_1).f4,(rd_T71 y868 x5_1).f5,wrap64 ((wrap64 ((wrap64 ((wrap64 ((wrap64 ((wrap64 (x1_1 + 1)) + 1)) + 1)) + 1)) + 1)) + 1),(rd_T71 y868 x5_1).f7,(rd_T71 y868 x5_1).f8⟩ : S71)) (k71_mkM _ _ _ (⟨(rd_T71 y868 x5_1).f0,(rd_T71 y868 x5_1).f1,(rd_T71 y868 x5_1).f2,(rd_T71 y868 x5_1).f3,(rd_T71 y868 x5_1).f4,(rd_T71 y868 x5_1).f5,wrap64 ((wrap64 ((wrap64 ((wrap64 ((wrap64 ((wrap64 (x1_1 + 1)) + 1)) + 1)) + 1)) + 1)) + 1),(rd_T71 y868 x5_1).f7,(rd_T71 y868 x5_1).f8⟩ : S71) ) (fun _ hk => hk);have hx29_6:=hcc29 6 _ rfl;(try simp only [show (k71).sz = 9 from rfl,Nat.mul_one,Nat.add_zero] at hx29_6);have hf29_6:=hfr29 6;(try simp only [show (k71).sz = 9 from rfl,Nat.mul_one,Nat.add_zero] at hf29_6);clear hcl29 hcc29 hfr29 hM29)|((with_reducible refine gate_store (t:=3) (p:=59) rfl ?_);refine store_event (t:=3) (p:=59) (v:=?vo_w30) (w1:=(w28.setCell ⟨go5,(x5_1 : Int).toNat * 9 + 6,none⟩ (.int .i64 (wrap64 ((wrap64 ((wrap64 ((wrap64 ((wrap64 ((wrap64 (x1_1 + 1)) + 1)) + 1)) + 1)) + 1)) + 1))))) ?hg ?ho ?hn ?hr ?_;(case ho => rfl);(case hg => rfl);(case hn => rfl);(case hr => first|(go_simp;done)|(go_simp;rfl));intro w30 hw;have hg : w28.grownBy w30 (some go5):=(by rw [hw];exact HP29.2);have hp_ : Kd.R k71 71 w30 w0.heap.size (fun k_ => (P0_ k_ ∨ w.heap.size ≤ k_)) (.slice (some ⟨go5,0,none⟩) x0_1.length co15) y869:=(by rw [hw,Ny869.out];exact HP29.1);clear HP29;have n0_:=aMk (hp_);have n1_:=aMk ((by rw [hw];exact below_set (HB.out) GB5.out : Below w0.heap.size w0 w30));have n2_:=aMk (Kept.of_grown (S:=(fun k_ => P0_ k_)) hg (by repeat (first|(with_reducible first|exact HK.out|apply Kept.alloc|apply Kept.drewN|apply Kept.drew)|exact HK.out)) (fun k_ e_ => (HO_0.out.1 k_ e_)));clear HO_0;clear HB;clear HK;have HO_0:=n0_;have HB:=n1_;have HK:=n2_;clear n0_ n1_ n2_;clear hg hw hp_;have p13 : 0 ≤ (x5_1 : Int):=of_decide_eq_true (by first|(with_reducible assumption) | assumption);have q13 : (x5_1 : Int) < ((x0_1.length : Int) : Int):=of_decide_eq_true (by first|(with_reducible assumption) | assumption);obtain ⟨ce13,hcl13,hM13,hcc13,hfr13⟩:=Kd.R_elem HO_0.out z71 (x5_1 : Int) p13 q13;obtain rfl:=k71_openM hM13;have hx13_0 : w30.cell? ⟨go5,(x5_1 : Int).toNat * 9,none⟩ = some (.int .i64 ((rd_T71 y869 x5_1).f0)):=hcc13 0 _ rfl;have hx13_1 : w30.cell? ⟨go5,(x5_1 : Int).toNat * 9 + 1,none⟩ = some (.string ((rd_T71 y869 x5_1).f1)):=hcc13 1 _ rfl;have hx13_2 : w30.cell? ⟨go5,(x5_1 : Int).toNat * 9 + 2,none⟩ = some (.int .i64 ((rd_T71 y869 x5_1).f2)):=hcc13 2 _ rfl;have hx13_3 : w30.cell? ⟨go5,(x5_1 : Int).toNat * 9 + 3,none⟩ = some (.int .i64 ((rd_T71 y869 x5_1).f3)):=hcc13 3 _ rfl;have hx13_4 : w30.cell? ⟨go5,(x5_1 : Int).toNat * 9 + 4,none⟩ = some (.int .i64 ((rd_T71 y869 x5_1).f4)):=hcc13 4 _ rfl;have hx13_5 : w30.cell? ⟨go5,(x5_1 : Int).toNat * 9 + 5,none⟩ = some (.int .i64 ((rd_T71 y869 x5_1).f5)):=hcc13 5 _ rfl;have hx13_6 : w30.cell? ⟨go5,(x5_1 : Int).toNat * 9 + 6,none⟩ = some (.int .i64 ((rd_T71 y869 x5_1).f6)):=hcc13 6 _ rfl;have hx13_7 : w30.cell? ⟨go5,(x5_1 : Int).toNat * 9 + 7,none⟩ = some (.int .i64 ((rd_T71 y869 x5_1).f7)):=hcc13 7 _ rfl;have hx13_8 : w30.cell? ⟨go5,(x5_1 : Int).toNat * 9 + 8,none⟩ = some (.int .i64 ((rd_T71 y869 x5_1).f8)):=hcc13 8 _ rfl;have hf13_0 : w30.frozen? ⟨go5,(x5_1 : Int).toNat * 9,none⟩ = false:=hfr13 0;have hf13_1 : w30.frozen? ⟨go5,(x5_1 : Int).toNat * 9 + 1,none⟩ = false:=hfr13 1;have hf13_2 : w30.frozen? ⟨go5,(x5_1 : Int).toNat * 9 + 2,none⟩ = false:=hfr13 2;have hf13_3 : w30.frozen? ⟨go5,(x5_1 : Int).toNat * 9 + 3,none⟩ = false:=hfr13 3;have hf13_4 : w30.frozen? ⟨go5,(x5_1 : Int).toNat * 9 + 4,none⟩ = false:=hfr13 4;have hf13_5 : w30.frozen? ⟨go5,(x5_1 : Int).toNat * 9 + 5,none⟩ = false:=hfr13 5;have hf13_6 : w30.frozen? ⟨go5,(x5_1 : Int).toNat * 9 + 6,none⟩ = false:=hfr13 6;have hf13_7 : w30.frozen? ⟨go5,(x5_1 : Int).toNat * 9 + 7,none⟩ = false:=hfr13 7;have hf13_8 : w30.frozen? ⟨go5,(x5_1 : Int).toNat * 9 + 8,none⟩ = false:=hfr13 8;clear hcl13 hcc13 hfr13 hM13;replace p13:=eq_true p13;replace q13:=eq_true q13;have HX31:=aMk (show Kd.R k71 71 w30 w0.heap.size (fun k_ => (P0_ k_ ∨ w.heap.size ≤ k_)) (.slice (some ⟨go5,0,none⟩) x0_1.length co15) y869 from (by (with_reducible repeat (first|apply Kd.R_alloc|apply Kd.R_drewN|apply Kd.R_drew));exact HO_0.out));obtain ⟨ce31,hcl31,hM31,hcc31,hfr31⟩:=Kd.R_elem HX31.out z71 (x5_1 : Int) (of_decide_eq_true (by first|(with_reducible assumption) | assumption)) (by have h_ : (x5_1 : Int) < ((x0_1.length : Int) : Int):=of_decide_eq_true (by first|(with_reducible assumption) | assumption);first|exact h_|(have e_:=(Kd.R_reads' HO_0.out).1;omega) | simpa using h_);obtain rfl:=k71_openM hM31;have HP31:=Kd.R_seg HX31.out (x5_1 : Int) (of_decide_eq_true (by first|(with_reducible assumption) | assumption)) (by have h_ : (x5_1 : Int) < ((x0_1.length : Int) : Int):=of_decide_eq_true (by first|(with_reducible assumption) | assumption);first|exact h_|(have e_:=(Kd.R_reads' HO_0.out).1;omega) | simpa using h_) (seg:=[.int .i64 (wrap64 ((wrap64 ((wrap64 ((wrap64 ((wrap64 ((wrap64 ((wrap64 (x1_1 + 1)) + 1)) + 1)) + 1)) + 1)) + 1)) + 1))]) (j:=7) hcl31 hcc31 (show 8 ≤ 9 from by decide) (x':=(⟨(rd_T71 y869 x5_1).f0,(rd_T71 y869 x5_1).f1,(rd_T71 y869 x5_1).f2,(rd_T71 y869 x5_1).f3,(rd_T71 y869 x5_1).f4,(rd_T71 y869 x5_1).f5,(rd_T71 y869 x5_1).f6,wrap64 ((wrap64 ((wrap64 ((wrap64 ((wrap64 ((wrap64 ((wrap64 (x1_1 + 1)) + 1)) + 1)) + 1)) + 1)) + 1)) + 1),(rd_T71 y869 x5_1).f8⟩ : S71)) (k71_mkM _ _ _ (⟨(rd_T71 y869 x5_1).f0,(rd_T71 y869 x5_1).f1,(rd_T71 y869 x5_1).f2,(rd_T71 y869 x5_1).f3,(rd_T71 y869 x5_1).f4,(rd_T71 y869 x5_1).f5,(rd_T71 y869 x5_1).f6,wrap64 ((wrap64 ((wrap64 ((wrap64 ((wrap64 ((wrap64 ((wrap64 (x1_1 + 1)) + 1)) + 1)) + 1)) + 1)) + 1)) + 1),(rd_T71 y869 x5_1).f8⟩ : S71) ) (fun _ hk => hk);have hx31_7:=hcc31 7 _ rfl;(try simp only [show (k71).sz = 9 from rfl,Nat.mul_one,Nat.add_zero] at hx31_7);have hf31_7:=hfr31 7;(try simp only [show (k71).sz = 9 from rfl,Nat.mul_one,Nat.add_zero] at hf31_7);clear hcl31 hcc31 hfr31 hM31)|((with_reducible refine gate_store (t:=3) (p:=66) rfl ?_);refine store_event (t:=3) (p:=66) (v:=?vo_w32) (w1:=(w30.setCell ⟨go5,(x5_1 : Int).toNat * 9 + 7,none⟩ (.int .i64 (wrap64 ((wrap64 ((wrap64 ((wrap64 ((wrap64 ((wrap64 ((wrap64 (x1_1 + 1)) + 1)) + 1)) + 1)) + 1)) + 1)) + 1))))) ?hg ?ho ?hn ?hr ?_;(case ho => rfl);(case hg => rfl);(case hn => rfl);(case hr => first|(go_simp;done)|(go_simp;rfl));intro w32 hw;have hg : w30.grownBy w32 (some go5):=(by rw [hw];exact HP31.2);have hp_ : Kd.R k71 71 w32 w0.heap.size (fun k_ => (P0_ k_ ∨ w.heap.size ≤ k_)) (.slice (some ⟨go5,0,none⟩) x0_1.length co15) y870:=(by rw [hw,Ny870.out];exact HP31.1);clear HP31;have n0_:=aMk (hp_);have n1_:=aMk ((by rw [hw];exact below_set (HB.out) GB5.out : Below w0.heap.size w0 w32));have n2_:=aMk (Kept.of_grown (S:=(fun k_ => P0_ k_)) hg (by repeat (first|(with_reducible first|exact HK.out|apply Kept.alloc|apply Kept.drewN|apply Kept.drew)|exact HK.out)) (fun k_ e_ => (HO_0.out.1 k_ e_)));clear HO_0;clear HB;clear HK;have HO_0:=n0_;have HB:=n1_;have HK:=n2_;clear n0_ n1_ n2_;clear hg hw hp_;have p14 : 0 ≤ (x5_1 : Int):=of_decide_eq_true (by first|(with_reducible assumption) | assumption);have q14 : (x5_1 : Int) < ((x0_1.length : Int) : Int):=of_decide_eq_true (by first|(with_reducible assumption) | assumption);obtain ⟨ce14,hcl14,hM14,hcc14,hfr14⟩:=Kd.R_elem HO_0.out z71 (x5_1 : Int) p14 q14;obtain rfl:=k71_openM hM14;have hx14_0 : w32.cell? ⟨go5,(x5_1 : Int).toNat * 9,none⟩ = some (.int .i64 ((rd_T71 y870 x5_1).f0)):=hcc14 0 _ rfl;have hx14_1 : w32.cell? ⟨go5,(x5_1 : Int).toNat * 9 + 1,none⟩ = some (.string ((rd_T71 y870 x5_1).f1)):=hcc14 1 _ rfl;have hx14_2 : w32.cell? ⟨go5,(x5_1 : Int).toNat * 9 + 2,none⟩ = some (.int .i64 ((rd_T71 y870 x5_1).f2)):=hcc14 2 _ rfl;have hx14_3 : w32.cell? ⟨go5,(x5_1 : Int).toNat * 9 + 3,none⟩ = some (.int .i64 ((rd_T71 y870 x5_1).f3)):=hcc14 3 _ rfl;have hx14_4 : w32.cell? ⟨go5,(x5_1 : Int).toNat * 9 + 4,none⟩ = some (.int .i64 ((rd_T71 y870 x5_1).f4)):=hcc14 4 _ rfl;have hx14_5 : w32.cell? ⟨go5,(x5_1 : Int).toNat * 9 + 5,none⟩ = some (.int .i64 ((rd_T71 y870 x5_1).f5)):=hcc14 5 _ rfl;have hx14_6 : w32.cell? ⟨go5,(x5_1 : Int).toNat * 9 + 6,none⟩ = some (.int .i64 ((rd_T71 y870 x5_1).f6)):=hcc14 6 _ rfl;have hx14_7 : w32.cell? ⟨go5,(x5_1 : Int).toNat * 9 + 7,none⟩ = some (.int .i64 ((rd_T71 y870 x5_1).f7)):=hcc14 7 _ rfl;have hx14_8 : w32.cell? ⟨go5,(x5_1 : Int).toNat * 9 + 8,none⟩ = some (.int .i64 ((rd_T71 y870 x5_1).f8)):=hcc14 8 _ rfl;have hf14_0 : w32.frozen? ⟨go5,(x5_1 : Int).toNat * 9,none⟩ = false:=hfr14 0;have hf14_1 : w32.frozen? ⟨go5,(x5_1 : Int).toNat * 9 + 1,none⟩ = false:=hfr14 1;have hf14_2 : w32.frozen? ⟨go5,(x5_1 : Int).toNat * 9 + 2,none⟩ = false:=hfr14 2;have hf14_3 : w32.frozen? ⟨go5,(x5_1 : Int).toNat * 9 + 3,none⟩ = false:=hfr14 3;have hf14_4 : w32.frozen? ⟨go5,(x5_1 : Int).toNat * 9 + 4,none⟩ = false:=hfr14 4;have hf14_5 : w32.frozen? ⟨go5,(x5_1 : Int).toNat * 9 + 5,none⟩ = false:=hfr14 5;have hf14_6 : w32.frozen? ⟨go5,(x5_1 : Int).toNat * 9 + 6,none⟩ = false:=hfr14 6;have hf14_7 : w32.frozen? ⟨go5,(x5_1 : Int).toNat * 9 + 7,none⟩ = false:=hfr14 7;have hf14_8 : w32.frozen? ⟨go5,(x5_1 : Int).toNat * 9 + 8,none⟩ = false:=hfr14 8;clear hcl14 hcc14 hfr14 hM14;replace p14:=eq_true p14;replace q14:=eq_true q14;have HX33:=aMk (show Kd.R k71 71 w32 w0.heap.size (fun k_ => (P0_ k_ ∨ w.heap.size ≤ k_)) (.slice (some ⟨go5,0,none⟩) x0_1.length co15) y870 from (by (with_reducible repeat (first|apply Kd.R_alloc|apply Kd.R_drewN|apply Kd.R_drew));exact HO_0.out));obtain ⟨ce33,hcl33,hM33,hcc33,hfr33⟩:=Kd.R_elem HX33.out z71 (x5_1 : Int) (of_decide_eq_true (by first|(with_reducible assumption) | assumption)) (by have h_ : (x5_1 : Int) < ((x0_1.length : Int) : Int):=of_decide_eq_true (by first|(with_reducible assumption) | assumption);first|exact h_|(have e_:=(Kd.R_reads' HO_0.out).1;omega) | simpa using h_);obtain rfl:=k71_openM hM33;have HP33:=Kd.R_seg HX33.out (x5_1 : Int) (of_decide_eq_true (by first|(with_reducible assumption) | assumption)) (by have h_ : (x5_1 : Int) < ((x0_1.length : Int) : Int):=of_decide_eq_true (by first|(with_reducible assumption) | assumption);first|exact h_|(have e_:=(Kd.R_reads' HO_0.out).1;omega) | simpa using h_) (seg:=[.int .i64 (wrap64 ((wrap64 ((wrap64 ((wrap64 ((wrap64 ((wrap64 ((wrap64 ((wrap64 (x1_1 + 1)) + 1)) + 1)) + 1)) + 1)) + 1)) + 1)) + 1))]) (j:=8) hcl33 hcc33 (show 9 ≤ 9 from by decide) (x':=(⟨(rd_T71 y870 x5_1).f0,(rd_T71 y870 x5_1).f1,(rd_T71 y870 x5_1).f2,(rd_T71 y870 x5_1).f3,(rd_T71 y870 x5_1).f4,(rd_T71 y870 x5_1).f5,(rd_T71 y870 x5_1).f6,(rd_T71 y870 x5_1).f7,wrap64 ((wrap64 ((wrap64 ((wrap64 ((wrap64 ((wrap64 ((wrap64 ((wrap64 (x1_1 + 1)) + 1)) + 1)) + 1)) + 1)) + 1)) + 1)) + 1)⟩ : S71)) (k71_mkM _ _ _ (⟨(rd_T71 y870 x5_1).f0,(rd_T71 y870 x5_1).f1,(rd_T71 y870 x5_1).f2,(rd_T71 y870 x5_1).f3,(rd_T71 y870 x5_1).f4,(rd_T71 y870 x5_1).f5,(rd_T71 y870 x5_1).f6,(rd_T71 y870 x5_1).f7,wrap64 ((wrap64 ((wrap64 ((wrap64 ((wrap64 ((wrap64 ((wrap64 ((wrap64 (x1_1 + 1)) + 1)) + 1)) + 1)) + 1)) + 1)) + 1)) + 1)⟩ : S71) ) (fun _ hk => hk);have hx33_8:=hcc33 8 _ rfl;(try simp only [show (k71).sz = 9 from rfl,Nat.mul_one,Nat.add_zero] at hx33_8);have hf33_8:=hfr33 8;(try simp only [show (k71).sz = 9 from rfl,Nat.mul_one,Nat.add_zero] at hf33_8);clear hcl33 hcc33 hfr33 hM33)|((with_reducible refine gate_store (t:=3) (p:=73) rfl ?_);refine store_event (t:=3) (p:=73) (v:=?vo_w34) (w1:=(w32.setCell ⟨go5,(x5_1 : Int).toNat * 9 + 8,none⟩ (.int .i64 (wrap64 ((wrap64 ((wrap64 ((wrap64 ((wrap64 ((wrap64 ((wrap64 ((wrap64 (x1_1 + 1)) + 1)) + 1)) + 1)) + 1)) + 1)) + 1)) + 1))))) ?hg ?ho ?hn ?hr ?_;(case ho => rfl);(case hg => rfl);(case hn => rfl);(case hr => first|(go_simp;done)|(go_simp;rfl));intro w34 hw;have hg : w32.grownBy w34 (some go5):=(by rw [hw];exact HP33.2);have hp_ : Kd.R k71 71 w34 w0.heap.size (fun k_ => (P0_ k_ ∨ w.heap.size ≤ k_)) (.slice (some ⟨go5,0,none⟩) x0_1.length co15) y871:=(by rw [hw,Ny871.out];exact HP33.1);clear HP33;have n0_:=aMk (hp_);have n1_:=aMk ((by rw [hw];exact below_set (HB.out) GB5.out : Below w0.heap.size w0 w34));have n2_:=aMk (Kept.of_grown (S:=(fun k_ => P0_ k_)) hg (by repeat (first|(with_reducible first|exact HK.out|apply Kept.alloc|apply Kept.drewN|apply Kept.drew)|exact HK.out)) (fun k_ e_ => (HO_0.out.1 k_ e_)));clear HO_0;clear HB;clear HK;have HO_0:=n0_;have HB:=n1_;have HK:=n2_;clear n0_ n1_ n2_;clear hg hw hp_))
     go_roundg k1
     case measure => have:=HK1.out;omega
     case rel => exact ⟨(y871),(wrap64 ((wrap64 ((wrap64 ((wrap64 ((wrap64 ((wrap64 ((wrap64 ((wrap64 ((wrap64 (x1_1 + 1)) + 1)) + 1)) + 1)) + 1)) + 1)) + 1)) + 1)) + 1)),(wrap64 (x5_1 + 1)),(by first | rfl|(simp;done)|(simp [*];done)|(simp [ne_nil_b];done)|(simp [ne_nil_b, *];done)),(by first | rfl|(simp;done)|(simp [*];done)|(simp [ne_nil_b];done)|(simp [ne_nil_b, *];done)),H',⟨by have:=HK1.out;omega⟩,⟨by (with_reducible repeat (first|apply Kd.R_alloc|apply Kd.R_drewN|apply Kd.R_drew));exact HO_0.out⟩,⟨by repeat (first|(with_reducible first|exact HK.out|apply Kept.alloc|apply Kept.drewN|apply Kept.drew)|exact HK.out)⟩,⟨by repeat (first|(with_reducible first|exact HB.out|apply bwA|apply bwN|apply bw1)|exact HB.out)⟩⟩
    ·rw [if_neg c4] at H
     exact absurd H (by simp)
   ·rw [if_neg c3] at H
    have c3b0 : decide (x5_1 < (x0_1.length : Int)) = false:=decide_eq_false c3
    clear c3
    simp only [Option.some.injEq,Prod.mk.injEq] at H
    obtain ⟨rfl,rfl⟩:=H
    obtain ⟨Ao35,co35,eo35⟩:=Kd.R_slice HO_0.out
    subst eo35
    go_wp2
    go_ret
    exact ⟨eRf,by (with_reducible repeat (first|apply Kd.R_alloc|apply Kd.R_drewN|apply Kd.R_drew));exact HO_0.out,by repeat (first|(with_reducible first|exact HB.out|apply bwA|apply bwN|apply bw1)|exact HB.out),by repeat (first|(with_reducible first|exact HK.out|apply Kept.alloc|apply Kept.drewN|apply Kept.drew)|exact HK.out)⟩
end
end Go.Proofs.Ytlpkldomoniegaa.X
