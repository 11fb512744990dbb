/- Texts that the row of FnExactEndSession stands on: functions of the program and of the reference, each as a Lean function with the same answers, and the plain lemmas. Conditions: none beside those that each theorem names. -/
import Derived.Test.YtkklokkldgkacaaGreatCFnExactEndSession14
namespace Go.Proofs.YtkklokkldgkacaaGreat.X
open Go.RowKit Go.Proofs.YtkklokkldgkacaaGreatW.PrintWords Go.Proofs.YtkklokkldgkacaaGreatW.PrintLast Go.Proofs.YtkklokkldgkacaaGreatW.PrintMore
attribute [local go_sem] max2_int min2_int max_two min_two max_three min_three max_four min_four   -- for this text's walks alone
set_option linter.unusedVariables false
set_option linter.unusedSimpArgs false
section
-- NEEDS laws.eqConfig laws.markText
/-- The block of the roles: of each one the cell of its rules stays. -/
def RInv (w : World) (g s : Nat) (cur : Array Value) : Prop := ∃ c2 : Array Value, w.heap[g]? = some (Obj.cells c2 145 (0, 0)) ∧ c2.size = s ∧ ∀ i : Nat, c2[i * 5 + 1]? = cur[i * 5 + 1]?
theorem RInv.but {T : Nat → Prop} {w W : World} {g s : Nat} {cur : Array Value} (h : RInv w g s cur) (hb : ButS T w W) (hT : ¬ T g) : RInv W g s cur := by
  obtain ⟨c2, h1, h2, h3⟩ := h
  exact ⟨c2, blk_but h1 hb hT, h2, h3⟩
theorem raw_put {P : Program} {ops : Array Oper} {rest : List Oper} {o : Oper} {a : Act} {Q : Exit → Act → World → Prop} {S : Nat → Prop} {W : World} {g s : Nat} {cur : Array Value} (hN : o.dst = none) (hgd : o.guard = none) (t : TypeId) (pp x : Operand) (ho : o.op = .store t pp x) (HX : RInv W g s cur) (hg : S g) {o' : Nat} {u : Value} (haddr : a.eval pp = .pointer (some ⟨g, o', none⟩)) (hx : a.eval x = u) (hm : o' % 5 ≠ 1) (hu : u.cells.toList = [u]) (h1 : u.oneCell' = true) (ht : (P.info? t).map (·.size) = some 1) (hp : o' < s)
    (h : ∀ w1, RInv w1 g s cur → ButS S W w1 → wpList P ops Q rest a w1) : wpList P ops Q (o :: rest) a W := by
  obtain ⟨c2, hh, hs, h3⟩ := HX
  have hf : RInv (W.setCell ⟨g, o', none⟩ u) g s cur := ⟨_, blk_put hh o' _ rfl, by simpa using hs, fun i => by
    rw [Array.getElem?_setIfInBounds, if_neg (by omega)]; exact h3 i⟩
  have hb : ButS S W (W.setCell ⟨g, o', none⟩ u) := ButS.set hh hg o' u
  refine wpList_plain hgd fun K hK => ?_
  have hrun : (Instr.storeAt t (.pointer (some ⟨g, o', none⟩)) u).run P W = .ok () (W.setCells g o' [u]) := run_store_run t _ _ hh hu (by rw [ht]; rfl) (by rw [hs]; exact hp) (by intro q hq; rw [List.mem_singleton.1 hq]; exact h1)
  unfold Oper.wp execOp
  simp only [ho, haddr, hx, Sem.run_bind, Sem.run_pure, Result.andThen_ok, hrun]
  show K (a.put o.dst undef) _
  rw [hN]
  exact hK _ _ (h _ hf hb)
set_option maxHeartbeats 8000000 in
set_option maxRecDepth 100000 in
theorem markRole1 {S : Nat → Prop} (g n c : Nat) (cur : Array Value) (k : Int) (w : World) (hx : w.heap[g]? = some (Obj.cells cur 145 (0, 0))) (hg : S g) (hn : n * 5 ≤ cur.size) (hr : ∀ i : Nat, i < n → ∃ A m d, cur[i * 5 + 1]? = some (.slice A m d) ∧ RowA w S A m 183 6 ∧ m ≤ 1048576) (hz : n ≤ 1048576) (k0 : 0 ≤ k) (k1 : k ≤ 1099511627776) :
    Calls Tryz.prog 72 #[.slice (some ⟨g, 0, none⟩) n c, .int .i64 k] w fun e w' => ∃ k2 : Int, e = .returned (.int .i64 k2) ∧ k ≤ k2 ∧ k2 ≤ k + n * 6291460 ∧ ButS S w w' := by
  have HX := Aside0.mk (show RInv w g cur.size cur from ⟨cur, hx, rfl, fun _ => rfl⟩)
  have HG := Aside0.mk hg
  have HR := Aside0.mk hr
  have HY := Aside0.mk (show TypeAt w g 145 from ⟨cur, hx⟩)
  clear hg hr hx
  have HT := Aside0.mk (ButS.refl S w)
  go_enter Tryz.func72, Tryz.ntmps72
  go_wp2
  go_loopg [1, 5] n (fun gg v1 v5 w' => ∃ i x : Int, v1 = .int .i64 x ∧ v5 = .int .i64 i ∧ 0 ≤ i ∧ i ≤ n ∧ n - i ≤ gg ∧ k ≤ x ∧ x ≤ k + i * 6291460 ∧ Aside0 (RInv w' g cur.size cur) ∧ Aside0 (ButS S w w'))
  case atStart => exact ⟨0, k, rfl, rfl, by omega, by omega, by omega, by omega, by omega, HX, HT⟩
  case round =>
    clear HX HT
    obtain ⟨i, x, rfl, rfl, hi0, hi, hgg, hx0, hx1, HX, HT⟩ := hrel
    by_cases hlt : i < n
    · have hm : i.toNat * 5 + 5 ≤ cur.size := by omega
      obtain ⟨A, m, d, hc, ha, hmz⟩ := HR.out i.toNat (by omega)
      have HC := Aside0.mk hc
      have HA := Aside0.mk ha
      clear hc ha
      go_wp2_with (first
        | ((with_reducible refine gate_store rfl ?_); refine raw_put (S := S) rfl rfl _ _ _ rfl HX.out HG.out rfl rfl (by omega) rfl rfl (by kernel_rfl) (by omega) ?_; intro w3 hf hb; clear HX; have HX := Aside0.mk hf; have n_ := Aside0.mk (HT.out.trans hb); clear HT; have HT := n_; clear n_ hf hb; (try clear q1c hzg); have q1c := (show w3.cell? ⟨g, i.toNat * 5 + 1, none⟩ = some (.slice A m d) from by obtain ⟨c2, z1, z2, z3⟩ := HX.out; rw [blk_cell z1, z3]; exact HC.out))
        | (go_at_call 127; refine (markText1 _ _ (by omega) (by omega)).mono ?_; rintro e w2 ⟨rfl, hb⟩; have n_ := Aside0.mk (HX.out.but (ButS.of (S := fun _ => False) hb) (fun h => h)); clear HX; have HX := n_; clear n_; have n_ := Aside0.mk (HT.out.trans (ButS.of hb)); clear HT; have HT := n_; clear n_ hb)
        | (go_at_call 128; go_loud (refine (markRuleR (S := fun b => S b ∧ TypeAt w b 183) A m _ _ _ ((HA.out.typed).but HT.out) (by omega) (by omega) (by omega)).mono ?_; rintro e w2 ⟨rfl, _, hb⟩; have n_ := Aside0.mk (HX.out.but hb (fun h => absurd (h.2.ne HY.out) (by decide))); clear HX; have HX := n_; clear n_; have n_ := Aside0.mk (HT.out.trans (hb.mono (fun b h => h.1))); clear HT; have HT := n_; clear n_ hb; (try clear q1c))))
      go_roundg (n - (i + 1)).toNat
      case measure => omega
      case rel => exact ⟨i + 1, _, rfl, rfl, by omega, by omega, by omega, by omega, by omega, HX, HT⟩
    · obtain rfl : i = n := by omega
      go_wp2
      go_ret
      exact ⟨x, rfl, hx0, hx1, HT.out⟩
theorem R_rowA {β : Type} {d : Kd β} {e base n c : Nat} {ok : Nat → Prop} {w : World} {A : Option Addr} {xs : List β} (h : d.R e w base ok (.slice A n c) xs) : RowA w (fun b => base ≤ b ∧ b < w.heap.size ∧ ok b) A n e d.sz := by
  obtain ⟨h0, inner, ho, hr⟩ := h
  rcases ho.2 with ⟨hv, hn⟩ | ⟨g, cap, cur, hv, hb, hh, hnc, hcm, hcs, _⟩
  · injection hv with h1 h2 h3
    exact .inl h2
  · injection hv with h1 h2 h3
    subst h1 h3
    refine .inr ⟨g, cur, rfl, ⟨hb, blk_lt hh, h0 g (by simp [Value.ownBlock])⟩, hh, ?_⟩
    rw [hcs, h2]
    exact Nat.mul_le_mul_right _ hnc
theorem RowA.mono {S T : Nat → Prop} {w : World} {A : Option Addr} {n e sz : Nat} (h : RowA w S A n e sz) (hst : ∀ b, S b → T b) : RowA w T A n e sz := by
  rcases h with h | ⟨g, cur, h1, h2, h3, h4⟩
  · exact .inl h
  · exact .inr ⟨g, cur, h1, hst g h2, h3, h4⟩
def RoleRow (w : World) (S : Nat → Prop) (A : Option Addr) (n : Nat) : Prop := n = 0 ∨ ∃ (g : Nat) (cur : Array Value), A = some ⟨g, 0, none⟩ ∧ S g ∧ w.heap[g]? = some (Obj.cells cur 145 (0, 0)) ∧ n * 5 ≤ cur.size ∧ ∀ i : Nat, i < n → ∃ A m d, cur[i * 5 + 1]? = some (.slice A m d) ∧ RowA w S A m 183 6 ∧ m ≤ 1048576
theorem RoleRow.but {S T : Nat → Prop} {w W : World} {A : Option Addr} {n : Nat} (h : RoleRow w S A n) (hb : ButS T w W) (hT : ∀ b, T b → ¬ TypeAt w b 145) : RoleRow W S A n := by
  rcases h with h | ⟨g, cur, h1, h2, h3, h4, h5⟩
  · exact .inl h
  · refine .inr ⟨g, cur, h1, h2, blk_but h3 hb (fun h => hT g h ⟨cur, h3⟩), h4, fun i hi => ?_⟩
    obtain ⟨A, m, d, q1, q2, q3⟩ := h5 i hi
    exact ⟨A, m, d, q1, q2.but hb, q3⟩
theorem R_roleRow {S : Nat → Prop} {base n c : Nat} {ok : Nat → Prop} {w : World} {A : Option Addr} {xs : List S145} (h : Kd.R k145 145 w base ok (.slice A n c) xs) (y : ∀ r ∈ xs, r.f1.length ≤ 1048576) (hS : ∀ b, ok b → S b) : RoleRow w S A n := by
  rcases R_rowA h with h0 | ⟨g, cur, rfl, hg, hc, hn⟩
  · exact .inl h0
  · refine .inr ⟨g, cur, rfl, hS g hg.2.2, hc, hn, fun i hi => ?_⟩
    have hx : n = xs.length := (Kd.R_reads' h).1
    obtain ⟨cs, h1, h2, h3, _⟩ := Kd.R_elem h z145 (i : Int) (by omega) (by omega)
    obtain ⟨v1, rfl, hv⟩ := k145_openM h2
    obtain ⟨A1, c1, rfl⟩ := Kd.R_slice hv
    have h4 := h3 1 _ rfl
    rw [blk_cell hc, Int.toNat_natCast] at h4
    refine ⟨A1, _, c1, h4, (R_rowA hv).mono (fun b hb => hS b hb.2.2.1), y _ ?_⟩
    rw [List.getD_eq_getElem?_getD, List.getElem?_eq_getElem (show i < xs.length by omega)]
    exact List.getElem_mem _
set_option maxHeartbeats 8000000 in
set_option maxRecDepth 100000 in
theorem markRole0 (A : Option Addr) (c : Nat) (k : Int) (w : World) :
    Calls Tryz.prog 72 #[.slice A 0 c, .int .i64 k] w fun e w' => e = .returned (.int .i64 k) ∧ Below w.heap.size w w' := by
  have HB := Aside0.mk (Below.refl w.heap.size w)
  go_enter Tryz.func72, Tryz.ntmps72
  go_wp2
  go_loopg [1, 5] 0 (fun gg v1 v5 w' => v1 = .int .i64 k ∧ v5 = .int .i64 0 ∧ Aside0 (Below w.heap.size w w'))
  case atStart => exact ⟨rfl, rfl, HB⟩
  case round =>
    clear HB
    obtain ⟨rfl, rfl, HB⟩ := hrel
    go_wp2
    go_ret
    exact ⟨rfl, HB.out⟩
theorem markRoleR {S : Nat → Prop} (A : Option Addr) (n c : Nat) (k : Int) (w : World) (h : RoleRow w S A n) (hz : n ≤ 1048576) (k0 : 0 ≤ k) (k1 : k ≤ 1099511627776) :
    Calls Tryz.prog 72 #[.slice A n c, .int .i64 k] w fun e w' => ∃ k2 : Int, e = .returned (.int .i64 k2) ∧ k ≤ k2 ∧ k2 ≤ k + n * 6291460 ∧ ButS S w w' := by
  rcases h with rfl | ⟨g, cur, rfl, hg, hc, hn, hr⟩
  · refine (markRole0 A c k w).mono ?_
    rintro e w' ⟨rfl, hb⟩
    exact ⟨k, rfl, by omega, by omega, ButS.of hb⟩
  · exact markRole1 g n c cur k w hc hg hn hr hz k0 k1
set_option maxHeartbeats 8000000 in
set_option maxRecDepth 100000 in
theorem markC1 {S : Nat → Prop} (ip b gate : Int) (gm wm : ByteArray) (res : Int) (A6 A7 : Option Addr) (n6 n7 c6 c7 : Nat) (k : Int) (w : World) (h6 : RowA w S A6 n6 140 4) (h7 : RoleRow w S A7 n7) (hS : ∀ b, S b → b < w.heap.size) (z6 : n6 ≤ 1048576) (z7 : n7 ≤ 1048576) (k0 : 0 ≤ k) (k1 : k ≤ 1048576) :
    Calls Tryz.prog 17 #[.agg #[.int .i64 ip, .int .i64 b, .int .i64 gate, .string gm, .string wm, .int .i64 res, .slice A6 n6 c6, .slice A7 n7 c7], .int .i64 k] w fun e w' => ∃ k2 : Int, e = .returned (.int .i64 k2) ∧ k ≤ k2 ∧ k2 ≤ 70368744177664 ∧ ButS S w w' := by
  have hu := Tryz.underlying41
  have HR6 := Aside0.mk h6.typed
  have HR7 := Aside0.mk h7
  have HS := Aside0.mk hS
  clear h6 h7 hS
  have HT := Aside0.mk (ButS.refl S w)
  go_enter Tryz.func17, Tryz.ntmps17
  go_wp2_with (first
    | (go_at_call 71; go_loud (refine (markPlaceR (S := fun b => S b ∧ TypeAt w b 140) A6 n6 _ _ _ (HR6.out.but (ButS.of (S := fun _ => False) (below_alloc (Below.refl _ _) _))) (by omega) (by omega) (by omega)).mono ?_; rintro e w2 ⟨rfl, _, hb⟩; have HX := Aside0.mk (blk_but (g := w.heap.size) (o := (.cells #[.int .i64 ip, .int .i64 b, .int .i64 gate, .string gm, .string wm, .int .i64 res, .slice A6 n6 c6, .slice A7 n7 c7] 41 (0, 0))) (blk_new _ _) hb (fun h => Nat.lt_irrefl _ (HS.out _ h.1))); have hr7 := (HR7.out.but (ButS.of (S := fun _ => False) (below_alloc (Below.refl _ _) _)) (fun _ h => h.elim)).but hb (fun b h1 h2 => absurd ((h1.2.but (ButS.of (S := fun _ => False) (below_alloc (Below.refl _ _) _))).ne h2) (by decide)); clear HR7; have HR7 := Aside0.mk hr7; clear hr7; have n_ := Aside0.mk ((HT.out.trans (ButS.of (below_alloc (Below.refl _ _) _))).trans (hb.mono (fun b h => h.1))); clear HT; have HT := n_; clear n_ hb; have cx := blk_cell HX.out; have hzx := blk_lt HX.out))
    | (go_at_call 72; go_loud (refine (markRoleR (S := S) A7 n7 _ _ _ HR7.out z7 (by omega) (by omega)).mono ?_; rintro e w3 ⟨k2, rfl, hk0, hk1, hb⟩; have n_ := Aside0.mk (HT.out.trans hb); clear HT; have HT := n_; clear n_ hb)))
  go_ret
  exact ⟨k2, rfl, by omega, by omega, HT.out⟩
end
section
-- NEEDS laws.eqConfig laws.szConfig laws.toConfig laws.markText
/-- The blocks from lo to hi. -/
def Ivl (lo hi : Nat) : Nat → Prop := fun b => lo ≤ b ∧ b < hi
theorem ivl0 {w W : World} (hb : Below w.heap.size w W) : ButS (Ivl 0 0) w W := ButS.of hb
theorem blk_I {w W : World} {g lo hi : Nat} {o : Obj} (h : w.heap[g]? = some o) (hb : ButS (Ivl lo hi) w W) (c : g < lo ∨ hi ≤ g) : W.heap[g]? = some o := blk_but h hb (fun hs => by have h1 := hs.1; have h2 := hs.2; omega)
theorem Below_I {v w W : World} {lo hi : Nat} (h : Below v.heap.size v w) (hb : ButS (Ivl lo hi) w W) (c : v.heap.size ≤ lo ∨ hi ≤ lo) : Below v.heap.size v W :=
  ⟨hb.os.trans h.os, hb.tape.trans h.tape, hb.output.trans h.output, Nat.le_trans h.size hb.size, fun b hl => (hb.block b (Nat.lt_of_lt_of_le hl h.size) (fun hs => by have h1 := hs.1; have h2 := hs.2; omega)).trans (h.block b hl)⟩
theorem R_I {α : Type} {d : Kd α} {e : Nat} {w W : World} {a b lo hi : Nat} {v : Value} {xs : List α} (h : d.R e w a (fun k => k < b) v xs) (hb : ButS (Ivl lo hi) w W) (c : b ≤ lo ∨ hi ≤ a ∨ hi ≤ lo) : d.R e W a (fun k => k < b) v xs :=
  Kd.R_mono (Kd.R_move (Kd.R_bound h) (fun k hk => hb.block k hk.2.2.1 (fun hs => by have h1 := hs.1; have h2 := hs.2; have h3 := hk.1; have h4 := hk.2.1; omega))) (fun k hk => hk.1)
theorem R_in {α : Type} {d : Kd α} {e : Nat} {w : World} {a a2 b : Nat} {v : Value} {xs : List α} (h : d.R e w a (fun _ => True) v xs) (ha : a2 ≤ a) (hb : w.heap.size ≤ b) : d.R e w a2 (fun k => k < b) v xs :=
  Kd.R_lower (Kd.R_mono (Kd.R_bound h) (fun k hk => Nat.lt_of_lt_of_le hk.2.2.1 hb)) ha
theorem alloc_sz (w : World) (o : Obj) : (w.alloc o).heap.size = w.heap.size + 1 := Array.size_push ..
/-- The rows of guests, in blocks from a to b. -/
def RR4 (W : World) (a b : Nat) (v0 v1 v2 v3 : Value) (q : GV) : Prop := Kd.R k92 92 W a (fun k => k < b) v0 q.us ∧ Kd.R k76 76 W a (fun k => k < b) v1 q.ss ∧ Kd.R k81 81 W a (fun k => k < b) v2 q.fs ∧ Kd.R k83 83 W a (fun k => k < b) v3 q.rs
theorem RR4.I {w W : World} {a b lo hi : Nat} {v0 v1 v2 v3 : Value} {q : GV} (h : RR4 w a b v0 v1 v2 v3 q) (hb : ButS (Ivl lo hi) w W) (c : b ≤ lo ∨ hi ≤ a ∨ hi ≤ lo) : RR4 W a b v0 v1 v2 v3 q := ⟨R_I h.1 hb c, R_I h.2.1 hb c, R_I h.2.2.1 hb c, R_I h.2.2.2 hb c⟩
def RR2 (W : World) (a b : Nat) (v6 v7 : Value) (g : List S140) (l : List S145) : Prop := Kd.R k140 140 W a (fun k => k < b) v6 g ∧ Kd.R k145 145 W a (fun k => k < b) v7 l
theorem RR2.I {w W : World} {a b lo hi : Nat} {v6 v7 : Value} {g : List S140} {l : List S145} (h : RR2 w a b v6 v7 g l) (hb : ButS (Ivl lo hi) w W) (c : b ≤ lo ∨ hi ≤ a ∨ hi ≤ lo) : RR2 W a b v6 v7 g l := ⟨R_I h.1 hb c, R_I h.2 hb c⟩
theorem toConfigN (ip b gate : Int) (gm wm : ByteArray) (res : Int) (A6 : Option Addr) (c6 : Nat) (g : List S151) (A7 : Option Addr) (c7 : Nat) (l : List S129) (w : World) (a : Nat) (ha : a ≤ w.heap.size) (h6 : Kd.C k151 w A6 g.length g) (z6 : g.length ≤ 1048576) (h7 : Kd.C k129 w A7 l.length l) (z7 : l.length ≤ 1048576) (y7 : ∀ r ∈ l, r.f1.length ≤ 1048576) :
    Calls Tryz.prog 10 #[.agg #[.int .i64 ip, .int .i64 b, .int .i64 gate, .string gm, .string wm, .int .i64 res, .slice A6 g.length c6, .slice A7 l.length c7]] w fun e w' => ∃ X6 x6 X7 x7, e = .returned (.agg #[.int .i64 ip, .int .i64 b, .int .i64 gate, .string gm, .string wm, .int .i64 res, .slice X6 g.length x6, .slice X7 l.length x7]) ∧ RR2 w' a w'.heap.size (.slice X6 g.length x6) (.slice X7 l.length x7) (g.map cvPlace) (l.map cvRole) ∧ Below w.heap.size w w' := by
  refine (toConfig1 ip b gate gm wm res A6 c6 g A7 c7 l w h6 z6 h7 z7 y7).mono ?_
  rintro e w2 ⟨X6, x6, X7, x7, rfl, o6, o7, hb⟩
  exact ⟨X6, x6, X7, x7, rfl, ⟨R_in o6 ha (Nat.le_refl _), R_in o7 ha (Nat.le_refl _)⟩, hb⟩
theorem toGuestsN (B0 B1 B2 B3 : Option Addr) (d0 d1 d2 d3 : Nat) (us : List S131) (ss : List S133) (fs : List S135) (rs : List S157) (nx : Int) (w : World) (a : Nat) (ha : a ≤ w.heap.size) (h0 : Kd.C k131 w B0 us.length us) (z0 : us.length ≤ 1048576) (h1 : Kd.C k133 w B1 ss.length ss) (z1 : ss.length ≤ 1048576) (h2 : Kd.C k135 w B2 fs.length fs) (z2 : fs.length ≤ 1048576) (h3 : Kd.C k157 w B3 rs.length rs) (z3 : rs.length ≤ 1048576) :
    Calls Tryz.prog 11 #[.agg #[.slice B0 us.length d0, .slice B1 ss.length d1, .slice B2 fs.length d2, .slice B3 rs.length d3, .int .i64 nx]] w fun e w' => ∃ X0 x0 X1 x1 X2 x2 X3 x3, e = .returned (.agg #[.slice X0 us.length x0, .slice X1 ss.length x1, .slice X2 fs.length x2, .slice X3 rs.length x3, .int .i64 nx]) ∧ RR4 w' a w'.heap.size (.slice X0 us.length x0) (.slice X1 ss.length x1) (.slice X2 fs.length x2) (.slice X3 rs.length x3) ⟨us.map cvUser, ss.map cvSession, fs.map cvFail, rs.map cvRecord, nx⟩ ∧ Below w.heap.size w w' := by
  refine (toGuests1 B0 d0 us B1 d1 ss B2 d2 fs B3 d3 rs nx w h0 z0 h1 z1 h2 z2 h3 z3).mono ?_
  rintro e w2 ⟨X0, x0, X1, x1, X2, x2, X3, x3, rfl, o0, o1, o2, o3, hb⟩
  exact ⟨X0, x0, X1, x1, X2, x2, X3, x3, rfl, ⟨R_in o0 ha (Nat.le_refl _), R_in o1 ha (Nat.le_refl _), R_in o2 ha (Nat.le_refl _), R_in o3 ha (Nat.le_refl _)⟩, hb⟩
def GV.Len (q : GV) : Prop := q.us.length ≤ 1048576 ∧ q.ss.length ≤ 1048576 ∧ q.fs.length ≤ 1048576 ∧ q.rs.length ≤ 1048576
theorem eqGuestsR (q : GV) (B0 B1 B2 B3 V0 V1 V2 V3 : Option Addr) (d0 d1 d2 d3 v0 v1 v2 v3 : Nat) (w : World) {a b a2 b2 : Nat} (h : RR4 w a b (.slice B0 q.us.length d0) (.slice B1 q.ss.length d1) (.slice B2 q.fs.length d2) (.slice B3 q.rs.length d3) q) (h2 : RR4 w a2 b2 (.slice V0 q.us.length v0) (.slice V1 q.ss.length v1) (.slice V2 q.fs.length v2) (.slice V3 q.rs.length v3) q) (hz : q.Len) :
    Calls Tryz.prog 14 #[.agg #[.slice B0 q.us.length d0, .slice B1 q.ss.length d1, .slice B2 q.fs.length d2, .slice B3 q.rs.length d3, .int .i64 q.nx], .agg #[.slice V0 q.us.length v0, .slice V1 q.ss.length v1, .slice V2 q.fs.length v2, .slice V3 q.rs.length v3, .int .i64 q.nx]] w fun e w' => e = .returned (.bool true) ∧ Below w.heap.size w w' :=
  eqGuestsN B0 B1 B2 B3 V0 V1 V2 V3 d0 d1 d2 d3 v0 v1 v2 v3 q.us q.ss q.fs q.rs q.nx w _ _ _ _ rfl rfl rfl rfl (R_toC h.1).2 (R_toC h2.1).2 (Nat.le_trans hz.1 (by decide)) (R_toC h.2.1).2 (R_toC h2.2.1).2 (Nat.le_trans hz.2.1 (by decide)) (R_toC h.2.2.1).2 (R_toC h2.2.2.1).2 (Nat.le_trans hz.2.2.1 (by decide)) (R_toC h.2.2.2).2 (R_toC h2.2.2.2).2 (Nat.le_trans hz.2.2.2 (by decide))
theorem eqGuestsM (us : List S92) (ss : List S76) (fs : List S81) (rs : List S83) (nx : Int) (n0 n1 n2 n3 : Nat) (B0 B1 B2 B3 V0 V1 V2 V3 : Option Addr) (d0 d1 d2 d3 v0 v1 v2 v3 : Nat) (w : World) {a b a2 b2 : Nat} (h : RR4 w a b (.slice B0 n0 d0) (.slice B1 n1 d1) (.slice B2 n2 d2) (.slice B3 n3 d3) ⟨us, ss, fs, rs, nx⟩) (h2 : RR4 w a2 b2 (.slice V0 n0 v0) (.slice V1 n1 v1) (.slice V2 n2 v2) (.slice V3 n3 v3) ⟨us, ss, fs, rs, nx⟩) (hz : (⟨us, ss, fs, rs, nx⟩ : GV).Len) :
    Calls Tryz.prog 14 #[.agg #[.slice B0 n0 d0, .slice B1 n1 d1, .slice B2 n2 d2, .slice B3 n3 d3, .int .i64 nx], .agg #[.slice V0 n0 v0, .slice V1 n1 v1, .slice V2 n2 v2, .slice V3 n3 v3, .int .i64 nx]] w fun e w' => e = .returned (.bool true) ∧ Below w.heap.size w w' := by
  obtain rfl : n0 = us.length := (Kd.R_reads' h.1).1
  obtain rfl : n1 = ss.length := (Kd.R_reads' h.2.1).1
  obtain rfl : n2 = fs.length := (Kd.R_reads' h.2.2.1).1
  obtain rfl : n3 = rs.length := (Kd.R_reads' h.2.2.2).1
  exact eqGuestsR ⟨us, ss, fs, rs, nx⟩ B0 B1 B2 B3 V0 V1 V2 V3 d0 d1 d2 d3 v0 v1 v2 v3 w h h2 hz
theorem eqConfigM (ip b gate : Int) (gm wm : ByteArray) (res : Int) (g : List S140) (l : List S145) (n6 n7 : Nat) (A6 V6 A7 V7 : Option Addr) (c6 v6 c7 v7 : Nat) (w : World) {a b1 a2 b2 : Nat} (h : RR2 w a b1 (.slice A6 n6 c6) (.slice A7 n7 c7) g l) (h2 : RR2 w a2 b2 (.slice V6 n6 v6) (.slice V7 n7 v7) g l) (z6 : g.length ≤ 1048576) (z7 : l.length ≤ 1048576) (y7 : ∀ r ∈ l, r.f1.length ≤ 1048576) :
    Calls Tryz.prog 13 #[.agg #[.int .i64 ip, .int .i64 b, .int .i64 gate, .string gm, .string wm, .int .i64 res, .slice A6 n6 c6, .slice A7 n7 c7], .agg #[.int .i64 ip, .int .i64 b, .int .i64 gate, .string gm, .string wm, .int .i64 res, .slice V6 n6 v6, .slice V7 n7 v7]] w fun e w' => e = .returned (.bool true) ∧ Below w.heap.size w w' := by
  obtain rfl : n6 = g.length := (Kd.R_reads' h.1).1
  obtain rfl : n7 = l.length := (Kd.R_reads' h.2).1
  exact eqConfigN ip b gate gm wm res A6 V6 c6 v6 g A7 V7 c7 v7 l w _ _ rfl rfl (R_toC h.1).2 (R_toC h2.1).2 (Nat.le_trans z6 (by decide)) (R_toC h.2).2 (R_toC h2.2).2 (Nat.le_trans z7 (by decide)) (fun r hr => Nat.le_trans (y7 r hr) (by decide))
theorem markCR (ip b gate : Int) (gm wm : ByteArray) (res : Int) (g : List S140) (l : List S145) (n6 n7 : Nat) (A6 A7 : Option Addr) (c6 c7 : Nat) (k : Int) (w : World) {lo hi : Nat} (h : RR2 w lo hi (.slice A6 n6 c6) (.slice A7 n7 c7) g l) (hh : hi ≤ w.heap.size) (z6 : g.length ≤ 1048576) (z7 : l.length ≤ 1048576) (y7 : ∀ r ∈ l, r.f1.length ≤ 1048576) (k0 : 0 ≤ k) (k1 : k ≤ 1048576) :
    Calls Tryz.prog 17 #[.agg #[.int .i64 ip, .int .i64 b, .int .i64 gate, .string gm, .string wm, .int .i64 res, .slice A6 n6 c6, .slice A7 n7 c7], .int .i64 k] w fun e w' => ∃ k2 : Int, e = .returned (.int .i64 k2) ∧ 0 ≤ k2 ∧ k2 ≤ 70368744177664 ∧ ButS (Ivl lo hi) w w' := by
  obtain rfl : n6 = g.length := (Kd.R_reads' h.1).1
  obtain rfl : n7 = l.length := (Kd.R_reads' h.2).1
  refine (markC1 (S := Ivl lo hi) ip b gate gm wm res A6 A7 g.length l.length c6 c7 k w ((R_rowA h.1).mono (fun b hb => ⟨hb.1, hb.2.2⟩)) (R_roleRow (Kd.R_mono (Kd.R_bound h.2) (fun k hk => (⟨hk.2.1, hk.1⟩ : Ivl lo hi k))) y7 (fun _ h => h)) (fun b hb => Nat.lt_of_lt_of_le hb.2 hh) z6 z7 k0 k1).mono ?_
  rintro e w2 ⟨k2, rfl, h1, h2, hb⟩
  exact ⟨k2, rfl, by omega, h2, hb⟩
def MarkedG (w : World) (B0 B1 B2 B3 : Option Addr) (n0 n1 n2 n3 : Nat) (m : Int) : Prop := RowF w B0 n0 92 6 (mvUser 1) ∧ RowF w B1 n1 76 10 (mvSession (1 + n0 * 6)) ∧ RowF w B2 n2 81 3 (mvFail (1 + n0 * 6 + n1 * 10)) ∧ RowF w B3 n3 83 5 (mvRecord (1 + n0 * 6 + n1 * 10 + n2 * 3)) ∧ m = 1 + n0 * 6 + n1 * 10 + n2 * 3 + n3 * 5
theorem MarkedG.I {w W : World} {B0 B1 B2 B3 : Option Addr} {n0 n1 n2 n3 : Nat} {m : Int} (h : MarkedG w B0 B1 B2 B3 n0 n1 n2 n3 m) (hb : Below w.heap.size w W) : MarkedG W B0 B1 B2 B3 n0 n1 n2 n3 m := ⟨h.1.below hb, h.2.1.below hb, h.2.2.1.below hb, h.2.2.2.1.below hb, h.2.2.2.2⟩
theorem markGR (q : GV) (n0 n1 n2 n3 : Nat) (B0 B1 B2 B3 : Option Addr) (d0 d1 d2 d3 : Nat) (nx k : Int) (w : World) {lo hi : Nat} (h : RR4 w lo hi (.slice B0 n0 d0) (.slice B1 n1 d1) (.slice B2 n2 d2) (.slice B3 n3 d3) q) (hh : hi ≤ w.heap.size) (hz : q.Len) (k0 : 0 ≤ k) (k1 : k ≤ 70368744177664) :
    Calls Tryz.prog 18 #[.agg #[.slice B0 n0 d0, .slice B1 n1 d1, .slice B2 n2 d2, .slice B3 n3 d3, .int .i64 nx], .int .i64 k] w fun e w' => ∃ k2 : Int, e = .returned (.int .i64 k2) ∧ decide (k2 < 0) = false ∧ ButS (Ivl lo hi) w w' := by
  obtain rfl : n0 = q.us.length := (Kd.R_reads' h.1).1
  obtain rfl : n1 = q.ss.length := (Kd.R_reads' h.2.1).1
  obtain rfl : n2 = q.fs.length := (Kd.R_reads' h.2.2.1).1
  obtain rfl : n3 = q.rs.length := (Kd.R_reads' h.2.2.2).1
  refine (markG1 (S := Ivl lo hi) B0 B1 B2 B3 _ _ _ _ d0 d1 d2 d3 nx k w ((R_rowA h.1).mono (fun b hb => ⟨hb.1, hb.2.2⟩)) ((R_rowA h.2.1).mono (fun b hb => ⟨hb.1, hb.2.2⟩)) ((R_rowA h.2.2.1).mono (fun b hb => ⟨hb.1, hb.2.2⟩)) ((R_rowA h.2.2.2).mono (fun b hb => ⟨hb.1, hb.2.2⟩)) (fun b hb => Nat.lt_of_lt_of_le hb.2 hh) hz.1 hz.2.1 hz.2.2.1 hz.2.2.2 k0 (by omega)).mono ?_
  rintro e w2 ⟨rfl, _, _, _, _, hb⟩
  exact ⟨_, rfl, by rw [decide_eq_false_iff_not]; omega, hb⟩
theorem markGM (q : GV) (n0 n1 n2 n3 : Nat) (B0 B1 B2 B3 : Option Addr) (d0 d1 d2 d3 : Nat) (nx : Int) (w : World) {lo hi : Nat} (h : RR4 w lo hi (.slice B0 n0 d0) (.slice B1 n1 d1) (.slice B2 n2 d2) (.slice B3 n3 d3) q) (hh : hi ≤ w.heap.size) (hz : q.Len) :
    Calls Tryz.prog 18 #[.agg #[.slice B0 n0 d0, .slice B1 n1 d1, .slice B2 n2 d2, .slice B3 n3 d3, .int .i64 nx], .int .i64 1] w fun e w' => ∃ m : Int, e = .returned (.int .i64 m) ∧ MarkedG w' B0 B1 B2 B3 n0 n1 n2 n3 m ∧ decide (m < 0) = false ∧ (0 ≤ m ∧ m ≤ 70368744177664) ∧ ButS (Ivl lo hi) w w' := by
  obtain rfl : n0 = q.us.length := (Kd.R_reads' h.1).1
  obtain rfl : n1 = q.ss.length := (Kd.R_reads' h.2.1).1
  obtain rfl : n2 = q.fs.length := (Kd.R_reads' h.2.2.1).1
  obtain rfl : n3 = q.rs.length := (Kd.R_reads' h.2.2.2).1
  refine (markG1 (S := Ivl lo hi) B0 B1 B2 B3 _ _ _ _ d0 d1 d2 d3 nx 1 w ((R_rowA h.1).mono (fun b hb => ⟨hb.1, hb.2.2⟩)) ((R_rowA h.2.1).mono (fun b hb => ⟨hb.1, hb.2.2⟩)) ((R_rowA h.2.2.1).mono (fun b hb => ⟨hb.1, hb.2.2⟩)) ((R_rowA h.2.2.2).mono (fun b hb => ⟨hb.1, hb.2.2⟩)) (fun b hb => Nat.lt_of_lt_of_le hb.2 hh) hz.1 hz.2.1 hz.2.2.1 hz.2.2.2 (by decide) (by decide)).mono ?_
  rintro e w2 ⟨rfl, f0, f1, f2, f3, hb⟩
  have z := hz
  unfold GV.Len at z
  exact ⟨_, rfl, ⟨f0, f1, f2, f3, rfl⟩, by rw [decide_eq_false_iff_not]; omega, by omega, hb⟩
theorem heldGM (n0 n1 n2 n3 : Nat) (B0 B1 B2 B3 : Option Addr) (d0 d1 d2 d3 : Nat) (nx m : Int) (w : World) (h : MarkedG w B0 B1 B2 B3 n0 n1 n2 n3 m) (z0 : n0 ≤ 1048576) (z1 : n1 ≤ 1048576) (z2 : n2 ≤ 1048576) (z3 : n3 ≤ 1048576) :
    Calls Tryz.prog 19 #[.agg #[.slice B0 n0 d0, .slice B1 n1 d1, .slice B2 n2 d2, .slice B3 n3 d3, .int .i64 nx], .int .i64 1] w fun e w' => e = .returned (.int .i64 m) ∧ Below w.heap.size w w' := by
  obtain ⟨f0, f1, f2, f3, rfl⟩ := h
  exact heldG1 B0 B1 B2 B3 n0 n1 n2 n3 d0 d1 d2 d3 nx 1 w f0 f1 f2 f3 z0 z1 z2 z3 (by decide) (by decide)
theorem setCells_one (w : World) (g p : Nat) (u : Value) (r : List Value) : w.setCells g p (u :: r) = (w.setCell ⟨g, p, none⟩ u).setCells g (p + 1) r := rfl
theorem setCells_at : ∀ (vs : List Value) (w : World) (g p : Nat) (cur : Array Value) (t : TypeId), w.heap[g]? = some (.cells cur t (0, 0)) → p + vs.length ≤ cur.size → ButS (Ivl g (g + 1)) w (w.setCells g p vs) ∧ ∃ cs : Array Value, (w.setCells g p vs).heap[g]? = some (.cells cs t (0, 0)) ∧ cs.size = cur.size ∧ (∀ i : Nat, i < p → cs[i]? = cur[i]?) ∧ (∀ i : Nat, i < vs.length → cs[p + i]? = vs[i]?)
  | [], w, g, p, cur, t, h, _ => ⟨ButS.refl _ _, cur, h, rfl, fun _ _ => rfl, fun i hi => absurd hi (Nat.not_lt_zero i)⟩
  | u :: r, w, g, p, cur, t, h, hl => by
    have hl2 : p + 1 + r.length ≤ (cur.setIfInBounds p u).size := by rw [Array.size_setIfInBounds]; simp only [List.length_cons] at hl; omega
    obtain ⟨h1, cs, h2, h3, h4, h5⟩ := setCells_at r _ g (p + 1) _ t (blk_put h p u rfl) hl2
    rw [setCells_one]
    refine ⟨(ButS.set h (⟨Nat.le_refl _, Nat.lt_succ_self _⟩ : Ivl g (g + 1) g) p u).trans h1, cs, h2, by rw [h3, Array.size_setIfInBounds], fun i hi => ?_, fun i hi => ?_⟩
    · rw [h4 i (by omega), Array.getElem?_setIfInBounds, if_neg (by omega)]
    · match i, hi with
      | 0, _ =>
        rw [Nat.add_zero, h4 p (by omega), Array.getElem?_setIfInBounds, if_pos rfl, if_pos (by simp only [List.length_cons] at hl; omega)]
        rfl
      | i + 1, hi =>
        rw [show p + (i + 1) = p + 1 + i from by omega, h5 i (by simp only [List.length_cons] at hi; omega)]
        rfl
theorem setCells_all {w : World} {g : Nat} {cur new : Array Value} {t : TypeId} (h : w.heap[g]? = some (.cells cur t (0, 0))) (hs : new.size = cur.size) : (w.setCells g 0 new.toList).heap[g]? = some (.cells new t (0, 0)) ∧ ButS (Ivl g (g + 1)) w (w.setCells g 0 new.toList) := by
  obtain ⟨h1, cs, h2, h3, h4, h5⟩ := setCells_at new.toList w g 0 cur t h (by simp [hs])
  refine ⟨?_, h1⟩
  rw [h2, show cs = new from ?_]
  apply Array.ext_getElem?
  intro i
  by_cases hi : i < new.size
  · have := h5 i (by simpa using hi)
    rw [Nat.zero_add] at this
    rw [this, Array.getElem?_toList]
  · rw [Array.getElem?_eq_none (by omega), Array.getElem?_eq_none (by omega)]
section
variable {P : Program} {ops : Array Oper} {Q : Exit → Act → World → Prop} {md : Region.Mode} {S : World → Prop} {ds : List Nat}
/-- The store of a whole struct into its own box, the region's last event. -/
theorem qBox (i : Nat) {oi : Oper} {fuel : Nat} {l : Array Bool} {a : Act} {w : World} {g : Nat} {cur new : Array Value} {t t2 : TypeId} {pp x : Operand} (hh : w.heap[g]? = some (.cells cur t (0, 0))) (hs : new.size = cur.size) (hop : oi.op = .store t2 pp x) (hp : a.eval pp = .pointer (some ⟨g, 0, none⟩)) (hx : a.eval x = .agg new) (hu : (Value.agg new).cells.toList = new.toList) (ht : (P.info? t2).map (·.size) = some new.toList.length) (h1 : ∀ q ∈ new.toList, q.oneCell' = true)
    (h : ∀ w1, w1.heap[g]? = some (.cells new t (0, 0)) → ButS (Ivl g (g + 1)) w w1 → wpAnyLast P md ops Q S ds fuel (l.setIfInBounds i true) a w1)
    (hc : readyB md ops l (l.setIfInBounds i true) i = true) (hi : ops[i]? = some oi) (hN : oi.dst = none) (hd : i ∈ ds) (hw : Region.wanted oi (yielded ops a.tmps) = true) : wpAnyLast P md ops Q S ds (fuel + 1) l a w := by
  obtain ⟨k1, k2⟩ := setCells_all hh hs
  refine qSkip i (w1 := w.setCells g 0 new.toList) ?_ (h _ k1 k2) hc hi hN hd hw
  have hrun : (Instr.storeAt t2 (.pointer (some ⟨g, 0, none⟩)) (.agg new)).run P w = .ok () (w.setCells g 0 new.toList) := run_store_run t2 _ _ hh hu ht (by rw [Array.length_toList, hs]; omega) h1
  unfold execOp
  simp only [hop, hp, hx, Sem.run_bind, Sem.run_pure, Result.andThen_ok, hrun]
theorem qAl {oi : Oper} {N : Option Tmp} {a : Act} {w : World} {K : Act → World → Prop} {o : Obj} (hrun : (execOp a.eval oi).run P w = .ok (.value (.pointer (some ⟨w.heap.size, 0, none⟩))) (w.alloc o)) (h : ∀ w1, w1.heap[w.heap.size]? = some o → Below w.heap.size w w1 → K (a.put N (.pointer (some ⟨w.heap.size, 0, none⟩))) w1) (hw : Region.wanted oi (yielded ops a.tmps) = true := by kernel_rfl) (hN : oi.dst = N := by rfl) : if Region.wanted oi (yielded ops a.tmps) = true then Oper.wp P oi a w K Q else K (a.put N undef) w :=
  value_ hw hN hrun (h _ (blk_new w o) (below_alloc (Below.refl _ _) o))
theorem qNA {fuel : Nat} {l : Array Bool} {a a' : Act} {w : World} (h : wpAnyLast P md ops Q S ds fuel l a' w) (ha : a = a' := by simp only [putAll, Act.put, List.setIfInBounds_toArray, List.set_cons_zero, List.set_cons_succ]; rfl) : wpAnyLast P md ops Q S ds fuel l a w := norm_ ha h
theorem qJ {fuel fuel' : Nat} {l l' : Array Bool} {a a' : Act} {w : World} (h : wpAnyLast P md ops Q S ds fuel' l' a' w) (hf : fuel = fuel' := by rfl) (hl : l = l' := by kernel_rfl) (ha : a' = a := by first | (simp only [putAll, Act.put, List.setIfInBounds_toArray, List.set_cons_zero, List.set_cons_succ]; done) | (simp only [putAll, Act.put, List.setIfInBounds_toArray, List.set_cons_zero, List.set_cons_succ]; rfl)) : wpAnyLast P md ops Q S ds fuel l a w := by
  subst hf hl ha
  exact h
end
theorem RR4.low {w : World} {a a2 b : Nat} {v0 v1 v2 v3 : Value} {q : GV} (h : RR4 w a b v0 v1 v2 v3 q) (hl : a2 ≤ a) : RR4 w a2 b v0 v1 v2 v3 q := ⟨Kd.R_lower h.1 hl, Kd.R_lower h.2.1 hl, Kd.R_lower h.2.2.1 hl, Kd.R_lower h.2.2.2 hl⟩
theorem R_box {α : Type} {d : Kd α} {e g : Nat} {w W : World} {a b : Nat} {v : Value} {xs : List α} {cs : Array Value} {t : TypeId} (h : d.R e w a (fun k => k < b) v xs) (hz : w.heap[g]? = some (.cells cs t (0, 0))) (hb : ButS (Ivl g (g + 1)) w W) (ht : ∀ q, q ∈ e :: d.E → q ≠ t) : d.R e W a (fun k => k < b) v xs :=
  Kd.R_mono (Kd.R_move (Kd.R_bound h) (fun k hk => hb.block k hk.2.2.1 (fun hs => by
    obtain rfl : k = g := by have h1 := hs.1; have h2 := hs.2; omega
    obtain ⟨_, _, _, q, hq, c, hc⟩ := hk
    exact ht q hq (TypeAt.ne ⟨c, hc⟩ ⟨cs, hz⟩)))) (fun k hk => hk.1)
theorem RR4.box {w W : World} {a b g : Nat} {v0 v1 v2 v3 : Value} {q : GV} {cs : Array Value} (h : RR4 w a b v0 v1 v2 v3 q) (hz : w.heap[g]? = some (.cells cs 48 (0, 0))) (hb : ButS (Ivl g (g + 1)) w W) : RR4 W a b v0 v1 v2 v3 q :=
  ⟨R_box h.1 hz hb (by decide), R_box h.2.1 hz hb (by decide), R_box h.2.2.1 hz hb (by decide), R_box h.2.2.2 hz hb (by decide)⟩
def SzL (gm wm : ByteArray) (g : List S140) (l : List S145) (us : List S92) (ss : List S76) (fs : List S81) (rs : List S83) : Prop := g.length ≤ 1048576 ∧ l.length ≤ 1048576 ∧ (∀ x ∈ l, x.f1.length ≤ 1048576 ∧ x.f0.size ≤ 1152921504606846976) ∧ gm.size ≤ 1152921504606846976 ∧ wm.size ≤ 1152921504606846976 ∧ us.length ≤ 1048576 ∧ ss.length ≤ 1048576 ∧ fs.length ≤ 1048576 ∧ rs.length ≤ 1048576 ∧ (∀ u ∈ us, u.f0.size ≤ 1152921504606846976 ∧ u.f1.size ≤ 1152921504606846976 ∧ u.f2.size ≤ 1152921504606846976) ∧ (∀ s ∈ ss, s.f2.size ≤ 1152921504606846976) ∧ (∀ f ∈ fs, f.f0.size ≤ 1152921504606846976)
end
end Go.Proofs.YtkklokkldgkacaaGreat.X
