/- The program's GuestsOK returns what the reference's GuestsOK returns, for all arguments. Conditions: none beyond the row's own reach. -/
import Derived.Test.YtkklokkldgkacaaGreatCFnExactGuestsOK2
import Derived.Test.YtkklokkldgkacaaGreatRows
namespace Go.Proofs.YtkklokkldgkacaaGreat.X
open Go.RowKit Go.Proofs.YtkklokkldgkacaaGreatW.PrintWords Go.Proofs.YtkklokkldgkacaaGreatW.PrintLast Go.Proofs.YtkklokkldgkacaaGreatW.PrintMore
attribute [local go_sem] max2_int min2_int max_two min_two max_three min_three max_four min_four   -- for this text's walks alone
set_option linter.unusedVariables false
set_option linter.unusedSimpArgs false
section
-- NEEDS laws.toConfig laws.toGuests
def fillL {α : Type} (l : List α) (z : α) (i : Int) : List α := l.take i.toNat ++ List.replicate (l.length - i.toNat) z
theorem fillL_len {α : Type} (l : List α) (z : α) (i : Int) (h : i ≤ l.length) : (fillL l z i).length = l.length := by
  simp only [fillL, List.length_append, List.length_take, List.length_replicate]; omega
theorem fillL_set {α : Type} (l : List α) (z x : α) (i : Int) (h0 : 0 ≤ i) (h : i < l.length) (hx : l[i.toNat]? = some x) : (fillL l z i).set i.toNat x = fillL l z (i + 1) := by
  have hi : i.toNat < l.length := by omega
  obtain ⟨d, hd⟩ : ∃ d, l.length - i.toNat = d + 1 := ⟨l.length - i.toNat - 1, by omega⟩
  have e : (i + 1).toNat = i.toNat + 1 := by omega
  have hl : (l.take i.toNat).length = i.toNat := by rw [List.length_take]; omega
  rw [List.getElem?_eq_getElem hi] at hx
  have hx := Option.some.inj hx
  unfold fillL
  rw [e, List.take_succ_eq_append_getElem hi, hx, hd, show l.length - (i.toNat + 1) = d by omega, List.set_append_right _ _ (by omega), hl, Nat.sub_self, List.replicate_succ, List.set_cons_zero, List.append_assoc]
  rfl
theorem fillL_all {α : Type} (l : List α) (z : α) : fillL l z l.length = l := by
  simp [fillL]
theorem R_storeW {P : Program} {ops : Array Oper} {rest : List Oper} {o : Oper} {a : Act} {Q : Exit → Act → World → Prop} {α : Type} (d : Kd α) {w0 W : World} (base : Nat) (hN : o.dst = none) (hgd : o.guard = none) (t : TypeId) (p x : Operand) (ho : o.op = .store t p x) (e : TypeId) {g n cap o' : Nat} (i : Int) (xs : List α) (x' : α) (u : Value)
    (haddr : a.eval p = .pointer (some ⟨g, o', none⟩)) (hoff : o' = i.toNat * d.sz) (hx : a.eval x = u) (ht : (P.info? t).map (·.size) = some d.sz)
    (HO : d.R e W base (fun _ => True) (.slice (some ⟨g, 0, none⟩) n cap) xs) (h0 : 0 ≤ i) (hi : i < n)
    (hM : d.M W base (fun k => k ≠ g) x' u.cells.toList) (HB : Below base w0 W)
    (h : ∀ w1, d.R e w1 base (fun _ => True) (.slice (some ⟨g, 0, none⟩) n cap) (xs.set i.toNat x') → Below base w0 w1 → W.grownBy w1 (some g) → wpList P ops Q rest a w1) : wpList P ops Q (o :: rest) a W := by
  have hlen := d.K_len (d.K_of_M hM)
  obtain ⟨c, hcl, _, hcc, _⟩ := Kd.R_elem HO x' i h0 hi
  refine Kd.R_store d base hN hgd t p x ho e i 0 xs x' u u.cells.toList c (fun _ => True) (fun k => k ≠ g) haddr (by rw [hoff]; rfl) hx rfl (by rw [hlen]; exact ht) (d.K_one (d.K_of_M hM)) HO h0 hi hcl hcc (by omega) ?_ (fun k hk => ⟨trivial, hk⟩) HB h
  rw [List.take_zero, List.nil_append, List.drop_of_length_le (by omega), List.append_nil]
  exact hM
theorem box2 (w : World) (a r o : Obj) : (((w.alloc a).alloc r).alloc o).heap[w.heap.size + 1]? = some r := by
  have h := blk_new (w.alloc a) r
  rw [show (w.alloc a).heap.size = w.heap.size + 1 from Array.size_push ..] at h
  exact blk_alloc h _
theorem R_out {α : Type} {d : Kd α} {e : Nat} {w W : World} {base : Nat} {v : Value} {xs : List α} (h : d.R e w base (fun _ => True) v xs) (hm : ∀ k, base ≤ k → W.heap[k]? = w.heap[k]?) : d.R e W base (fun _ => True) v xs :=
  Kd.R_mono (Kd.R_step (Kd.R_bound h) (fun k hk _ => hm k hk.2.1)) (fun _ _ => trivial)
theorem res4 {W : World} {g t : Nat} {z0 z1 z2 z3 x0 x1 x2 x3 : Value} (h : W.heap[g]? = some (.cells #[z0, z1, z2, z3] t (0, 0))) : ((((W.setCell ⟨g, 0, none⟩ x0).setCell ⟨g, 1, none⟩ x1).setCell ⟨g, 2, none⟩ x2).setCell ⟨g, 3, none⟩ x3).heap[g]? = some (.cells #[x0, x1, x2, x3] t (0, 0)) := blk_put (blk_put (blk_put (blk_put h 0 _ (cs' := #[x0, z1, z2, z3]) rfl) 1 _ (cs' := #[x0, x1, z2, z3]) rfl) 2 _ (cs' := #[x0, x1, x2, z3]) rfl) 3 _ (cs' := #[x0, x1, x2, x3]) rfl
theorem res5 {W : World} {g t : Nat} {z0 z1 z2 z3 z4 x0 x1 x2 x3 x4 : Value} (h : W.heap[g]? = some (.cells #[z0, z1, z2, z3, z4] t (0, 0))) : (((((W.setCell ⟨g, 0, none⟩ x0).setCell ⟨g, 1, none⟩ x1).setCell ⟨g, 2, none⟩ x2).setCell ⟨g, 3, none⟩ x3).setCell ⟨g, 4, none⟩ x4).heap[g]? = some (.cells #[x0, x1, x2, x3, x4] t (0, 0)) := blk_put (blk_put (blk_put (blk_put (blk_put h 0 _ (cs' := #[x0, z1, z2, z3, z4]) rfl) 1 _ (cs' := #[x0, x1, z2, z3, z4]) rfl) 2 _ (cs' := #[x0, x1, x2, z3, z4]) rfl) 3 _ (cs' := #[x0, x1, x2, x3, z4]) rfl) 4 _ (cs' := #[x0, x1, x2, x3, x4]) rfl
theorem res6 {W : World} {g t : Nat} {z0 z1 z2 z3 z4 z5 x0 x1 x2 x3 x4 x5 : Value} (h : W.heap[g]? = some (.cells #[z0, z1, z2, z3, z4, z5] t (0, 0))) : ((((((W.setCell ⟨g, 0, none⟩ x0).setCell ⟨g, 1, none⟩ x1).setCell ⟨g, 2, none⟩ x2).setCell ⟨g, 3, none⟩ x3).setCell ⟨g, 4, none⟩ x4).setCell ⟨g, 5, none⟩ x5).heap[g]? = some (.cells #[x0, x1, x2, x3, x4, x5] t (0, 0)) := blk_put (blk_put (blk_put (blk_put (blk_put (blk_put h 0 _ (cs' := #[x0, z1, z2, z3, z4, z5]) rfl) 1 _ (cs' := #[x0, x1, z2, z3, z4, z5]) rfl) 2 _ (cs' := #[x0, x1, x2, z3, z4, z5]) rfl) 3 _ (cs' := #[x0, x1, x2, x3, z4, z5]) rfl) 4 _ (cs' := #[x0, x1, x2, x3, x4, z5]) rfl) 5 _ (cs' := #[x0, x1, x2, x3, x4, x5]) rfl
theorem res8 {W : World} {g t : Nat} {z0 z1 z2 z3 z4 z5 z6 z7 x0 x1 x2 x3 x4 x5 x6 x7 : Value} (h : W.heap[g]? = some (.cells #[z0, z1, z2, z3, z4, z5, z6, z7] t (0, 0))) : ((((((((W.setCell ⟨g, 0, none⟩ x0).setCell ⟨g, 1, none⟩ x1).setCell ⟨g, 2, none⟩ x2).setCell ⟨g, 3, none⟩ x3).setCell ⟨g, 4, none⟩ x4).setCell ⟨g, 5, none⟩ x5).setCell ⟨g, 6, none⟩ x6).setCell ⟨g, 7, none⟩ x7).heap[g]? = some (.cells #[x0, x1, x2, x3, x4, x5, x6, x7] t (0, 0)) := blk_put (blk_put (blk_put (blk_put (blk_put (blk_put (blk_put (blk_put h 0 _ (cs' := #[x0, z1, z2, z3, z4, z5, z6, z7]) rfl) 1 _ (cs' := #[x0, x1, z2, z3, z4, z5, z6, z7]) rfl) 2 _ (cs' := #[x0, x1, x2, z3, z4, z5, z6, z7]) rfl) 3 _ (cs' := #[x0, x1, x2, x3, z4, z5, z6, z7]) rfl) 4 _ (cs' := #[x0, x1, x2, x3, x4, z5, z6, z7]) rfl) 5 _ (cs' := #[x0, x1, x2, x3, x4, x5, z6, z7]) rfl) 6 _ (cs' := #[x0, x1, x2, x3, x4, x5, x6, z7]) rfl) 7 _ (cs' := #[x0, x1, x2, x3, x4, x5, x6, x7]) rfl
def cvNet (x : S23) : S37 := ⟨x.f0, x.f1⟩
def cvRange (x : S149) : S138 := ⟨x.f0, x.f1⟩
def cvPlace (x : S151) : S140 := ⟨cvNet x.f0, cvRange x.f1⟩
def cvRule (x : S193) : S183 := ⟨x.f0, cvNet x.f1, cvRange x.f2, x.f3⟩
def cvRole (x : S129) : S145 := ⟨x.f0, x.f1.map cvRule, x.f2, x.f3, x.f4⟩
def cvUser (x : S131) : S92 := ⟨x.f0, x.f1, x.f2, x.f3, x.f4, x.f5⟩
def cvSession (x : S133) : S76 := ⟨x.f0, x.f1, x.f2, x.f3, x.f4, x.f5, x.f6, x.f7, x.f8, x.f9⟩
def cvFail (x : S135) : S81 := ⟨x.f0, x.f1, x.f2⟩
def cvRecord (x : S157) : S83 := ⟨x.f0, x.f1, x.f2, x.f3, x.f4⟩
set_option maxHeartbeats 4000000 in
set_option maxRecDepth 100000 in
theorem toNet1 (x0 : Int) (x1 : Int) (w : World) :
    Calls Tryz.prog 39 #[.agg #[.int .i64 x0, .int .i64 x1]] w fun e w' => e = .returned (.agg #[.int .i64 x0, .int .i64 x1]) ∧ Below w.heap.size w w' := by
  have hu := Tryz.underlying37
  have hv := Tryz.underlying23
  go_enter Tryz.func39, Tryz.ntmps39
  go_wp2
  exact bodyPost_ret (v := .agg #[.int .i64 x0, .int .i64 x1]) (by simp [results, Tryz.results39, go_sem]) rfl ⟨rfl, below_alloc (below_alloc (below_alloc (Below.refl _ _) _) _) _⟩
set_option maxHeartbeats 4000000 in
set_option maxRecDepth 100000 in
theorem toRange1 (x0 : Int) (x1 : Int) (w : World) :
    Calls Tryz.prog 135 #[.agg #[.int .i64 x0, .int .i64 x1]] w fun e w' => e = .returned (.agg #[.int .i64 x0, .int .i64 x1]) ∧ Below w.heap.size w w' := by
  have hu := Tryz.underlying138
  have hv := Tryz.underlying149
  go_enter Tryz.func135, Tryz.ntmps135
  go_wp2
  exact bodyPost_ret (v := .agg #[.int .i64 x0, .int .i64 x1]) (by simp [results, Tryz.results135, go_sem]) rfl ⟨rfl, below_alloc (below_alloc (below_alloc (Below.refl _ _) _) _) _⟩
set_option maxHeartbeats 4000000 in
set_option maxRecDepth 100000 in
theorem toPlace1 (x0 : Int) (x1 : Int) (x2 : Int) (x3 : Int) (w : World) :
    Calls Tryz.prog 94 #[.agg #[.int .i64 x0, .int .i64 x1, .int .i64 x2, .int .i64 x3]] w fun e w' => e = .returned (.agg #[.int .i64 x0, .int .i64 x1, .int .i64 x2, .int .i64 x3]) ∧ Below w.heap.size w w' := by
  have hu := Tryz.underlying140
  have hv := Tryz.underlying151
  have HB := Aside0.mk (Below.refl w.heap.size w)
  go_enter Tryz.func94, Tryz.ntmps94
  go_wp2_with (first
    | (go_at_call 39; refine (toNet1 x0 x1 _).mono ?_; rintro e w2 ⟨rfl, hb⟩; have n_ := Aside0.mk (below_step (w := w) (by repeat' (with_reducible first | exact HB.out | apply below_alloc | refine below_set ?_ (by omega))) hb); clear HB; have HB := n_; clear n_; have n_ := Aside0.mk (blk_below (g := w.heap.size + 1) (o := .cells #[.int .i64 0, .int .i64 0, .int .i64 0, .int .i64 0] 140 (0, 0)) (by repeat' (with_reducible first | exact HR.out | exact box2 _ _ _ _ | refine blk_far ?_ (by dsimp only; omega) _)) hb); (try clear HR); have HR := n_; clear n_; obtain ⟨hc, hf⟩ := bcell hb; have hz : w.heap.size + 1 + 1 < w2.heap.size := (by have := hb.size; (try simp at this); omega); have hz0 : w.heap.size < w2.heap.size := (by omega); have hz1 : w.heap.size + 1 < w2.heap.size := (by omega); clear hb)
    | (go_at_call 135; refine (toRange1 x2 x3 _).mono ?_; rintro e w2 ⟨rfl, hb⟩; have n_ := Aside0.mk (below_step (w := w) (by repeat' (with_reducible first | exact HB.out | apply below_alloc | refine below_set ?_ (by omega))) hb); clear HB; have HB := n_; clear n_; have n_ := Aside0.mk (blk_below (g := w.heap.size + 1) (o := .cells #[.int .i64 0, .int .i64 0, .int .i64 0, .int .i64 0] 140 (0, 0)) (by repeat' (with_reducible first | exact HR.out | exact box2 _ _ _ _ | refine blk_far ?_ (by dsimp only; omega) _)) hb); (try clear HR); have HR := n_; clear n_; obtain ⟨hc, hf⟩ := bcell hb; have hz : w.heap.size + 1 + 1 < w2.heap.size := (by have := hb.size; (try simp at this); omega); have hz0 : w.heap.size < w2.heap.size := (by omega); have hz1 : w.heap.size + 1 < w2.heap.size := (by omega); clear hb))
  refine bodyPost_ret (v := .agg #[.int .i64 x0, .int .i64 x1, .int .i64 x2, .int .i64 x3]) ?_ rfl ⟨rfl, ?_⟩
  · refine results_cell_row rfl _ _ (w.heap.size + 1) 140 #[.int .i64 x0, .int .i64 x1, .int .i64 x2, .int .i64 x3] (0, 0) _ rfl ?_ hu rfl (by kernel_rfl)
    refine res4 (z0 := .int .i64 0) (z1 := .int .i64 0) (z2 := .int .i64 0) (z3 := .int .i64 0) ?_
    repeat' (with_reducible first | exact HR.out | refine blk_far ?_ (by dsimp only; omega) _)
  · repeat' (with_reducible first | exact HB.out | refine below_set ?_ (by omega))
set_option maxHeartbeats 4000000 in
set_option maxRecDepth 100000 in
theorem toPlaceS1 (A0 : Option Addr) (c0 : Nat) (l : List S151) (w : World) (h0 : Kd.C k151 w A0 l.length l) (z : l.length ≤ 1048576) :
    Calls Tryz.prog 40 #[.slice A0 l.length c0] w fun e w' => ∃ B d, e = .returned (.slice B l.length d) ∧ Kd.R k140 140 w' w.heap.size (fun _ => True) (.slice B l.length d) (l.map cvPlace) ∧ Below w.heap.size w w' := by
  have hu := Tryz.underlying140
  have H0 := Aside0.mk h0
  clear h0
  go_enter Tryz.func40, Tryz.ntmps40
  go_wp2_with ((with_reducible refine gate_dst (N := 7) rfl ?_); refine Kd.R_make k140 w.heap.size 140 rfl (N := 7) rfl 38 _ _ rfl (l.length : Int) rfl rfl Tryz.underlying38 _ 32 info140 rfl (by decide) (by decide) z140 (ok := fun _ => True) (okp := fun _ => True) (k140_mkM _ _ _ z140) (fun _ hk => hk) trivial (by omega) (by omega) (Below.refl _ _) (Nat.le_refl _) ?_; intro v w4 ho hb hg_ hn_; clear hg_ hn_; have HO := Aside0.mk ho; have HB := Aside0.mk hb; clear ho hb)
  obtain ⟨B, d, ev⟩ := Kd.R_slice HO.out
  rw [List.length_replicate] at ev
  simp only [Int.toNat_natCast] at ev
  subst ev
  go_loopg [4] l.length (fun gg v4 w' => ∃ i : Int, v4 = .int .i64 i ∧ 0 ≤ i ∧ i ≤ l.length ∧ l.length - i ≤ gg ∧ Aside0 (Kd.R k140 140 w' w.heap.size (fun _ => True) (.slice B l.length d) (fillL (l.map cvPlace) z140 i)) ∧ Aside0 (Below w.heap.size w w'))
  case atStart => exact ⟨0, rfl, Int.le_refl _, by omega, by omega, ⟨by have := HO.out; simpa [fillL] using this⟩, HB⟩
  case round =>
    clear HO HB
    obtain ⟨i, rfl, hi0, hi, hgg, HO, HB⟩ := hrel
    have hlen : (fillL (l.map cvPlace) z140 i).length = l.length := by rw [fillL_len _ _ _ (by rw [List.length_map]; exact hi), List.length_map]
    by_cases hlt : i < l.length
    · obtain ⟨ad, eA, hc⟩ := at_T151 (Kd.C_below H0.out HB.out) i hi0 hlt
      subst eA
      obtain ⟨g, cap, ev, hg1, hg2, hg3⟩ := Kd.R_form HO.out (by omega)
      rw [hlen] at ev
      injection ev with e1 _ e2
      subst e1 e2
      clear hlen hg1 hg2 hg3
      go_wp2_with (first
        | (go_at_call 94; refine (toPlace1 (rd_T151 l i).f0.f0 (rd_T151 l i).f0.f1 (rd_T151 l i).f1.f0 (rd_T151 l i).f1.f1 _).mono ?_; rintro e w2 ⟨rfl, hb⟩; have HO2 := Aside0.mk (Kd.R_below HO.out hb); have HB2 := Aside0.mk (below_step HB.out hb); clear hb)
        | ((with_reducible refine gate_store rfl ?_); refine R_storeW k140 w.heap.size rfl rfl 140 _ _ rfl 140 i _ (cvPlace (rd_T151 l i)) _ rfl rfl rfl (by kernel_rfl) HO2.out hi0 hlt (k140_mkM _ _ _ (cvPlace (rd_T151 l i))) HB2.out ?_; intro w3 ho hb hg_; have HO3 := Aside0.mk ho; have HB3 := Aside0.mk hb; clear ho hb hg_))
      go_roundg (l.length - (i + 1)).toNat
      case measure => omega
      case rel =>
        refine ⟨i + 1, rfl, by omega, by omega, by omega, ⟨?_⟩, HB3⟩
        rw [← fillL_set (l.map cvPlace) z140 (cvPlace (rd_T151 l i)) i hi0 (by rw [List.length_map]; exact hlt) (by rw [List.getElem?_map, rd_T151, List.getD_eq_getElem?_getD, List.getElem?_eq_getElem (show i.toNat < l.length by omega)]; rfl)]
        exact HO3.out
    · obtain rfl : i = l.length := by omega
      go_wp2
      go_ret
      refine ⟨B, d, rfl, ?_, HB.out⟩
      have h_ := HO.out
      rwa [show (l.length : Int) = ((l.map cvPlace).length : Int) by rw [List.length_map], fillL_all] at h_
set_option maxHeartbeats 4000000 in
set_option maxRecDepth 100000 in
theorem toRule1 (x0 : Int) (x1 : Int) (x2 : Int) (x3 : Int) (x4 : Int) (x5 : Bool) (w : World) :
    Calls Tryz.prog 145 #[.agg #[.int .i64 x0, .int .i64 x1, .int .i64 x2, .int .i64 x3, .int .i64 x4, .bool x5]] w fun e w' => e = .returned (.agg #[.int .i64 x0, .int .i64 x1, .int .i64 x2, .int .i64 x3, .int .i64 x4, .bool x5]) ∧ Below w.heap.size w w' := by
  have hu := Tryz.underlying183
  have hv := Tryz.underlying193
  have HB := Aside0.mk (Below.refl w.heap.size w)
  go_enter Tryz.func145, Tryz.ntmps145
  go_wp2_with (first
    | (go_at_call 39; refine (toNet1 x1 x2 _).mono ?_; rintro e w2 ⟨rfl, hb⟩; have n_ := Aside0.mk (below_step (w := w) (by repeat' (with_reducible first | exact HB.out | apply below_alloc | refine below_set ?_ (by omega))) hb); clear HB; have HB := n_; clear n_; have n_ := Aside0.mk (blk_below (g := w.heap.size + 1) (o := .cells #[.int .i64 0, .int .i64 0, .int .i64 0, .int .i64 0, .int .i64 0, .bool false] 183 (0, 0)) (by repeat' (with_reducible first | exact HR.out | exact box2 _ _ _ _ | refine blk_far ?_ (by dsimp only; omega) _)) hb); (try clear HR); have HR := n_; clear n_; obtain ⟨hc, hf⟩ := bcell hb; have hz : w.heap.size + 1 + 1 < w2.heap.size := (by have := hb.size; (try simp at this); omega); have hz0 : w.heap.size < w2.heap.size := (by omega); have hz1 : w.heap.size + 1 < w2.heap.size := (by omega); clear hb)
    | (go_at_call 135; refine (toRange1 x3 x4 _).mono ?_; rintro e w2 ⟨rfl, hb⟩; have n_ := Aside0.mk (below_step (w := w) (by repeat' (with_reducible first | exact HB.out | apply below_alloc | refine below_set ?_ (by omega))) hb); clear HB; have HB := n_; clear n_; have n_ := Aside0.mk (blk_below (g := w.heap.size + 1) (o := .cells #[.int .i64 0, .int .i64 0, .int .i64 0, .int .i64 0, .int .i64 0, .bool false] 183 (0, 0)) (by repeat' (with_reducible first | exact HR.out | exact box2 _ _ _ _ | refine blk_far ?_ (by dsimp only; omega) _)) hb); (try clear HR); have HR := n_; clear n_; obtain ⟨hc, hf⟩ := bcell hb; have hz : w.heap.size + 1 + 1 < w2.heap.size := (by have := hb.size; (try simp at this); omega); have hz0 : w.heap.size < w2.heap.size := (by omega); have hz1 : w.heap.size + 1 < w2.heap.size := (by omega); clear hb))
  refine bodyPost_ret (v := .agg #[.int .i64 x0, .int .i64 x1, .int .i64 x2, .int .i64 x3, .int .i64 x4, .bool x5]) ?_ rfl ⟨rfl, ?_⟩
  · refine results_cell_row rfl _ _ (w.heap.size + 1) 183 #[.int .i64 x0, .int .i64 x1, .int .i64 x2, .int .i64 x3, .int .i64 x4, .bool x5] (0, 0) _ rfl ?_ hu rfl (by kernel_rfl)
    refine res6 (z0 := .int .i64 0) (z1 := .int .i64 0) (z2 := .int .i64 0) (z3 := .int .i64 0) (z4 := .int .i64 0) (z5 := .bool false) ?_
    repeat' (with_reducible first | exact HR.out | refine blk_far ?_ (by dsimp only; omega) _)
  · repeat' (with_reducible first | exact HB.out | refine below_set ?_ (by omega))
set_option maxHeartbeats 4000000 in
set_option maxRecDepth 100000 in
theorem toRuleS1 (A0 : Option Addr) (c0 : Nat) (l : List S193) (w : World) (h0 : Kd.C k193 w A0 l.length l) (z : l.length ≤ 1048576) :
    Calls Tryz.prog 136 #[.slice A0 l.length c0] w fun e w' => ∃ B d, e = .returned (.slice B l.length d) ∧ Kd.R k183 183 w' w.heap.size (fun _ => True) (.slice B l.length d) (l.map cvRule) ∧ Below w.heap.size w w' := by
  have hu := Tryz.underlying183
  have H0 := Aside0.mk h0
  clear h0
  go_enter Tryz.func136, Tryz.ntmps136
  go_wp2_with ((with_reducible refine gate_dst (N := 7) rfl ?_); refine Kd.R_make k183 w.heap.size 183 rfl (N := 7) rfl 143 _ _ rfl (l.length : Int) rfl rfl Tryz.underlying143 _ 48 info183 rfl (by decide) (by decide) z183 (ok := fun _ => True) (okp := fun _ => True) (k183_mkM _ _ _ z183) (fun _ hk => hk) trivial (by omega) (by omega) (Below.refl _ _) (Nat.le_refl _) ?_; intro v w4 ho hb hg_ hn_; clear hg_ hn_; have HO := Aside0.mk ho; have HB := Aside0.mk hb; clear ho hb)
  obtain ⟨B, d, ev⟩ := Kd.R_slice HO.out
  rw [List.length_replicate] at ev
  simp only [Int.toNat_natCast] at ev
  subst ev
  go_loopg [4] l.length (fun gg v4 w' => ∃ i : Int, v4 = .int .i64 i ∧ 0 ≤ i ∧ i ≤ l.length ∧ l.length - i ≤ gg ∧ Aside0 (Kd.R k183 183 w' w.heap.size (fun _ => True) (.slice B l.length d) (fillL (l.map cvRule) z183 i)) ∧ Aside0 (Below w.heap.size w w'))
  case atStart => exact ⟨0, rfl, Int.le_refl _, by omega, by omega, ⟨by have := HO.out; simpa [fillL] using this⟩, HB⟩
  case round =>
    clear HO HB
    obtain ⟨i, rfl, hi0, hi, hgg, HO, HB⟩ := hrel
    have hlen : (fillL (l.map cvRule) z183 i).length = l.length := by rw [fillL_len _ _ _ (by rw [List.length_map]; exact hi), List.length_map]
    by_cases hlt : i < l.length
    · obtain ⟨ad, eA, hc⟩ := at_T193 (Kd.C_below H0.out HB.out) i hi0 hlt
      subst eA
      obtain ⟨g, cap, ev, hg1, hg2, hg3⟩ := Kd.R_form HO.out (by omega)
      rw [hlen] at ev
      injection ev with e1 _ e2
      subst e1 e2
      clear hlen hg1 hg2 hg3
      go_wp2_with (first
        | (go_at_call 145; refine (toRule1 (rd_T193 l i).f0 (rd_T193 l i).f1.f0 (rd_T193 l i).f1.f1 (rd_T193 l i).f2.f0 (rd_T193 l i).f2.f1 (rd_T193 l i).f3 _).mono ?_; rintro e w2 ⟨rfl, hb⟩; have HO2 := Aside0.mk (Kd.R_below HO.out hb); have HB2 := Aside0.mk (below_step HB.out hb); clear hb)
        | ((with_reducible refine gate_store rfl ?_); refine R_storeW k183 w.heap.size rfl rfl 183 _ _ rfl 183 i _ (cvRule (rd_T193 l i)) _ rfl rfl rfl (by kernel_rfl) HO2.out hi0 hlt (k183_mkM _ _ _ (cvRule (rd_T193 l i))) HB2.out ?_; intro w3 ho hb hg_; have HO3 := Aside0.mk ho; have HB3 := Aside0.mk hb; clear ho hb hg_))
      go_roundg (l.length - (i + 1)).toNat
      case measure => omega
      case rel =>
        refine ⟨i + 1, rfl, by omega, by omega, by omega, ⟨?_⟩, HB3⟩
        rw [← fillL_set (l.map cvRule) z183 (cvRule (rd_T193 l i)) i hi0 (by rw [List.length_map]; exact hlt) (by rw [List.getElem?_map, rd_T193, List.getD_eq_getElem?_getD, List.getElem?_eq_getElem (show i.toNat < l.length by omega)]; rfl)]
        exact HO3.out
    · obtain rfl : i = l.length := by omega
      go_wp2
      go_ret
      refine ⟨B, d, rfl, ?_, HB.out⟩
      have h_ := HO.out
      rwa [show (l.length : Int) = ((l.map cvRule).length : Int) by rw [List.length_map], fillL_all] at h_
set_option maxHeartbeats 4000000 in
set_option maxRecDepth 100000 in
theorem toRole1 (x0 : ByteArray) (A1 : Option Addr) (c1 : Nat) (x1 : List S193) (x2 : Int) (x3 : Int) (x4 : Int) (w : World) (h1 : Kd.C k193 w A1 x1.length x1) (z1 : x1.length ≤ 1048576) :
    Calls Tryz.prog 95 #[.agg #[.string x0, .slice A1 x1.length c1, .int .i64 x2, .int .i64 x3, .int .i64 x4]] w fun e w' => ∃ B1 d1, e = .returned (.agg #[.string x0, .slice B1 x1.length d1, .int .i64 x2, .int .i64 x3, .int .i64 x4]) ∧ Kd.R k183 183 w' w.heap.size (fun _ => True) (.slice B1 x1.length d1) (x1.map cvRule) ∧ Below w.heap.size w w' := by
  have hu := Tryz.underlying145
  have hv := Tryz.underlying129
  have HH1 := Aside0.mk h1
  clear h1
  have HB := Aside0.mk (Below.refl w.heap.size w)
  go_enter Tryz.func95, Tryz.ntmps95
  go_wp2_with (first
    | (go_at_call 136; refine (toRuleS1 A1 c1 x1 _ (Kd.C_below HH1.out (by repeat' (with_reducible first | exact HB.out | apply below_alloc | refine below_set ?_ (by omega)))) z1).mono ?_; rintro e w2 ⟨B1, d1, rfl, ho, hb⟩; have n_ := Aside0.mk (below_step (w := w) (by repeat' (with_reducible first | exact HB.out | apply below_alloc | refine below_set ?_ (by omega))) hb); clear HB; have HB := n_; clear n_; have n_ := Aside0.mk (blk_below (g := w.heap.size + 1) (o := .cells #[.string ⟨#[]⟩, .slice none 0 0, .int .i64 0, .int .i64 0, .int .i64 0] 145 (0, 0)) (by repeat' (with_reducible first | exact HR.out | exact box2 _ _ _ _ | refine blk_far ?_ (by dsimp only; omega) _)) hb); (try clear HR); have HR := n_; clear n_; have HO1 := Aside0.mk (Kd.R_lower (base' := w.heap.size + 3) ho (by first | (simp; done) | (simp; omega) | omega)); clear ho; obtain ⟨hc, hf⟩ := bcell hb; have hz : w.heap.size + 1 + 1 < w2.heap.size := (by have := hb.size; (try simp at this); omega); have hz0 : w.heap.size < w2.heap.size := (by omega); have hz1 : w.heap.size + 1 < w2.heap.size := (by omega); clear hb))
  refine bodyPost_ret (v := .agg #[.string x0, .slice B1 x1.length d1, .int .i64 x2, .int .i64 x3, .int .i64 x4]) ?_ rfl ⟨B1, d1, rfl, ?_, ?_⟩
  · refine results_cell_row rfl _ _ (w.heap.size + 1) 145 #[.string x0, .slice B1 x1.length d1, .int .i64 x2, .int .i64 x3, .int .i64 x4] (0, 0) _ rfl ?_ hu rfl (by kernel_rfl)
    refine res5 (z0 := .string ⟨#[]⟩) (z1 := .slice none 0 0) (z2 := .int .i64 0) (z3 := .int .i64 0) (z4 := .int .i64 0) ?_
    repeat' (with_reducible first | exact HR.out | refine blk_far ?_ (by dsimp only; omega) _)
  · refine Kd.R_lower (base := w.heap.size + 3) ?_ (by omega)
    refine R_out HO1.out (fun k hk => ?_)
    repeat (with_reducible refine (Below.heap_setCell _ _ _ _ (by dsimp only; omega)).trans ?_)
    rfl
  · repeat' (with_reducible first | exact HB.out | refine below_set ?_ (by omega))
set_option maxHeartbeats 4000000 in
set_option maxRecDepth 100000 in
theorem toRoleS1 (A0 : Option Addr) (c0 : Nat) (l : List S129) (w : World) (h0 : Kd.C k129 w A0 l.length l) (z : l.length ≤ 1048576) (y : ∀ r ∈ l, r.f1.length ≤ 1048576) :
    Calls Tryz.prog 41 #[.slice A0 l.length c0] w fun e w' => ∃ B d, e = .returned (.slice B l.length d) ∧ Kd.R k145 145 w' w.heap.size (fun _ => True) (.slice B l.length d) (l.map cvRole) ∧ Below w.heap.size w w' := by
  have hu := Tryz.underlying145
  have H0 := Aside0.mk h0
  clear h0
  have HY := Aside0.mk y
  clear y
  go_enter Tryz.func41, Tryz.ntmps41
  go_wp2_with ((with_reducible refine gate_dst (N := 7) rfl ?_); refine Kd.R_make k145 w.heap.size 145 rfl (N := 7) rfl 39 _ _ rfl (l.length : Int) rfl rfl Tryz.underlying39 _ 64 info145 rfl (by decide) (by decide) z145 (ok := fun _ => True) (okp := fun _ => True) (k145_mkM _ _ _ z145 (Kd.R_nil _ _ _ _ _)) (fun _ hk => hk) trivial (by omega) (by omega) (Below.refl _ _) (Nat.le_refl _) ?_; intro v w4 ho hb hg_ hn_; clear hg_ hn_; have HO := Aside0.mk ho; have HB := Aside0.mk hb; clear ho hb)
  obtain ⟨B, d, ev⟩ := Kd.R_slice HO.out
  rw [List.length_replicate] at ev
  simp only [Int.toNat_natCast] at ev
  subst ev
  go_loopg [4] l.length (fun gg v4 w' => ∃ i : Int, v4 = .int .i64 i ∧ 0 ≤ i ∧ i ≤ l.length ∧ l.length - i ≤ gg ∧ Aside0 (Kd.R k145 145 w' w.heap.size (fun _ => True) (.slice B l.length d) (fillL (l.map cvRole) z145 i)) ∧ Aside0 (Below w.heap.size w w'))
  case atStart => exact ⟨0, rfl, Int.le_refl _, by omega, by omega, ⟨by have := HO.out; simpa [fillL] using this⟩, HB⟩
  case round =>
    clear HO HB
    obtain ⟨i, rfl, hi0, hi, hgg, HO, HB⟩ := hrel
    have hlen : (fillL (l.map cvRole) z145 i).length = l.length := by rw [fillL_len _ _ _ (by rw [List.length_map]; exact hi), List.length_map]
    by_cases hlt : i < l.length
    · obtain ⟨ad, aA, aC, eA, a0, a1, a2, a3, a4, al, ak⟩ := at_T129 (Kd.C_below H0.out HB.out) i hi0 hlt
      subst eA
      have HK := Aside0.mk ak
      have hm : rd_T129 l i ∈ l := by rw [rd_T129, List.getD_eq_getElem?_getD, List.getElem?_eq_getElem (show i.toNat < l.length by omega)]; exact List.getElem_mem _
      have hy := HY.out _ hm
      clear hm ak al
      obtain ⟨g, cap, ev, hg1, hg2, hg3⟩ := Kd.R_form HO.out (by omega)
      rw [hlen] at ev
      injection ev with e1 _ e2
      subst e1 e2
      clear hlen hg1 hg2 hg3
      go_wp2_with (first
        | (go_at_call 95; refine (toRole1 (rd_T129 l i).f0 aA aC (rd_T129 l i).f1 (rd_T129 l i).f2 (rd_T129 l i).f3 (rd_T129 l i).f4 _ (Kd.C_below HK.out (Below.refl _ _)) hy).mono ?_; rintro e w2 ⟨rB, rd, rfl, hr, hb⟩; have HO2 := Aside0.mk (Kd.R_below HO.out hb); have HB2 := Aside0.mk (below_step HB.out hb); have HV := Aside0.mk (Kd.R_lower hr HB.out.size); clear hr; have HT := Aside0.mk (own_typed (Kd.R_own HO2.out).choose_spec _ rfl); clear hb)
        | ((with_reducible refine gate_store rfl ?_); refine R_storeW k145 w.heap.size rfl rfl 145 _ _ rfl 145 i _ (cvRole (rd_T129 l i)) _ rfl rfl rfl (by kernel_rfl) HO2.out hi0 hlt (k145_mkM _ _ _ (cvRole (rd_T129 l i)) (Kd.R_mono (Kd.R_types HV.out HT.out.choose_spec (by decide)) (fun _ hk => hk.2))) HB2.out ?_; intro w3 ho hb hg_; have HO3 := Aside0.mk ho; have HB3 := Aside0.mk hb; clear ho hb hg_))
      go_roundg (l.length - (i + 1)).toNat
      case measure => omega
      case rel =>
        refine ⟨i + 1, rfl, by omega, by omega, by omega, ⟨?_⟩, HB3⟩
        rw [← fillL_set (l.map cvRole) z145 (cvRole (rd_T129 l i)) i hi0 (by rw [List.length_map]; exact hlt) (by rw [List.getElem?_map, rd_T129, List.getD_eq_getElem?_getD, List.getElem?_eq_getElem (show i.toNat < l.length by omega)]; rfl)]
        exact HO3.out
    · obtain rfl : i = l.length := by omega
      go_wp2
      go_ret
      refine ⟨B, d, rfl, ?_, HB.out⟩
      have h_ := HO.out
      rwa [show (l.length : Int) = ((l.map cvRole).length : Int) by rw [List.length_map], fillL_all] at h_
set_option maxHeartbeats 4000000 in
set_option maxRecDepth 100000 in
theorem toConfig1 (x0 : Int) (x1 : Int) (x2 : Int) (x3 : ByteArray) (x4 : ByteArray) (x5 : Int) (A6 : Option Addr) (c6 : Nat) (x6 : List S151) (A7 : Option Addr) (c7 : Nat) (x7 : List S129) (w : World) (h6 : Kd.C k151 w A6 x6.length x6) (z6 : x6.length ≤ 1048576) (h7 : Kd.C k129 w A7 x7.length x7) (z7 : x7.length ≤ 1048576) (y7 : ∀ r ∈ x7, r.f1.length ≤ 1048576) :
    Calls Tryz.prog 10 #[.agg #[.int .i64 x0, .int .i64 x1, .int .i64 x2, .string x3, .string x4, .int .i64 x5, .slice A6 x6.length c6, .slice A7 x7.length c7]] w fun e w' => ∃ B6 d6, ∃ B7 d7, e = .returned (.agg #[.int .i64 x0, .int .i64 x1, .int .i64 x2, .string x3, .string x4, .int .i64 x5, .slice B6 x6.length d6, .slice B7 x7.length d7]) ∧ Kd.R k140 140 w' w.heap.size (fun _ => True) (.slice B6 x6.length d6) (x6.map cvPlace) ∧ Kd.R k145 145 w' w.heap.size (fun _ => True) (.slice B7 x7.length d7) (x7.map cvRole) ∧ Below w.heap.size w w' := by
  have hu := Tryz.underlying41
  have hv := Tryz.underlying27
  have HH6 := Aside0.mk h6
  clear h6
  have HH7 := Aside0.mk (And.intro h7 y7)
  clear h7 y7
  have HB := Aside0.mk (Below.refl w.heap.size w)
  go_enter Tryz.func10, Tryz.ntmps10
  go_wp2_with (first
    | (go_at_call 39; refine (toNet1 x0 x1 _).mono ?_; rintro e w2 ⟨rfl, hb⟩; have n_ := Aside0.mk (below_step (w := w) (by repeat' (with_reducible first | exact HB.out | apply below_alloc | refine below_set ?_ (by omega))) hb); clear HB; have HB := n_; clear n_; have n_ := Aside0.mk (blk_below (g := w.heap.size + 1) (o := .cells #[.int .i64 0, .int .i64 0, .int .i64 0, .string ⟨#[]⟩, .string ⟨#[]⟩, .int .i64 0, .slice none 0 0, .slice none 0 0] 41 (0, 0)) (by repeat' (with_reducible first | exact HR.out | exact box2 _ _ _ _ | refine blk_far ?_ (by dsimp only; omega) _)) hb); (try clear HR); have HR := n_; clear n_; obtain ⟨hc, hf⟩ := bcell hb; have hz : w.heap.size + 1 + 1 < w2.heap.size := (by have := hb.size; (try simp at this); omega); have hz0 : w.heap.size < w2.heap.size := (by omega); have hz1 : w.heap.size + 1 < w2.heap.size := (by omega); clear hb)
    | (go_at_call 40; refine (toPlaceS1 A6 c6 x6 _ (Kd.C_below HH6.out (by repeat' (with_reducible first | exact HB.out | apply below_alloc | refine below_set ?_ (by omega)))) z6).mono ?_; rintro e w2 ⟨B6, d6, rfl, ho, hb⟩; have n_ := Aside0.mk (below_step (w := w) (by repeat' (with_reducible first | exact HB.out | apply below_alloc | refine below_set ?_ (by omega))) hb); clear HB; have HB := n_; clear n_; have n_ := Aside0.mk (blk_below (g := w.heap.size + 1) (o := .cells #[.int .i64 0, .int .i64 0, .int .i64 0, .string ⟨#[]⟩, .string ⟨#[]⟩, .int .i64 0, .slice none 0 0, .slice none 0 0] 41 (0, 0)) (by repeat' (with_reducible first | exact HR.out | exact box2 _ _ _ _ | refine blk_far ?_ (by dsimp only; omega) _)) hb); (try clear HR); have HR := n_; clear n_; have HO6 := Aside0.mk (Kd.R_lower (base' := w.heap.size + 3) ho (by first | (simp; done) | (simp; omega) | omega)); clear ho; obtain ⟨hc, hf⟩ := bcell hb; have hz : w.heap.size + 1 + 1 < w2.heap.size := (by have := hb.size; (try simp at this); omega); have hz0 : w.heap.size < w2.heap.size := (by omega); have hz1 : w.heap.size + 1 < w2.heap.size := (by omega); clear hb)
    | (go_at_call 41; refine (toRoleS1 A7 c7 x7 _ (Kd.C_below HH7.out.1 (by repeat' (with_reducible first | exact HB.out | apply below_alloc | refine below_set ?_ (by omega)))) z7 HH7.out.2).mono ?_; rintro e w2 ⟨B7, d7, rfl, ho, hb⟩; have n_ := Aside0.mk (below_step (w := w) (by repeat' (with_reducible first | exact HB.out | apply below_alloc | refine below_set ?_ (by omega))) hb); clear HB; have HB := n_; clear n_; have n_ := Aside0.mk (blk_below (g := w.heap.size + 1) (o := .cells #[.int .i64 0, .int .i64 0, .int .i64 0, .string ⟨#[]⟩, .string ⟨#[]⟩, .int .i64 0, .slice none 0 0, .slice none 0 0] 41 (0, 0)) (by repeat' (with_reducible first | exact HR.out | exact box2 _ _ _ _ | refine blk_far ?_ (by dsimp only; omega) _)) hb); (try clear HR); have HR := n_; clear n_; have n_ := Aside0.mk (Kd.R_below (R_out HO6.out (fun k hk => by repeat (with_reducible refine (Below.heap_setCell _ _ _ _ (by dsimp only; omega)).trans ?_); rfl)) hb); clear HO6; have HO6 := n_; clear n_; have HO7 := Aside0.mk (Kd.R_lower (base' := w.heap.size + 3) ho (by first | (simp; done) | (simp; omega) | omega)); clear ho; obtain ⟨hc, hf⟩ := bcell hb; have hz : w.heap.size + 1 + 1 < w2.heap.size := (by have := hb.size; (try simp at this); omega); have hz0 : w.heap.size < w2.heap.size := (by omega); have hz1 : w.heap.size + 1 < w2.heap.size := (by omega); clear hb))
  refine bodyPost_ret (v := .agg #[.int .i64 x0, .int .i64 x1, .int .i64 x2, .string x3, .string x4, .int .i64 x5, .slice B6 x6.length d6, .slice B7 x7.length d7]) ?_ rfl ⟨B6, d6, B7, d7, rfl, ?_, ?_, ?_⟩
  · refine results_cell_row rfl _ _ (w.heap.size + 1) 41 #[.int .i64 x0, .int .i64 x1, .int .i64 x2, .string x3, .string x4, .int .i64 x5, .slice B6 x6.length d6, .slice B7 x7.length d7] (0, 0) _ rfl ?_ hu rfl (by kernel_rfl)
    refine res8 (z0 := .int .i64 0) (z1 := .int .i64 0) (z2 := .int .i64 0) (z3 := .string ⟨#[]⟩) (z4 := .string ⟨#[]⟩) (z5 := .int .i64 0) (z6 := .slice none 0 0) (z7 := .slice none 0 0) ?_
    repeat' (with_reducible first | exact HR.out | refine blk_far ?_ (by dsimp only; omega) _)
  · refine Kd.R_lower (base := w.heap.size + 3) ?_ (by omega)
    refine R_out HO6.out (fun k hk => ?_)
    repeat (with_reducible refine (Below.heap_setCell _ _ _ _ (by dsimp only; omega)).trans ?_)
    rfl
  · refine Kd.R_lower (base := w.heap.size + 3) ?_ (by omega)
    refine R_out HO7.out (fun k hk => ?_)
    repeat (with_reducible refine (Below.heap_setCell _ _ _ _ (by dsimp only; omega)).trans ?_)
    rfl
  · repeat' (with_reducible first | exact HB.out | refine below_set ?_ (by omega))
set_option maxHeartbeats 4000000 in
set_option maxRecDepth 100000 in
theorem toUser1 (x0 : ByteArray) (x1 : ByteArray) (x2 : ByteArray) (x3 : ByteArray) (x4 : Int) (x5 : Int) (w : World) :
    Calls Tryz.prog 96 #[.agg #[.string x0, .string x1, .string x2, .string x3, .int .i64 x4, .int .i64 x5]] w fun e w' => e = .returned (.agg #[.string x0, .string x1, .string x2, .string x3, .int .i64 x4, .int .i64 x5]) ∧ Below w.heap.size w w' := by
  have hu := Tryz.underlying92
  have hv := Tryz.underlying131
  go_enter Tryz.func96, Tryz.ntmps96
  go_wp2
  exact bodyPost_ret (v := .agg #[.string x0, .string x1, .string x2, .string x3, .int .i64 x4, .int .i64 x5]) (by simp [results, Tryz.results96, go_sem]) rfl ⟨rfl, below_alloc (below_alloc (below_alloc (Below.refl _ _) _) _) _⟩
set_option maxHeartbeats 4000000 in
set_option maxRecDepth 100000 in
theorem toUserS1 (A0 : Option Addr) (c0 : Nat) (l : List S131) (w : World) (h0 : Kd.C k131 w A0 l.length l) (z : l.length ≤ 1048576) :
    Calls Tryz.prog 42 #[.slice A0 l.length c0] w fun e w' => ∃ B d, e = .returned (.slice B l.length d) ∧ Kd.R k92 92 w' w.heap.size (fun _ => True) (.slice B l.length d) (l.map cvUser) ∧ Below w.heap.size w w' := by
  have hu := Tryz.underlying92
  have H0 := Aside0.mk h0
  clear h0
  go_enter Tryz.func42, Tryz.ntmps42
  go_wp2_with ((with_reducible refine gate_dst (N := 7) rfl ?_); refine Kd.R_make k92 w.heap.size 92 rfl (N := 7) rfl 43 _ _ rfl (l.length : Int) rfl rfl Tryz.underlying43 _ 80 info92 rfl (by decide) (by decide) z92 (ok := fun _ => True) (okp := fun _ => True) (k92_mkM _ _ _ z92) (fun _ hk => hk) trivial (by omega) (by omega) (Below.refl _ _) (Nat.le_refl _) ?_; intro v w4 ho hb hg_ hn_; clear hg_ hn_; have HO := Aside0.mk ho; have HB := Aside0.mk hb; clear ho hb)
  obtain ⟨B, d, ev⟩ := Kd.R_slice HO.out
  rw [List.length_replicate] at ev
  simp only [Int.toNat_natCast] at ev
  subst ev
  go_loopg [4] l.length (fun gg v4 w' => ∃ i : Int, v4 = .int .i64 i ∧ 0 ≤ i ∧ i ≤ l.length ∧ l.length - i ≤ gg ∧ Aside0 (Kd.R k92 92 w' w.heap.size (fun _ => True) (.slice B l.length d) (fillL (l.map cvUser) z92 i)) ∧ Aside0 (Below w.heap.size w w'))
  case atStart => exact ⟨0, rfl, Int.le_refl _, by omega, by omega, ⟨by have := HO.out; simpa [fillL] using this⟩, HB⟩
  case round =>
    clear HO HB
    obtain ⟨i, rfl, hi0, hi, hgg, HO, HB⟩ := hrel
    have hlen : (fillL (l.map cvUser) z92 i).length = l.length := by rw [fillL_len _ _ _ (by rw [List.length_map]; exact hi), List.length_map]
    by_cases hlt : i < l.length
    · obtain ⟨ad, eA, hc⟩ := at_T131 (Kd.C_below H0.out HB.out) i hi0 hlt
      subst eA
      obtain ⟨g, cap, ev, hg1, hg2, hg3⟩ := Kd.R_form HO.out (by omega)
      rw [hlen] at ev
      injection ev with e1 _ e2
      subst e1 e2
      clear hlen hg1 hg2 hg3
      go_wp2_with (first
        | (go_at_call 96; refine (toUser1 (rd_T131 l i).f0 (rd_T131 l i).f1 (rd_T131 l i).f2 (rd_T131 l i).f3 (rd_T131 l i).f4 (rd_T131 l i).f5 _).mono ?_; rintro e w2 ⟨rfl, hb⟩; have HO2 := Aside0.mk (Kd.R_below HO.out hb); have HB2 := Aside0.mk (below_step HB.out hb); clear hb)
        | ((with_reducible refine gate_store rfl ?_); refine R_storeW k92 w.heap.size rfl rfl 92 _ _ rfl 92 i _ (cvUser (rd_T131 l i)) _ rfl rfl rfl (by kernel_rfl) HO2.out hi0 hlt (k92_mkM _ _ _ (cvUser (rd_T131 l i))) HB2.out ?_; intro w3 ho hb hg_; have HO3 := Aside0.mk ho; have HB3 := Aside0.mk hb; clear ho hb hg_))
      go_roundg (l.length - (i + 1)).toNat
      case measure => omega
      case rel =>
        refine ⟨i + 1, rfl, by omega, by omega, by omega, ⟨?_⟩, HB3⟩
        rw [← fillL_set (l.map cvUser) z92 (cvUser (rd_T131 l i)) i hi0 (by rw [List.length_map]; exact hlt) (by rw [List.getElem?_map, rd_T131, List.getD_eq_getElem?_getD, List.getElem?_eq_getElem (show i.toNat < l.length by omega)]; rfl)]
        exact HO3.out
    · obtain rfl : i = l.length := by omega
      go_wp2
      go_ret
      refine ⟨B, d, rfl, ?_, HB.out⟩
      have h_ := HO.out
      rwa [show (l.length : Int) = ((l.map cvUser).length : Int) by rw [List.length_map], fillL_all] at h_
set_option maxHeartbeats 4000000 in
set_option maxRecDepth 100000 in
theorem toSession1 (x0 : Int) (x1 : Int) (x2 : ByteArray) (x3 : Int) (x4 : Int) (x5 : Int) (x6 : Int) (x7 : Int) (x8 : Int) (x9 : Int) (w : World) :
    Calls Tryz.prog 97 #[.agg #[.int .i64 x0, .int .i64 x1, .string x2, .int .i64 x3, .int .i64 x4, .int .i64 x5, .int .i64 x6, .int .i64 x7, .int .i64 x8, .int .i64 x9]] w fun e w' => e = .returned (.agg #[.int .i64 x0, .int .i64 x1, .string x2, .int .i64 x3, .int .i64 x4, .int .i64 x5, .int .i64 x6, .int .i64 x7, .int .i64 x8, .int .i64 x9]) ∧ Below w.heap.size w w' := by
  have hu := Tryz.underlying76
  have hv := Tryz.underlying133
  go_enter Tryz.func97, Tryz.ntmps97
  go_wp2
  exact bodyPost_ret (v := .agg #[.int .i64 x0, .int .i64 x1, .string x2, .int .i64 x3, .int .i64 x4, .int .i64 x5, .int .i64 x6, .int .i64 x7, .int .i64 x8, .int .i64 x9]) (by simp [results, Tryz.results97, go_sem]) rfl ⟨rfl, below_alloc (below_alloc (below_alloc (Below.refl _ _) _) _) _⟩
set_option maxHeartbeats 4000000 in
set_option maxRecDepth 100000 in
theorem toSessionS1 (A0 : Option Addr) (c0 : Nat) (l : List S133) (w : World) (h0 : Kd.C k133 w A0 l.length l) (z : l.length ≤ 1048576) :
    Calls Tryz.prog 43 #[.slice A0 l.length c0] w fun e w' => ∃ B d, e = .returned (.slice B l.length d) ∧ Kd.R k76 76 w' w.heap.size (fun _ => True) (.slice B l.length d) (l.map cvSession) ∧ Below w.heap.size w w' := by
  have hu := Tryz.underlying76
  have H0 := Aside0.mk h0
  clear h0
  go_enter Tryz.func43, Tryz.ntmps43
  go_wp2_with ((with_reducible refine gate_dst (N := 7) rfl ?_); refine Kd.R_make k76 w.heap.size 76 rfl (N := 7) rfl 44 _ _ rfl (l.length : Int) rfl rfl Tryz.underlying44 _ 88 info76 rfl (by decide) (by decide) z76 (ok := fun _ => True) (okp := fun _ => True) (k76_mkM _ _ _ z76) (fun _ hk => hk) trivial (by omega) (by omega) (Below.refl _ _) (Nat.le_refl _) ?_; intro v w4 ho hb hg_ hn_; clear hg_ hn_; have HO := Aside0.mk ho; have HB := Aside0.mk hb; clear ho hb)
  obtain ⟨B, d, ev⟩ := Kd.R_slice HO.out
  rw [List.length_replicate] at ev
  simp only [Int.toNat_natCast] at ev
  subst ev
  go_loopg [4] l.length (fun gg v4 w' => ∃ i : Int, v4 = .int .i64 i ∧ 0 ≤ i ∧ i ≤ l.length ∧ l.length - i ≤ gg ∧ Aside0 (Kd.R k76 76 w' w.heap.size (fun _ => True) (.slice B l.length d) (fillL (l.map cvSession) z76 i)) ∧ Aside0 (Below w.heap.size w w'))
  case atStart => exact ⟨0, rfl, Int.le_refl _, by omega, by omega, ⟨by have := HO.out; simpa [fillL] using this⟩, HB⟩
  case round =>
    clear HO HB
    obtain ⟨i, rfl, hi0, hi, hgg, HO, HB⟩ := hrel
    have hlen : (fillL (l.map cvSession) z76 i).length = l.length := by rw [fillL_len _ _ _ (by rw [List.length_map]; exact hi), List.length_map]
    by_cases hlt : i < l.length
    · obtain ⟨ad, eA, hc⟩ := at_T133 (Kd.C_below H0.out HB.out) i hi0 hlt
      subst eA
      obtain ⟨g, cap, ev, hg1, hg2, hg3⟩ := Kd.R_form HO.out (by omega)
      rw [hlen] at ev
      injection ev with e1 _ e2
      subst e1 e2
      clear hlen hg1 hg2 hg3
      go_wp2_with (first
        | (go_at_call 97; refine (toSession1 (rd_T133 l i).f0 (rd_T133 l i).f1 (rd_T133 l i).f2 (rd_T133 l i).f3 (rd_T133 l i).f4 (rd_T133 l i).f5 (rd_T133 l i).f6 (rd_T133 l i).f7 (rd_T133 l i).f8 (rd_T133 l i).f9 _).mono ?_; rintro e w2 ⟨rfl, hb⟩; have HO2 := Aside0.mk (Kd.R_below HO.out hb); have HB2 := Aside0.mk (below_step HB.out hb); clear hb)
        | ((with_reducible refine gate_store rfl ?_); refine R_storeW k76 w.heap.size rfl rfl 76 _ _ rfl 76 i _ (cvSession (rd_T133 l i)) _ rfl rfl rfl (by kernel_rfl) HO2.out hi0 hlt (k76_mkM _ _ _ (cvSession (rd_T133 l i))) HB2.out ?_; intro w3 ho hb hg_; have HO3 := Aside0.mk ho; have HB3 := Aside0.mk hb; clear ho hb hg_))
      go_roundg (l.length - (i + 1)).toNat
      case measure => omega
      case rel =>
        refine ⟨i + 1, rfl, by omega, by omega, by omega, ⟨?_⟩, HB3⟩
        rw [← fillL_set (l.map cvSession) z76 (cvSession (rd_T133 l i)) i hi0 (by rw [List.length_map]; exact hlt) (by rw [List.getElem?_map, rd_T133, List.getD_eq_getElem?_getD, List.getElem?_eq_getElem (show i.toNat < l.length by omega)]; rfl)]
        exact HO3.out
    · obtain rfl : i = l.length := by omega
      go_wp2
      go_ret
      refine ⟨B, d, rfl, ?_, HB.out⟩
      have h_ := HO.out
      rwa [show (l.length : Int) = ((l.map cvSession).length : Int) by rw [List.length_map], fillL_all] at h_
set_option maxHeartbeats 4000000 in
set_option maxRecDepth 100000 in
theorem toFail1 (x0 : ByteArray) (x1 : Int) (x2 : Int) (w : World) :
    Calls Tryz.prog 98 #[.agg #[.string x0, .int .i64 x1, .int .i64 x2]] w fun e w' => e = .returned (.agg #[.string x0, .int .i64 x1, .int .i64 x2]) ∧ Below w.heap.size w w' := by
  have hu := Tryz.underlying81
  have hv := Tryz.underlying135
  go_enter Tryz.func98, Tryz.ntmps98
  go_wp2
  exact bodyPost_ret (v := .agg #[.string x0, .int .i64 x1, .int .i64 x2]) (by simp [results, Tryz.results98, go_sem]) rfl ⟨rfl, below_alloc (below_alloc (below_alloc (Below.refl _ _) _) _) _⟩
set_option maxHeartbeats 4000000 in
set_option maxRecDepth 100000 in
theorem toFailS1 (A0 : Option Addr) (c0 : Nat) (l : List S135) (w : World) (h0 : Kd.C k135 w A0 l.length l) (z : l.length ≤ 1048576) :
    Calls Tryz.prog 44 #[.slice A0 l.length c0] w fun e w' => ∃ B d, e = .returned (.slice B l.length d) ∧ Kd.R k81 81 w' w.heap.size (fun _ => True) (.slice B l.length d) (l.map cvFail) ∧ Below w.heap.size w w' := by
  have hu := Tryz.underlying81
  have H0 := Aside0.mk h0
  clear h0
  go_enter Tryz.func44, Tryz.ntmps44
  go_wp2_with ((with_reducible refine gate_dst (N := 7) rfl ?_); refine Kd.R_make k81 w.heap.size 81 rfl (N := 7) rfl 45 _ _ rfl (l.length : Int) rfl rfl Tryz.underlying45 _ 32 info81 rfl (by decide) (by decide) z81 (ok := fun _ => True) (okp := fun _ => True) (k81_mkM _ _ _ z81) (fun _ hk => hk) trivial (by omega) (by omega) (Below.refl _ _) (Nat.le_refl _) ?_; intro v w4 ho hb hg_ hn_; clear hg_ hn_; have HO := Aside0.mk ho; have HB := Aside0.mk hb; clear ho hb)
  obtain ⟨B, d, ev⟩ := Kd.R_slice HO.out
  rw [List.length_replicate] at ev
  simp only [Int.toNat_natCast] at ev
  subst ev
  go_loopg [4] l.length (fun gg v4 w' => ∃ i : Int, v4 = .int .i64 i ∧ 0 ≤ i ∧ i ≤ l.length ∧ l.length - i ≤ gg ∧ Aside0 (Kd.R k81 81 w' w.heap.size (fun _ => True) (.slice B l.length d) (fillL (l.map cvFail) z81 i)) ∧ Aside0 (Below w.heap.size w w'))
  case atStart => exact ⟨0, rfl, Int.le_refl _, by omega, by omega, ⟨by have := HO.out; simpa [fillL] using this⟩, HB⟩
  case round =>
    clear HO HB
    obtain ⟨i, rfl, hi0, hi, hgg, HO, HB⟩ := hrel
    have hlen : (fillL (l.map cvFail) z81 i).length = l.length := by rw [fillL_len _ _ _ (by rw [List.length_map]; exact hi), List.length_map]
    by_cases hlt : i < l.length
    · obtain ⟨ad, eA, hc⟩ := at_T135 (Kd.C_below H0.out HB.out) i hi0 hlt
      subst eA
      obtain ⟨g, cap, ev, hg1, hg2, hg3⟩ := Kd.R_form HO.out (by omega)
      rw [hlen] at ev
      injection ev with e1 _ e2
      subst e1 e2
      clear hlen hg1 hg2 hg3
      go_wp2_with (first
        | (go_at_call 98; refine (toFail1 (rd_T135 l i).f0 (rd_T135 l i).f1 (rd_T135 l i).f2 _).mono ?_; rintro e w2 ⟨rfl, hb⟩; have HO2 := Aside0.mk (Kd.R_below HO.out hb); have HB2 := Aside0.mk (below_step HB.out hb); clear hb)
        | ((with_reducible refine gate_store rfl ?_); refine R_storeW k81 w.heap.size rfl rfl 81 _ _ rfl 81 i _ (cvFail (rd_T135 l i)) _ rfl rfl rfl (by kernel_rfl) HO2.out hi0 hlt (k81_mkM _ _ _ (cvFail (rd_T135 l i))) HB2.out ?_; intro w3 ho hb hg_; have HO3 := Aside0.mk ho; have HB3 := Aside0.mk hb; clear ho hb hg_))
      go_roundg (l.length - (i + 1)).toNat
      case measure => omega
      case rel =>
        refine ⟨i + 1, rfl, by omega, by omega, by omega, ⟨?_⟩, HB3⟩
        rw [← fillL_set (l.map cvFail) z81 (cvFail (rd_T135 l i)) i hi0 (by rw [List.length_map]; exact hlt) (by rw [List.getElem?_map, rd_T135, List.getD_eq_getElem?_getD, List.getElem?_eq_getElem (show i.toNat < l.length by omega)]; rfl)]
        exact HO3.out
    · obtain rfl : i = l.length := by omega
      go_wp2
      go_ret
      refine ⟨B, d, rfl, ?_, HB.out⟩
      have h_ := HO.out
      rwa [show (l.length : Int) = ((l.map cvFail).length : Int) by rw [List.length_map], fillL_all] at h_
set_option maxHeartbeats 4000000 in
set_option maxRecDepth 100000 in
theorem toRecord1 (x0 : Int) (x1 : Int) (x2 : Int) (x3 : Int) (x4 : Bool) (w : World) :
    Calls Tryz.prog 99 #[.agg #[.int .i64 x0, .int .i64 x1, .int .i64 x2, .int .i64 x3, .bool x4]] w fun e w' => e = .returned (.agg #[.int .i64 x0, .int .i64 x1, .int .i64 x2, .int .i64 x3, .bool x4]) ∧ Below w.heap.size w w' := by
  have hu := Tryz.underlying83
  have hv := Tryz.underlying157
  go_enter Tryz.func99, Tryz.ntmps99
  go_wp2
  exact bodyPost_ret (v := .agg #[.int .i64 x0, .int .i64 x1, .int .i64 x2, .int .i64 x3, .bool x4]) (by simp [results, Tryz.results99, go_sem]) rfl ⟨rfl, below_alloc (below_alloc (below_alloc (Below.refl _ _) _) _) _⟩
set_option maxHeartbeats 4000000 in
set_option maxRecDepth 100000 in
theorem toRecordS1 (A0 : Option Addr) (c0 : Nat) (l : List S157) (w : World) (h0 : Kd.C k157 w A0 l.length l) (z : l.length ≤ 1048576) :
    Calls Tryz.prog 45 #[.slice A0 l.length c0] w fun e w' => ∃ B d, e = .returned (.slice B l.length d) ∧ Kd.R k83 83 w' w.heap.size (fun _ => True) (.slice B l.length d) (l.map cvRecord) ∧ Below w.heap.size w w' := by
  have hu := Tryz.underlying83
  have H0 := Aside0.mk h0
  clear h0
  go_enter Tryz.func45, Tryz.ntmps45
  go_wp2_with ((with_reducible refine gate_dst (N := 7) rfl ?_); refine Kd.R_make k83 w.heap.size 83 rfl (N := 7) rfl 46 _ _ rfl (l.length : Int) rfl rfl Tryz.underlying46 _ 40 info83 rfl (by decide) (by decide) z83 (ok := fun _ => True) (okp := fun _ => True) (k83_mkM _ _ _ z83) (fun _ hk => hk) trivial (by omega) (by omega) (Below.refl _ _) (Nat.le_refl _) ?_; intro v w4 ho hb hg_ hn_; clear hg_ hn_; have HO := Aside0.mk ho; have HB := Aside0.mk hb; clear ho hb)
  obtain ⟨B, d, ev⟩ := Kd.R_slice HO.out
  rw [List.length_replicate] at ev
  simp only [Int.toNat_natCast] at ev
  subst ev
  go_loopg [4] l.length (fun gg v4 w' => ∃ i : Int, v4 = .int .i64 i ∧ 0 ≤ i ∧ i ≤ l.length ∧ l.length - i ≤ gg ∧ Aside0 (Kd.R k83 83 w' w.heap.size (fun _ => True) (.slice B l.length d) (fillL (l.map cvRecord) z83 i)) ∧ Aside0 (Below w.heap.size w w'))
  case atStart => exact ⟨0, rfl, Int.le_refl _, by omega, by omega, ⟨by have := HO.out; simpa [fillL] using this⟩, HB⟩
  case round =>
    clear HO HB
    obtain ⟨i, rfl, hi0, hi, hgg, HO, HB⟩ := hrel
    have hlen : (fillL (l.map cvRecord) z83 i).length = l.length := by rw [fillL_len _ _ _ (by rw [List.length_map]; exact hi), List.length_map]
    by_cases hlt : i < l.length
    · obtain ⟨ad, eA, hc⟩ := at_T157 (Kd.C_below H0.out HB.out) i hi0 hlt
      subst eA
      obtain ⟨g, cap, ev, hg1, hg2, hg3⟩ := Kd.R_form HO.out (by omega)
      rw [hlen] at ev
      injection ev with e1 _ e2
      subst e1 e2
      clear hlen hg1 hg2 hg3
      go_wp2_with (first
        | (go_at_call 99; refine (toRecord1 (rd_T157 l i).f0 (rd_T157 l i).f1 (rd_T157 l i).f2 (rd_T157 l i).f3 (rd_T157 l i).f4 _).mono ?_; rintro e w2 ⟨rfl, hb⟩; have HO2 := Aside0.mk (Kd.R_below HO.out hb); have HB2 := Aside0.mk (below_step HB.out hb); clear hb)
        | ((with_reducible refine gate_store rfl ?_); refine R_storeW k83 w.heap.size rfl rfl 83 _ _ rfl 83 i _ (cvRecord (rd_T157 l i)) _ rfl rfl rfl (by kernel_rfl) HO2.out hi0 hlt (k83_mkM _ _ _ (cvRecord (rd_T157 l i))) HB2.out ?_; intro w3 ho hb hg_; have HO3 := Aside0.mk ho; have HB3 := Aside0.mk hb; clear ho hb hg_))
      go_roundg (l.length - (i + 1)).toNat
      case measure => omega
      case rel =>
        refine ⟨i + 1, rfl, by omega, by omega, by omega, ⟨?_⟩, HB3⟩
        rw [← fillL_set (l.map cvRecord) z83 (cvRecord (rd_T157 l i)) i hi0 (by rw [List.length_map]; exact hlt) (by rw [List.getElem?_map, rd_T157, List.getD_eq_getElem?_getD, List.getElem?_eq_getElem (show i.toNat < l.length by omega)]; rfl)]
        exact HO3.out
    · obtain rfl : i = l.length := by omega
      go_wp2
      go_ret
      refine ⟨B, d, rfl, ?_, HB.out⟩
      have h_ := HO.out
      rwa [show (l.length : Int) = ((l.map cvRecord).length : Int) by rw [List.length_map], fillL_all] at h_
set_option maxHeartbeats 4000000 in
set_option maxRecDepth 100000 in
theorem toGuests1 (A0 : Option Addr) (c0 : Nat) (x0 : List S131) (A1 : Option Addr) (c1 : Nat) (x1 : List S133) (A2 : Option Addr) (c2 : Nat) (x2 : List S135) (A3 : Option Addr) (c3 : Nat) (x3 : List S157) (x4 : Int) (w : World) (h0 : Kd.C k131 w A0 x0.length x0) (z0 : x0.length ≤ 1048576) (h1 : Kd.C k133 w A1 x1.length x1) (z1 : x1.length ≤ 1048576) (h2 : Kd.C k135 w A2 x2.length x2) (z2 : x2.length ≤ 1048576) (h3 : Kd.C k157 w A3 x3.length x3) (z3 : x3.length ≤ 1048576) :
    Calls Tryz.prog 11 #[.agg #[.slice A0 x0.length c0, .slice A1 x1.length c1, .slice A2 x2.length c2, .slice A3 x3.length c3, .int .i64 x4]] w fun e w' => ∃ B0 d0, ∃ B1 d1, ∃ B2 d2, ∃ B3 d3, e = .returned (.agg #[.slice B0 x0.length d0, .slice B1 x1.length d1, .slice B2 x2.length d2, .slice B3 x3.length d3, .int .i64 x4]) ∧ Kd.R k92 92 w' w.heap.size (fun _ => True) (.slice B0 x0.length d0) (x0.map cvUser) ∧ Kd.R k76 76 w' w.heap.size (fun _ => True) (.slice B1 x1.length d1) (x1.map cvSession) ∧ Kd.R k81 81 w' w.heap.size (fun _ => True) (.slice B2 x2.length d2) (x2.map cvFail) ∧ Kd.R k83 83 w' w.heap.size (fun _ => True) (.slice B3 x3.length d3) (x3.map cvRecord) ∧ Below w.heap.size w w' := by
  have hu := Tryz.underlying48
  have hv := Tryz.underlying33
  have HH0 := Aside0.mk h0
  clear h0
  have HH1 := Aside0.mk h1
  clear h1
  have HH2 := Aside0.mk h2
  clear h2
  have HH3 := Aside0.mk h3
  clear h3
  have HB := Aside0.mk (Below.refl w.heap.size w)
  go_enter Tryz.func11, Tryz.ntmps11
  go_wp2_with (first
    | (go_at_call 42; refine (toUserS1 A0 c0 x0 _ (Kd.C_below HH0.out (by repeat' (with_reducible first | exact HB.out | apply below_alloc | refine below_set ?_ (by omega)))) z0).mono ?_; rintro e w2 ⟨B0, d0, rfl, ho, hb⟩; have n_ := Aside0.mk (below_step (w := w) (by repeat' (with_reducible first | exact HB.out | apply below_alloc | refine below_set ?_ (by omega))) hb); clear HB; have HB := n_; clear n_; have n_ := Aside0.mk (blk_below (g := w.heap.size + 1) (o := .cells #[.slice none 0 0, .slice none 0 0, .slice none 0 0, .slice none 0 0, .int .i64 0] 48 (0, 0)) (by repeat' (with_reducible first | exact HR.out | exact box2 _ _ _ _ | refine blk_far ?_ (by dsimp only; omega) _)) hb); (try clear HR); have HR := n_; clear n_; have HO0 := Aside0.mk (Kd.R_lower (base' := w.heap.size + 3) ho (by first | (simp; done) | (simp; omega) | omega)); clear ho; obtain ⟨hc, hf⟩ := bcell hb; have hz : w.heap.size + 1 + 1 < w2.heap.size := (by have := hb.size; (try simp at this); omega); have hz0 : w.heap.size < w2.heap.size := (by omega); have hz1 : w.heap.size + 1 < w2.heap.size := (by omega); clear hb)
    | (go_at_call 43; refine (toSessionS1 A1 c1 x1 _ (Kd.C_below HH1.out (by repeat' (with_reducible first | exact HB.out | apply below_alloc | refine below_set ?_ (by omega)))) z1).mono ?_; rintro e w2 ⟨B1, d1, rfl, ho, hb⟩; have n_ := Aside0.mk (below_step (w := w) (by repeat' (with_reducible first | exact HB.out | apply below_alloc | refine below_set ?_ (by omega))) hb); clear HB; have HB := n_; clear n_; have n_ := Aside0.mk (blk_below (g := w.heap.size + 1) (o := .cells #[.slice none 0 0, .slice none 0 0, .slice none 0 0, .slice none 0 0, .int .i64 0] 48 (0, 0)) (by repeat' (with_reducible first | exact HR.out | exact box2 _ _ _ _ | refine blk_far ?_ (by dsimp only; omega) _)) hb); (try clear HR); have HR := n_; clear n_; have n_ := Aside0.mk (Kd.R_below (R_out HO0.out (fun k hk => by repeat (with_reducible refine (Below.heap_setCell _ _ _ _ (by dsimp only; omega)).trans ?_); rfl)) hb); clear HO0; have HO0 := n_; clear n_; have HO1 := Aside0.mk (Kd.R_lower (base' := w.heap.size + 3) ho (by first | (simp; done) | (simp; omega) | omega)); clear ho; obtain ⟨hc, hf⟩ := bcell hb; have hz : w.heap.size + 1 + 1 < w2.heap.size := (by have := hb.size; (try simp at this); omega); have hz0 : w.heap.size < w2.heap.size := (by omega); have hz1 : w.heap.size + 1 < w2.heap.size := (by omega); clear hb)
    | (go_at_call 44; refine (toFailS1 A2 c2 x2 _ (Kd.C_below HH2.out (by repeat' (with_reducible first | exact HB.out | apply below_alloc | refine below_set ?_ (by omega)))) z2).mono ?_; rintro e w2 ⟨B2, d2, rfl, ho, hb⟩; have n_ := Aside0.mk (below_step (w := w) (by repeat' (with_reducible first | exact HB.out | apply below_alloc | refine below_set ?_ (by omega))) hb); clear HB; have HB := n_; clear n_; have n_ := Aside0.mk (blk_below (g := w.heap.size + 1) (o := .cells #[.slice none 0 0, .slice none 0 0, .slice none 0 0, .slice none 0 0, .int .i64 0] 48 (0, 0)) (by repeat' (with_reducible first | exact HR.out | exact box2 _ _ _ _ | refine blk_far ?_ (by dsimp only; omega) _)) hb); (try clear HR); have HR := n_; clear n_; have n_ := Aside0.mk (Kd.R_below (R_out HO0.out (fun k hk => by repeat (with_reducible refine (Below.heap_setCell _ _ _ _ (by dsimp only; omega)).trans ?_); rfl)) hb); clear HO0; have HO0 := n_; clear n_; have n_ := Aside0.mk (Kd.R_below (R_out HO1.out (fun k hk => by repeat (with_reducible refine (Below.heap_setCell _ _ _ _ (by dsimp only; omega)).trans ?_); rfl)) hb); clear HO1; have HO1 := n_; clear n_; have HO2 := Aside0.mk (Kd.R_lower (base' := w.heap.size + 3) ho (by first | (simp; done) | (simp; omega) | omega)); clear ho; obtain ⟨hc, hf⟩ := bcell hb; have hz : w.heap.size + 1 + 1 < w2.heap.size := (by have := hb.size; (try simp at this); omega); have hz0 : w.heap.size < w2.heap.size := (by omega); have hz1 : w.heap.size + 1 < w2.heap.size := (by omega); clear hb)
    | (go_at_call 45; refine (toRecordS1 A3 c3 x3 _ (Kd.C_below HH3.out (by repeat' (with_reducible first | exact HB.out | apply below_alloc | refine below_set ?_ (by omega)))) z3).mono ?_; rintro e w2 ⟨B3, d3, rfl, ho, hb⟩; have n_ := Aside0.mk (below_step (w := w) (by repeat' (with_reducible first | exact HB.out | apply below_alloc | refine below_set ?_ (by omega))) hb); clear HB; have HB := n_; clear n_; have n_ := Aside0.mk (blk_below (g := w.heap.size + 1) (o := .cells #[.slice none 0 0, .slice none 0 0, .slice none 0 0, .slice none 0 0, .int .i64 0] 48 (0, 0)) (by repeat' (with_reducible first | exact HR.out | exact box2 _ _ _ _ | refine blk_far ?_ (by dsimp only; omega) _)) hb); (try clear HR); have HR := n_; clear n_; have n_ := Aside0.mk (Kd.R_below (R_out HO0.out (fun k hk => by repeat (with_reducible refine (Below.heap_setCell _ _ _ _ (by dsimp only; omega)).trans ?_); rfl)) hb); clear HO0; have HO0 := n_; clear n_; have n_ := Aside0.mk (Kd.R_below (R_out HO1.out (fun k hk => by repeat (with_reducible refine (Below.heap_setCell _ _ _ _ (by dsimp only; omega)).trans ?_); rfl)) hb); clear HO1; have HO1 := n_; clear n_; have n_ := Aside0.mk (Kd.R_below (R_out HO2.out (fun k hk => by repeat (with_reducible refine (Below.heap_setCell _ _ _ _ (by dsimp only; omega)).trans ?_); rfl)) hb); clear HO2; have HO2 := n_; clear n_; have HO3 := Aside0.mk (Kd.R_lower (base' := w.heap.size + 3) ho (by first | (simp; done) | (simp; omega) | omega)); clear ho; obtain ⟨hc, hf⟩ := bcell hb; have hz : w.heap.size + 1 + 1 < w2.heap.size := (by have := hb.size; (try simp at this); omega); have hz0 : w.heap.size < w2.heap.size := (by omega); have hz1 : w.heap.size + 1 < w2.heap.size := (by omega); clear hb))
  refine bodyPost_ret (v := .agg #[.slice B0 x0.length d0, .slice B1 x1.length d1, .slice B2 x2.length d2, .slice B3 x3.length d3, .int .i64 x4]) ?_ rfl ⟨B0, d0, B1, d1, B2, d2, B3, d3, rfl, ?_, ?_, ?_, ?_, ?_⟩
  · refine results_cell_row rfl _ _ (w.heap.size + 1) 48 #[.slice B0 x0.length d0, .slice B1 x1.length d1, .slice B2 x2.length d2, .slice B3 x3.length d3, .int .i64 x4] (0, 0) _ rfl ?_ hu rfl (by kernel_rfl)
    refine res5 (z0 := .slice none 0 0) (z1 := .slice none 0 0) (z2 := .slice none 0 0) (z3 := .slice none 0 0) (z4 := .int .i64 0) ?_
    repeat' (with_reducible first | exact HR.out | refine blk_far ?_ (by dsimp only; omega) _)
  · refine Kd.R_lower (base := w.heap.size + 3) ?_ (by omega)
    refine R_out HO0.out (fun k hk => ?_)
    repeat (with_reducible refine (Below.heap_setCell _ _ _ _ (by dsimp only; omega)).trans ?_)
    rfl
  · refine Kd.R_lower (base := w.heap.size + 3) ?_ (by omega)
    refine R_out HO1.out (fun k hk => ?_)
    repeat (with_reducible refine (Below.heap_setCell _ _ _ _ (by dsimp only; omega)).trans ?_)
    rfl
  · refine Kd.R_lower (base := w.heap.size + 3) ?_ (by omega)
    refine R_out HO2.out (fun k hk => ?_)
    repeat (with_reducible refine (Below.heap_setCell _ _ _ _ (by dsimp only; omega)).trans ?_)
    rfl
  · refine Kd.R_lower (base := w.heap.size + 3) ?_ (by omega)
    refine R_out HO3.out (fun k hk => ?_)
    repeat (with_reducible refine (Below.heap_setCell _ _ _ _ (by dsimp only; omega)).trans ?_)
    rfl
  · repeat' (with_reducible first | exact HB.out | refine below_set ?_ (by omega))
end
section
-- NEEDS laws.eqConfig laws.szConfig laws.toConfig
theorem sGuestsN (ip b gate : Int) (gm wm : ByteArray) (res : Int) (A6 : Option Addr) (c6 : Nat) (g : List S140) (A7 : Option Addr) (c7 : Nat) (l : List S145) (B0 B1 B2 B3 : Option Addr) (d0 d1 d2 d3 : Nat) (us : List S92) (ss : List S76) (fs : List S81) (rs : List S83) (nx : Int) (w : World) (q6 q7 q0 q1 q2 q3 : Nat) (e6 : g.length = q6) (e7 : l.length = q7) (e0 : us.length = q0) (e1 : ss.length = q1) (e2 : fs.length = q2) (e3 : rs.length = q3) (hg : Kd.C k140 w A6 g.length g) (hl : Kd.C k145 w A7 l.length l) (h0 : Kd.C k92 w B0 us.length us) (h1 : Kd.C k76 w B1 ss.length ss) (h2 : Kd.C k81 w B2 fs.length fs) (h3 : Kd.C k83 w B3 rs.length rs) (zg : g.length ≤ 1152921504606846976) (zl : l.length ≤ 1152921504606846976) (zr : ∀ x ∈ l, x.f1.length ≤ 1152921504606846976 ∧ x.f0.size ≤ 1152921504606846976) (zm : gm.size ≤ 1152921504606846976) (zw : wm.size ≤ 1152921504606846976) (y0 : us.length ≤ 1152921504606846976) (y1 : ss.length ≤ 1152921504606846976) (y2 : fs.length ≤ 1152921504606846976) (y3 : rs.length ≤ 1152921504606846976) (zu : ∀ u ∈ us, u.f0.size ≤ 1152921504606846976 ∧ u.f1.size ≤ 1152921504606846976 ∧ u.f2.size ≤ 1152921504606846976) (zs : ∀ s ∈ ss, s.f2.size ≤ 1152921504606846976) (zf : ∀ f ∈ fs, f.f0.size ≤ 1152921504606846976) :
    Calls Tryz.prog 9 #[.agg #[.int .i64 ip, .int .i64 b, .int .i64 gate, .string gm, .string wm, .int .i64 res, .slice A6 q6 c6, .slice A7 q7 c7], .agg #[.slice B0 q0 d0, .slice B1 q1 d1, .slice B2 q2 d2, .slice B3 q3 d3, .int .i64 nx]] w (IsB (GuestsP ip b gate gm wm res g l us ss fs rs nx) w) := by
  subst e6 e7 e0 e1 e2 e3
  exact sGuests1 ip b gate gm wm res A6 c6 g A7 c7 l B0 B1 B2 B3 d0 d1 d2 d3 us ss fs rs nx w hg hl h0 h1 h2 h3 zg zl zr zm zw y0 y1 y2 y3 zu zs zf
theorem iGuestsN (ip b gate : Int) (gm wm : ByteArray) (res : Int) (A6 : Option Addr) (c6 : Nat) (g : List S140) (A7 : Option Addr) (c7 : Nat) (l : List S145) (B0 B1 B2 B3 : Option Addr) (d0 d1 d2 d3 : Nat) (us : List S92) (ss : List S76) (fs : List S81) (rs : List S83) (nx : Int) (w : World) (q6 q7 q0 q1 q2 q3 : Nat) (e6 : g.length = q6) (e7 : l.length = q7) (e0 : us.length = q0) (e1 : ss.length = q1) (e2 : fs.length = q2) (e3 : rs.length = q3) (hg : Kd.C k140 w A6 g.length g) (hl : Kd.C k145 w A7 l.length l) (h0 : Kd.C k92 w B0 us.length us) (h1 : Kd.C k76 w B1 ss.length ss) (h2 : Kd.C k81 w B2 fs.length fs) (h3 : Kd.C k83 w B3 rs.length rs) (zg : g.length ≤ 1152921504606846976) (zl : l.length ≤ 1152921504606846976) (zr : ∀ x ∈ l, x.f1.length ≤ 1152921504606846976 ∧ x.f0.size ≤ 1152921504606846976) (zm : gm.size ≤ 1152921504606846976) (zw : wm.size ≤ 1152921504606846976) (y0 : us.length ≤ 1152921504606846976) (y1 : ss.length ≤ 1152921504606846976) (y2 : fs.length ≤ 1152921504606846976) (y3 : rs.length ≤ 1152921504606846976) (ew : ss.length ≤ d1) (zu : ∀ u ∈ us, u.f0.size ≤ 1152921504606846976 ∧ u.f1.size ≤ 1152921504606846976 ∧ u.f2.size ≤ 1152921504606846976) (zs : ∀ s ∈ ss, s.f2.size ≤ 1152921504606846976) (zf : ∀ f ∈ fs, f.f0.size ≤ 1152921504606846976) :
    Calls Tryz.prog 12 #[.agg #[.int .i64 ip, .int .i64 b, .int .i64 gate, .string gm, .string wm, .int .i64 res, .slice A6 q6 c6, .slice A7 q7 c7], .agg #[.slice B0 q0 d0, .slice B1 q1 d1, .slice B2 q2 d2, .slice B3 q3 d3, .int .i64 nx]] w (IsB (GuestsP ip b gate gm wm res g l us ss fs rs nx) w) := by
  subst e6 e7 e0 e1 e2 e3
  exact iGuests1 ip b gate gm wm res A6 c6 g A7 c7 l B0 B1 B2 B3 d0 d1 d2 d3 us ss fs rs nx w hg hl h0 h1 h2 h3 zg zl zr zm zw y0 y1 y2 y3 ew zu zs zf
theorem eqConfigN (ip b gate : Int) (gm wm : ByteArray) (res : Int) (A6 V6 : Option Addr) (c6 v6 : Nat) (g : List S140) (A7 V7 : Option Addr) (c7 v7 : Nat) (l : List S145) (w : World) (q6 q7 : Nat) (e6 : g.length = q6) (e7 : l.length = q7) (h6 : Kd.C k140 w A6 g.length g) (g6 : Kd.C k140 w V6 g.length g) (z6 : g.length ≤ 1152921504606846976) (h7 : Kd.C k145 w A7 l.length l) (g7 : Kd.C k145 w V7 l.length l) (z7 : l.length ≤ 1152921504606846976) (y7 : ∀ r ∈ l, r.f1.length ≤ 1152921504606846976) :
    Calls Tryz.prog 13 #[.agg #[.int .i64 ip, .int .i64 b, .int .i64 gate, .string gm, .string wm, .int .i64 res, .slice A6 q6 c6, .slice A7 q7 c7], .agg #[.int .i64 ip, .int .i64 b, .int .i64 gate, .string gm, .string wm, .int .i64 res, .slice V6 q6 v6, .slice V7 q7 v7]] w fun e w' => e = .returned (.bool true) ∧ Below w.heap.size w w' := by
  subst e6 e7
  exact eqConfig1 ip b gate gm wm res A6 V6 c6 v6 g A7 V7 c7 v7 l w h6 g6 z6 h7 g7 z7 y7
theorem eqGuestsN (B0 B1 B2 B3 V0 V1 V2 V3 : Option Addr) (d0 d1 d2 d3 v0 v1 v2 v3 : Nat) (us : List S92) (ss : List S76) (fs : List S81) (rs : List S83) (nx : Int) (w : World) (q0 q1 q2 q3 : Nat) (e0 : us.length = q0) (e1 : ss.length = q1) (e2 : fs.length = q2) (e3 : rs.length = q3) (h0 : Kd.C k92 w B0 us.length us) (g0 : Kd.C k92 w V0 us.length us) (z0 : us.length ≤ 1152921504606846976) (h1 : Kd.C k76 w B1 ss.length ss) (g1 : Kd.C k76 w V1 ss.length ss) (z1 : ss.length ≤ 1152921504606846976) (h2 : Kd.C k81 w B2 fs.length fs) (g2 : Kd.C k81 w V2 fs.length fs) (z2 : fs.length ≤ 1152921504606846976) (h3 : Kd.C k83 w B3 rs.length rs) (g3 : Kd.C k83 w V3 rs.length rs) (z3 : rs.length ≤ 1152921504606846976) :
    Calls Tryz.prog 14 #[.agg #[.slice B0 q0 d0, .slice B1 q1 d1, .slice B2 q2 d2, .slice B3 q3 d3, .int .i64 nx], .agg #[.slice V0 q0 v0, .slice V1 q1 v1, .slice V2 q2 v2, .slice V3 q3 v3, .int .i64 nx]] w fun e w' => e = .returned (.bool true) ∧ Below w.heap.size w w' := by
  subst e0 e1 e2 e3
  exact eqGuests1 B0 V0 d0 v0 us B1 V1 d1 v1 ss B2 V2 d2 v2 fs B3 V3 d3 v3 rs nx w h0 g0 z0 h1 g1 z1 h2 g2 z2 h3 g3 z3
theorem R_toC {β : Type} {d : Kd β} {e base n c : Nat} {ok : Nat → Prop} {w : World} {A : Option Addr} {xs : List β} (h : d.R e w base ok (.slice A n c) xs) : n ≤ c ∧ d.C w A xs.length xs := by
  obtain ⟨A2, c2, e2, h2, h3⟩ := Kd.R_reads h
  simp only [Value.slice.injEq] at e2
  obtain ⟨rfl, rfl, rfl⟩ := e2
  exact ⟨h2, h3⟩
theorem IsB.as {P : Prop} {w w' : World} {e : Ending} (h : IsB P w e w') {v : Bool} (hv : v = true ↔ P) : e = .returned (.bool v) ∧ Below w.heap.size w w' := by
  cases v
  · exact h.no (fun hp => absurd (hv.2 hp) (by decide))
  · exact h.yes (hv.1 rfl)
theorem bool_of (P : Prop) : ∃ v : Bool, v = true ↔ P := by
  rcases Classical.em P with h | h
  · exact ⟨true, fun _ => h, fun _ => rfl⟩
  · exact ⟨false, fun h2 => absurd h2 (by decide), fun h2 => absurd h2 h⟩
def LawG (gm wm : ByteArray) (g : List S151) (l : List S129) (us : List S131) (ss : List S133) (fs : List S135) (rs : List S157) : Prop := gm.size ≤ 140737488351232 ∧ wm.size ≤ 140737488351232 ∧ g.length ≤ 140737488351232 ∧ l.length ≤ 140737488351232 ∧ (∀ y ∈ l, y.f0.size ≤ 140737488351232 ∧ y.f1.length ≤ 140737488351232) ∧ us.length ≤ 140737488351232 ∧ (∀ y ∈ us, y.f0.size ≤ 140737488351232 ∧ y.f1.size ≤ 140737488351232 ∧ y.f2.size ≤ 140737488351232 ∧ y.f3.size ≤ 140737488351232) ∧ ss.length ≤ 140737488351232 ∧ (∀ y ∈ ss, y.f2.size ≤ 140737488351232) ∧ fs.length ≤ 140737488351232 ∧ (∀ y ∈ fs, y.f0.size ≤ 140737488351232) ∧ rs.length ≤ 140737488351232
theorem zmap {α β : Type} {f : α → β} {l : List α} {P : β → Prop} (h : ∀ x ∈ l, P (f x)) : ∀ y ∈ l.map f, P y := by
  intro y hy
  obtain ⟨x, hx, rfl⟩ := List.mem_map.1 hy
  exact h x hx
set_option maxHeartbeats 8000000 in
set_option maxRecDepth 100000 in
theorem lawG1 (ip b gate : Int) (gm wm : ByteArray) (res : Int) (A6 : Option Addr) (c6 : Nat) (g : List S151) (A7 : Option Addr) (c7 : Nat) (l : List S129) (B0 B1 B2 B3 : Option Addr) (d0 d1 d2 d3 : Nat) (us : List S131) (ss : List S133) (fs : List S135) (rs : List S157) (nx : Int) (w : World) (hg : Kd.C k151 w A6 g.length g) (hl : Kd.C k129 w A7 l.length l) (h0 : Kd.C k131 w B0 us.length us) (h1 : Kd.C k133 w B1 ss.length ss) (h2 : Kd.C k135 w B2 fs.length fs) (h3 : Kd.C k157 w B3 rs.length rs) (hz : LawG gm wm g l us ss fs rs) :
    Calls Tryz.prog 3 #[.agg #[.int .i64 ip, .int .i64 b, .int .i64 gate, .string gm, .string wm, .int .i64 res, .slice A6 g.length c6, .slice A7 l.length c7], .agg #[.slice B0 us.length d0, .slice B1 ss.length d1, .slice B2 fs.length d2, .slice B3 rs.length d3, .int .i64 nx]] w fun e w' => e = .returned (.bool true) ∧ Below w.heap.size w w' := by
  have hu := Tryz.underlying27
  have hu2 := Tryz.underlying33
  have hu3 := Tryz.underlying41
  have hu4 := Tryz.underlying48
  have H0 := Aside0.mk (And.intro hg (And.intro hl (And.intro h0 (And.intro h1 (And.intro h2 h3)))))
  have HZ := Aside0.mk hz
  clear hg hl h0 h1 h2 h3 hz
  have HB := Aside0.mk (Below.refl w.heap.size w)
  go_enter Tryz.func3, Tryz.ntmps3
  go_wp2_with (first
    | (go_at_call 7; go_loud (refine (szConfig1 ip b gate gm wm res A6 c6 g A7 c7 l _ _ (by omega) (by omega) HZ.out.1 HZ.out.2.1 HZ.out.2.2.1 HZ.out.2.2.2.1 (Kd.C_below H0.out.2.1 (by repeat' (with_reducible first | exact HB.out | apply below_alloc | apply below_drew1 | refine below_set ?_ (by omega)))) HZ.out.2.2.2.2.1).mono ?_; rintro e w2 ⟨t1, rfl, ht1, hp, hb⟩; have n_ := Aside0.mk (below_step (w := w) (by repeat' (with_reducible first | exact HB.out | apply below_alloc | apply below_drew1 | refine below_set ?_ (by omega))) hb); clear HB; have HB := n_; clear n_; have n_ := Aside0.mk (blk_below (g := w.heap.size) (o := .cells #[.int .i64 ip, .int .i64 b, .int .i64 gate, .string gm, .string wm, .int .i64 res, .slice A6 g.length c6, .slice A7 l.length c7] 27 (0, 0)) (by repeat' (with_reducible first | exact HX.out | exact blk_new _ _ | exact blk_new1 _ _ _ | exact blk_alloc (blk_new _ _) _ | refine blk_alloc ?_ _ | refine blk_drew ?_)) hb); (try clear HX); have HX := n_; clear n_; have n_ := Aside0.mk (blk_below (g := (w.heap.size + 1)) (o := .cells #[.slice B0 us.length d0, .slice B1 ss.length d1, .slice B2 fs.length d2, .slice B3 rs.length d3, .int .i64 nx] 33 (0, 0)) (by repeat' (with_reducible first | exact HG.out | exact blk_new _ _ | exact blk_new1 _ _ _ | exact blk_alloc (blk_new _ _) _ | refine blk_alloc ?_ _ | refine blk_drew ?_)) hb); (try clear HG); have HG := n_; clear n_; (try clear cxHX hzHX); (try clear cxHG hzHG); (try clear cxHA hzHA); (try clear cxHE hzHE); have cxHX := blk_cell HX.out; have hzHX := blk_lt HX.out; have cxHG := blk_cell HG.out; have hzHG := blk_lt HG.out; have HP1 := Aside0.mk hp; clear hp; clear hb))
    | (go_at_call 8; go_loud (refine (szGuests1 B0 d0 us B1 d1 ss B2 d2 fs B3 d3 rs nx _ _ (by omega) (by omega) HZ.out.2.2.2.2.2.1 (Kd.C_below H0.out.2.2.1 (by repeat' (with_reducible first | exact HB.out | apply below_alloc | apply below_drew1 | refine below_set ?_ (by omega)))) HZ.out.2.2.2.2.2.2.1 HZ.out.2.2.2.2.2.2.2.1 (Kd.C_below H0.out.2.2.2.1 (by repeat' (with_reducible first | exact HB.out | apply below_alloc | apply below_drew1 | refine below_set ?_ (by omega)))) HZ.out.2.2.2.2.2.2.2.2.1 HZ.out.2.2.2.2.2.2.2.2.2.1 (Kd.C_below H0.out.2.2.2.2.1 (by repeat' (with_reducible first | exact HB.out | apply below_alloc | apply below_drew1 | refine below_set ?_ (by omega)))) HZ.out.2.2.2.2.2.2.2.2.2.2.1 HZ.out.2.2.2.2.2.2.2.2.2.2.2).mono ?_; rintro e w2 ⟨t2, rfl, ht2, hp, hb⟩; have n_ := Aside0.mk (below_step (w := w) (by repeat' (with_reducible first | exact HB.out | apply below_alloc | apply below_drew1 | refine below_set ?_ (by omega))) hb); clear HB; have HB := n_; clear n_; have n_ := Aside0.mk (blk_below (g := w.heap.size) (o := .cells #[.int .i64 ip, .int .i64 b, .int .i64 gate, .string gm, .string wm, .int .i64 res, .slice A6 g.length c6, .slice A7 l.length c7] 27 (0, 0)) (by repeat' (with_reducible first | exact HX.out | exact blk_new _ _ | exact blk_new1 _ _ _ | exact blk_alloc (blk_new _ _) _ | refine blk_alloc ?_ _ | refine blk_drew ?_)) hb); (try clear HX); have HX := n_; clear n_; have n_ := Aside0.mk (blk_below (g := (w.heap.size + 1)) (o := .cells #[.slice B0 us.length d0, .slice B1 ss.length d1, .slice B2 fs.length d2, .slice B3 rs.length d3, .int .i64 nx] 33 (0, 0)) (by repeat' (with_reducible first | exact HG.out | exact blk_new _ _ | exact blk_new1 _ _ _ | exact blk_alloc (blk_new _ _) _ | refine blk_alloc ?_ _ | refine blk_drew ?_)) hb); (try clear HG); have HG := n_; clear n_; (try clear cxHX hzHX); (try clear cxHG hzHG); (try clear cxHA hzHA); (try clear cxHE hzHE); have cxHX := blk_cell HX.out; have hzHX := blk_lt HX.out; have cxHG := blk_cell HG.out; have hzHG := blk_lt HG.out; have HP2 := Aside0.mk hp; clear hp; clear hb)))
  all_goals try (go_ret; exact ⟨rfl, HB.out⟩; done)
  have HS := Aside0.mk (And.intro (HP1.out (by omega)) (HP2.out (by omega)))
  clear HP1 HP2
  (try clear cxHX hzHX); (try clear cxHG hzHG)
  obtain ⟨v, hv⟩ := bool_of (GuestsP ip b gate gm wm res (g.map cvPlace) (l.map cvRole) (us.map cvUser) (ss.map cvSession) (fs.map cvFail) (rs.map cvRecord) nx)
  have HV := Aside0.mk hv
  clear hv
  refine qS (fun w' => w'.cell? ⟨w.heap.size, 0, none⟩ = some (.int .i64 ip) ∧ w'.cell? ⟨w.heap.size, 1, none⟩ = some (.int .i64 b) ∧ w'.cell? ⟨w.heap.size, 2, none⟩ = some (.int .i64 gate) ∧ w'.cell? ⟨w.heap.size, 3, none⟩ = some (.string gm) ∧ w'.cell? ⟨w.heap.size, 4, none⟩ = some (.string wm) ∧ w'.cell? ⟨w.heap.size, 5, none⟩ = some (.int .i64 res) ∧ w'.cell? ⟨w.heap.size, 6, none⟩ = some (.slice A6 g.length c6) ∧ w'.cell? ⟨w.heap.size, 7, none⟩ = some (.slice A7 l.length c7) ∧ w'.cell? ⟨w.heap.size + 1, 0, none⟩ = some (.slice B0 us.length d0) ∧ w'.cell? ⟨w.heap.size + 1, 1, none⟩ = some (.slice B1 ss.length d1) ∧ w'.cell? ⟨w.heap.size + 1, 2, none⟩ = some (.slice B2 fs.length d2) ∧ w'.cell? ⟨w.heap.size + 1, 3, none⟩ = some (.slice B3 rs.length d3) ∧ w'.cell? ⟨w.heap.size + 1, 4, none⟩ = some (.int .i64 nx)) 6 ⟨blk_cell HX.out 0, blk_cell HX.out 1, blk_cell HX.out 2, blk_cell HX.out 3, blk_cell HX.out 4, blk_cell HX.out 5, blk_cell HX.out 6, blk_cell HX.out 7, blk_cell HG.out 0, blk_cell HG.out 1, blk_cell HG.out 2, blk_cell HG.out 3, blk_cell HG.out 4⟩ (fun hs => ?_)
  have n_ := Aside0.mk (below_drew1 HB.out)
  clear HB
  have HB := n_
  clear n_
  have n_ := Aside0.mk (blk_drew HX.out)
  clear HX
  have HX := n_
  clear n_
  have n_ := Aside0.mk (blk_drew HG.out)
  clear HG
  have HG := n_
  clear n_
  refine qT 0 20 hs ?_
  refine qT 2 22 hs ?_
  refine q1 1 21 (fun K hK => ?_)
  refine qC Tryz.func10 _ ?_
  refine (toConfig1 ip b gate gm wm res A6 c6 g A7 c7 l _ (Kd.C_below H0.out.1 HB.out) HS.out.1.1 (Kd.C_below H0.out.2.1 HB.out) HS.out.1.2.1 (fun r hr => (HS.out.1.2.2 r hr).2)).mono ?_
  intro e w2 h2
  obtain ⟨P6, p6, P7, p7, rfl, o6, o7, hb⟩ := h2
  (obtain ⟨m_, o_⟩ := R_toC o6); have HC6 := Aside0.mk o_; have MHC6 := m_; clear o_ m_ o6
  (obtain ⟨m_, o_⟩ := R_toC o7); have HC7 := Aside0.mk o_; have MHC7 := m_; clear o_ m_ o7
  have n_ := Aside0.mk (below_step HB.out hb)
  clear HB
  have HB := n_
  clear n_
  have n_ := Aside0.mk (blk_below HX.out hb)
  clear HX
  have HX := n_
  clear n_
  have n_ := Aside0.mk (blk_below HG.out hb)
  clear HG
  have HG := n_
  clear n_
  refine ⟨_, rfl, hK.out _ _ ⟨pw_cell_below hb hs.1, pw_cell_below hb hs.2.1, pw_cell_below hb hs.2.2.1, pw_cell_below hb hs.2.2.2.1, pw_cell_below hb hs.2.2.2.2.1, pw_cell_below hb hs.2.2.2.2.2.1, pw_cell_below hb hs.2.2.2.2.2.2.1, pw_cell_below hb hs.2.2.2.2.2.2.2.1, pw_cell_below hb hs.2.2.2.2.2.2.2.2.1, pw_cell_below hb hs.2.2.2.2.2.2.2.2.2.1, pw_cell_below hb hs.2.2.2.2.2.2.2.2.2.2.1, pw_cell_below hb hs.2.2.2.2.2.2.2.2.2.2.2.1, pw_cell_below hb hs.2.2.2.2.2.2.2.2.2.2.2.2⟩ (fun hs2 => ?_)⟩
  clear hK K hs hb
  have hs := hs2
  clear hs2
  refine qN ?_
  refine q1 3 23 (fun K hK => ?_)
  refine qC Tryz.func11 _ ?_
  refine (toGuests1 B0 d0 us B1 d1 ss B2 d2 fs B3 d3 rs nx _ (Kd.C_below H0.out.2.2.1 HB.out) HS.out.2.1 (Kd.C_below H0.out.2.2.2.1 HB.out) HS.out.2.2.1 (Kd.C_below H0.out.2.2.2.2.1 HB.out) HS.out.2.2.2.1 (Kd.C_below H0.out.2.2.2.2.2 HB.out) HS.out.2.2.2.2).mono ?_
  intro e w2 h2
  obtain ⟨P0, p0, P1, p1, P2, p2, P3, p3, rfl, o0, o1, o2, o3, hb⟩ := h2
  (obtain ⟨m_, o_⟩ := R_toC o0); have HC0 := Aside0.mk o_; have MHC0 := m_; clear o_ m_ o0
  (obtain ⟨m_, o_⟩ := R_toC o1); have HC1 := Aside0.mk o_; have MHC1 := m_; clear o_ m_ o1
  (obtain ⟨m_, o_⟩ := R_toC o2); have HC2 := Aside0.mk o_; have MHC2 := m_; clear o_ m_ o2
  (obtain ⟨m_, o_⟩ := R_toC o3); have HC3 := Aside0.mk o_; have MHC3 := m_; clear o_ m_ o3
  have n_ := Aside0.mk (Kd.C_below HC6.out hb)
  clear HC6
  have HC6 := n_
  clear n_
  have n_ := Aside0.mk (Kd.C_below HC7.out hb)
  clear HC7
  have HC7 := n_
  clear n_
  have n_ := Aside0.mk (below_step HB.out hb)
  clear HB
  have HB := n_
  clear n_
  have n_ := Aside0.mk (blk_below HX.out hb)
  clear HX
  have HX := n_
  clear n_
  have n_ := Aside0.mk (blk_below HG.out hb)
  clear HG
  have HG := n_
  clear n_
  refine ⟨_, rfl, hK.out _ _ ⟨pw_cell_below hb hs.1, pw_cell_below hb hs.2.1, pw_cell_below hb hs.2.2.1, pw_cell_below hb hs.2.2.2.1, pw_cell_below hb hs.2.2.2.2.1, pw_cell_below hb hs.2.2.2.2.2.1, pw_cell_below hb hs.2.2.2.2.2.2.1, pw_cell_below hb hs.2.2.2.2.2.2.2.1, pw_cell_below hb hs.2.2.2.2.2.2.2.2.1, pw_cell_below hb hs.2.2.2.2.2.2.2.2.2.1, pw_cell_below hb hs.2.2.2.2.2.2.2.2.2.2.1, pw_cell_below hb hs.2.2.2.2.2.2.2.2.2.2.2.1, pw_cell_below hb hs.2.2.2.2.2.2.2.2.2.2.2.2⟩ (fun hs2 => ?_)⟩
  clear hK K hs hb
  have hs := hs2
  clear hs2
  refine qN ?_
  refine q1 4 24 (fun K hK => ?_)
  refine qC Tryz.func9 _ ?_
  refine (sGuestsN ip b gate gm wm res P6 p6 (g.map cvPlace) P7 p7 (l.map cvRole) P0 P1 P2 P3 p0 p1 p2 p3 (us.map cvUser) (ss.map cvSession) (fs.map cvFail) (rs.map cvRecord) nx _ _ _ _ _ _ _ (List.length_map _) (List.length_map _) (List.length_map _) (List.length_map _) (List.length_map _) (List.length_map _) HC6.out HC7.out HC0.out HC1.out HC2.out HC3.out (by rw [List.length_map]; exact Nat.le_trans HZ.out.2.2.1 (by decide)) (by rw [List.length_map]; exact Nat.le_trans HZ.out.2.2.2.1 (by decide)) (zmap fun x hx => ⟨by have := (HS.out.1.2.2 x hx).2; simp only [cvRole, List.length_map]; omega, by have := (HS.out.1.2.2 x hx).1; simp only [cvRole]; omega⟩) (Nat.le_trans HZ.out.1 (by decide)) (Nat.le_trans HZ.out.2.1 (by decide)) (by rw [List.length_map]; have := HS.out.2.1; omega) (by rw [List.length_map]; have := HS.out.2.2.1; omega) (by rw [List.length_map]; have := HS.out.2.2.2.1; omega) (by rw [List.length_map]; have := HS.out.2.2.2.2; omega) (zmap fun x hx => by have q := HZ.out.2.2.2.2.2.2.1 x hx; simp only [cvUser]; omega) (zmap fun x hx => by have q := HZ.out.2.2.2.2.2.2.2.2.1 x hx; simp only [cvSession]; omega) (zmap fun x hx => by have q := HZ.out.2.2.2.2.2.2.2.2.2.2.1 x hx; simp only [cvFail]; omega)).mono ?_
  intro e w2 h2
  obtain ⟨rfl, hb⟩ := h2.as HV.out
  have n_ := Aside0.mk (below_step HB.out hb)
  clear HB
  have HB := n_
  clear n_
  have n_ := Aside0.mk (blk_below HX.out hb)
  clear HX
  have HX := n_
  clear n_
  have n_ := Aside0.mk (blk_below HG.out hb)
  clear HG
  have HG := n_
  clear n_
  refine ⟨_, rfl, hK.out _ _ ⟨pw_cell_below hb hs.1, pw_cell_below hb hs.2.1, pw_cell_below hb hs.2.2.1, pw_cell_below hb hs.2.2.2.1, pw_cell_below hb hs.2.2.2.2.1, pw_cell_below hb hs.2.2.2.2.2.1, pw_cell_below hb hs.2.2.2.2.2.2.1, pw_cell_below hb hs.2.2.2.2.2.2.2.1, pw_cell_below hb hs.2.2.2.2.2.2.2.2.1, pw_cell_below hb hs.2.2.2.2.2.2.2.2.2.1, pw_cell_below hb hs.2.2.2.2.2.2.2.2.2.2.1, pw_cell_below hb hs.2.2.2.2.2.2.2.2.2.2.2.1, pw_cell_below hb hs.2.2.2.2.2.2.2.2.2.2.2.2⟩ (fun hs2 => ?_)⟩
  clear hK K hs hb
  have hs := hs2
  clear hs2
  refine qN ?_
  refine qP 5 6 ?_
  refine qD ?_
  clear hs
  clear HC6 HC7 HC0 HC1 HC2 HC3 MHC6 MHC7 MHC0 MHC1 MHC2 MHC3
  have cxHX := blk_cell HX.out
  have hzHX := blk_lt HX.out
  have cxHG := blk_cell HG.out
  have hzHG := blk_lt HG.out
  go_wp2_with (first
    | (go_at_call 10; go_loud (refine (toConfig1 ip b gate gm wm res A6 c6 g A7 c7 l _ (Kd.C_below H0.out.1 (by repeat' (with_reducible first | exact HB.out | apply below_alloc | apply below_drew1 | refine below_set ?_ (by omega)))) HS.out.1.1 (Kd.C_below H0.out.2.1 (by repeat' (with_reducible first | exact HB.out | apply below_alloc | apply below_drew1 | refine below_set ?_ (by omega)))) HS.out.1.2.1 (fun r hr => (HS.out.1.2.2 r hr).2)).mono ?_; rintro e wA ⟨X6, x6, X7, x7, rfl, o6, o7, hb⟩; have n_ := Aside0.mk (below_step (w := w) (by repeat' (with_reducible first | exact HB.out | apply below_alloc | apply below_drew1 | refine below_set ?_ (by omega))) hb); clear HB; have HB := n_; clear n_; have n_ := Aside0.mk (blk_below (g := w.heap.size) (o := .cells #[.int .i64 ip, .int .i64 b, .int .i64 gate, .string gm, .string wm, .int .i64 res, .slice A6 g.length c6, .slice A7 l.length c7] 27 (0, 0)) (by repeat' (with_reducible first | exact HX.out | exact blk_new _ _ | exact blk_new1 _ _ _ | exact blk_alloc (blk_new _ _) _ | refine blk_alloc ?_ _ | refine blk_drew ?_)) hb); (try clear HX); have HX := n_; clear n_; have n_ := Aside0.mk (blk_below (g := (w.heap.size + 1)) (o := .cells #[.slice B0 us.length d0, .slice B1 ss.length d1, .slice B2 fs.length d2, .slice B3 rs.length d3, .int .i64 nx] 33 (0, 0)) (by repeat' (with_reducible first | exact HG.out | exact blk_new _ _ | exact blk_new1 _ _ _ | exact blk_alloc (blk_new _ _) _ | refine blk_alloc ?_ _ | refine blk_drew ?_)) hb); (try clear HG); have HG := n_; clear n_; (try clear cxHX hzHX); (try clear cxHG hzHG); (try clear cxHA hzHA); (try clear cxHE hzHE); have cxHX := blk_cell HX.out; have hzHX := blk_lt HX.out; have cxHG := blk_cell HG.out; have hzHG := blk_lt HG.out; (obtain ⟨m_, o_⟩ := R_toC o6); have HC6 := Aside0.mk o_; have MHC6 := m_; clear o_ m_ o6; (obtain ⟨m_, o_⟩ := R_toC o7); have HC7 := Aside0.mk o_; have MHC7 := m_; clear o_ m_ o7; clear hb))
    | (go_at_call 11; go_loud (refine (toGuests1 B0 d0 us B1 d1 ss B2 d2 fs B3 d3 rs nx _ (Kd.C_below H0.out.2.2.1 (by repeat' (with_reducible first | exact HB.out | apply below_alloc | apply below_drew1 | refine below_set ?_ (by omega)))) HS.out.2.1 (Kd.C_below H0.out.2.2.2.1 (by repeat' (with_reducible first | exact HB.out | apply below_alloc | apply below_drew1 | refine below_set ?_ (by omega)))) HS.out.2.2.1 (Kd.C_below H0.out.2.2.2.2.1 (by repeat' (with_reducible first | exact HB.out | apply below_alloc | apply below_drew1 | refine below_set ?_ (by omega)))) HS.out.2.2.2.1 (Kd.C_below H0.out.2.2.2.2.2 (by repeat' (with_reducible first | exact HB.out | apply below_alloc | apply below_drew1 | refine below_set ?_ (by omega)))) HS.out.2.2.2.2).mono ?_; rintro e wE ⟨X0, x0, X1, x1, X2, x2, X3, x3, rfl, o0, o1, o2, o3, hb⟩; have n_ := Aside0.mk (below_step (w := w) (by repeat' (with_reducible first | exact HB.out | apply below_alloc | apply below_drew1 | refine below_set ?_ (by omega))) hb); clear HB; have HB := n_; clear n_; have n_ := Aside0.mk (blk_below (g := w.heap.size) (o := .cells #[.int .i64 ip, .int .i64 b, .int .i64 gate, .string gm, .string wm, .int .i64 res, .slice A6 g.length c6, .slice A7 l.length c7] 27 (0, 0)) (by repeat' (with_reducible first | exact HX.out | exact blk_new _ _ | exact blk_new1 _ _ _ | exact blk_alloc (blk_new _ _) _ | refine blk_alloc ?_ _ | refine blk_drew ?_)) hb); (try clear HX); have HX := n_; clear n_; have n_ := Aside0.mk (blk_below (g := (w.heap.size + 1)) (o := .cells #[.slice B0 us.length d0, .slice B1 ss.length d1, .slice B2 fs.length d2, .slice B3 rs.length d3, .int .i64 nx] 33 (0, 0)) (by repeat' (with_reducible first | exact HG.out | exact blk_new _ _ | exact blk_new1 _ _ _ | exact blk_alloc (blk_new _ _) _ | refine blk_alloc ?_ _ | refine blk_drew ?_)) hb); (try clear HG); have HG := n_; clear n_; have n_ := Aside0.mk (blk_below (g := wA.heap.size) (o := .cells #[.int .i64 ip, .int .i64 b, .int .i64 gate, .string gm, .string wm, .int .i64 res, .slice X6 g.length x6, .slice X7 l.length x7] 41 (0, 0)) (by repeat' (with_reducible first | exact HA.out | exact blk_new _ _ | exact blk_new1 _ _ _ | exact blk_alloc (blk_new _ _) _ | refine blk_alloc ?_ _ | refine blk_drew ?_)) hb); (try clear HA); have HA := n_; clear n_; (try clear cxHX hzHX); (try clear cxHG hzHG); (try clear cxHA hzHA); (try clear cxHE hzHE); have cxHX := blk_cell HX.out; have hzHX := blk_lt HX.out; have cxHG := blk_cell HG.out; have hzHG := blk_lt HG.out; have cxHA := blk_cell HA.out; have hzHA := blk_lt HA.out; (obtain ⟨m_, o_⟩ := R_toC o0); have HC0 := Aside0.mk o_; have MHC0 := m_; clear o_ m_ o0; (obtain ⟨m_, o_⟩ := R_toC o1); have HC1 := Aside0.mk o_; have MHC1 := m_; clear o_ m_ o1; (obtain ⟨m_, o_⟩ := R_toC o2); have HC2 := Aside0.mk o_; have MHC2 := m_; clear o_ m_ o2; (obtain ⟨m_, o_⟩ := R_toC o3); have HC3 := Aside0.mk o_; have MHC3 := m_; clear o_ m_ o3; have n_ := Aside0.mk (Kd.C_below HC6.out (below_step (below_alloc (Below.refl _ _) _) hb)); clear HC6; have HC6 := n_; clear n_; have n_ := Aside0.mk (Kd.C_below HC7.out (below_step (below_alloc (Below.refl _ _) _) hb)); clear HC7; have HC7 := n_; clear n_; clear hb))
    | (go_at_call 12; go_loud (refine (iGuestsN ip b gate gm wm res X6 x6 (g.map cvPlace) X7 x7 (l.map cvRole) X0 X1 X2 X3 x0 x1 x2 x3 (us.map cvUser) (ss.map cvSession) (fs.map cvFail) (rs.map cvRecord) nx _ _ _ _ _ _ _ (List.length_map _) (List.length_map _) (List.length_map _) (List.length_map _) (List.length_map _) (List.length_map _) (Kd.C_below HC6.out (below_alloc (Below.refl _ _) _)) (Kd.C_below HC7.out (below_alloc (Below.refl _ _) _)) (Kd.C_below HC0.out (below_alloc (Below.refl _ _) _)) (Kd.C_below HC1.out (below_alloc (Below.refl _ _) _)) (Kd.C_below HC2.out (below_alloc (Below.refl _ _) _)) (Kd.C_below HC3.out (below_alloc (Below.refl _ _) _)) (by rw [List.length_map]; exact Nat.le_trans HZ.out.2.2.1 (by decide)) (by rw [List.length_map]; exact Nat.le_trans HZ.out.2.2.2.1 (by decide)) (zmap fun x hx => ⟨by have := (HS.out.1.2.2 x hx).2; simp only [cvRole, List.length_map]; omega, by have := (HS.out.1.2.2 x hx).1; simp only [cvRole]; omega⟩) (Nat.le_trans HZ.out.1 (by decide)) (Nat.le_trans HZ.out.2.1 (by decide)) (by rw [List.length_map]; have := HS.out.2.1; omega) (by rw [List.length_map]; have := HS.out.2.2.1; omega) (by rw [List.length_map]; have := HS.out.2.2.2.1; omega) (by rw [List.length_map]; have := HS.out.2.2.2.2; omega) (by rw [List.length_map]; exact MHC1) (zmap fun x hx => by have q := HZ.out.2.2.2.2.2.2.1 x hx; simp only [cvUser]; omega) (zmap fun x hx => by have q := HZ.out.2.2.2.2.2.2.2.2.1 x hx; simp only [cvSession]; omega) (zmap fun x hx => by have q := HZ.out.2.2.2.2.2.2.2.2.2.2.1 x hx; simp only [cvFail]; omega)).mono ?_; intro e w2 h2; (obtain ⟨rfl, hb⟩ := h2.as HV.out); have n_ := Aside0.mk (below_step (w := w) (by repeat' (with_reducible first | exact HB.out | apply below_alloc | apply below_drew1 | refine below_set ?_ (by omega))) hb); clear HB; have HB := n_; clear n_; have n_ := Aside0.mk (blk_below (g := w.heap.size) (o := .cells #[.int .i64 ip, .int .i64 b, .int .i64 gate, .string gm, .string wm, .int .i64 res, .slice A6 g.length c6, .slice A7 l.length c7] 27 (0, 0)) (by repeat' (with_reducible first | exact HX.out | exact blk_new _ _ | exact blk_new1 _ _ _ | exact blk_alloc (blk_new _ _) _ | refine blk_alloc ?_ _ | refine blk_drew ?_)) hb); (try clear HX); have HX := n_; clear n_; have n_ := Aside0.mk (blk_below (g := (w.heap.size + 1)) (o := .cells #[.slice B0 us.length d0, .slice B1 ss.length d1, .slice B2 fs.length d2, .slice B3 rs.length d3, .int .i64 nx] 33 (0, 0)) (by repeat' (with_reducible first | exact HG.out | exact blk_new _ _ | exact blk_new1 _ _ _ | exact blk_alloc (blk_new _ _) _ | refine blk_alloc ?_ _ | refine blk_drew ?_)) hb); (try clear HG); have HG := n_; clear n_; have n_ := Aside0.mk (blk_below (g := wA.heap.size) (o := .cells #[.int .i64 ip, .int .i64 b, .int .i64 gate, .string gm, .string wm, .int .i64 res, .slice X6 g.length x6, .slice X7 l.length x7] 41 (0, 0)) (by repeat' (with_reducible first | exact HA.out | exact blk_new _ _ | exact blk_new1 _ _ _ | exact blk_alloc (blk_new _ _) _ | refine blk_alloc ?_ _ | refine blk_drew ?_)) hb); (try clear HA); have HA := n_; clear n_; have n_ := Aside0.mk (blk_below (g := wE.heap.size) (o := .cells #[.slice X0 us.length x0, .slice X1 ss.length x1, .slice X2 fs.length x2, .slice X3 rs.length x3, .int .i64 nx] 48 (0, 0)) (by repeat' (with_reducible first | exact HE.out | exact blk_new _ _ | exact blk_new1 _ _ _ | exact blk_alloc (blk_new _ _) _ | refine blk_alloc ?_ _ | refine blk_drew ?_)) hb); (try clear HE); have HE := n_; clear n_; (try clear cxHX hzHX); (try clear cxHG hzHG); (try clear cxHA hzHA); (try clear cxHE hzHE); have cxHX := blk_cell HX.out; have hzHX := blk_lt HX.out; have cxHG := blk_cell HG.out; have hzHG := blk_lt HG.out; have cxHA := blk_cell HA.out; have hzHA := blk_lt HA.out; have cxHE := blk_cell HE.out; have hzHE := blk_lt HE.out; have n_ := Aside0.mk (Kd.C_below HC6.out (below_step (below_alloc (Below.refl _ _) _) hb)); clear HC6; have HC6 := n_; clear n_; have n_ := Aside0.mk (Kd.C_below HC7.out (below_step (below_alloc (Below.refl _ _) _) hb)); clear HC7; have HC7 := n_; clear n_; have n_ := Aside0.mk (Kd.C_below HC0.out (below_step (below_alloc (Below.refl _ _) _) hb)); clear HC0; have HC0 := n_; clear n_; have n_ := Aside0.mk (Kd.C_below HC1.out (below_step (below_alloc (Below.refl _ _) _) hb)); clear HC1; have HC1 := n_; clear n_; have n_ := Aside0.mk (Kd.C_below HC2.out (below_step (below_alloc (Below.refl _ _) _) hb)); clear HC2; have HC2 := n_; clear n_; have n_ := Aside0.mk (Kd.C_below HC3.out (below_step (below_alloc (Below.refl _ _) _) hb)); clear HC3; have HC3 := n_; clear n_; clear hb)))
  (try clear cxHX hzHX); (try clear cxHG hzHG); (try clear cxHA hzHA); (try clear cxHE hzHE)
  refine qS (fun w' => w'.cell? ⟨w.heap.size, 0, none⟩ = some (.int .i64 ip) ∧ w'.cell? ⟨w.heap.size, 1, none⟩ = some (.int .i64 b) ∧ w'.cell? ⟨w.heap.size, 2, none⟩ = some (.int .i64 gate) ∧ w'.cell? ⟨w.heap.size, 3, none⟩ = some (.string gm) ∧ w'.cell? ⟨w.heap.size, 4, none⟩ = some (.string wm) ∧ w'.cell? ⟨w.heap.size, 5, none⟩ = some (.int .i64 res) ∧ w'.cell? ⟨w.heap.size, 6, none⟩ = some (.slice A6 g.length c6) ∧ w'.cell? ⟨w.heap.size, 7, none⟩ = some (.slice A7 l.length c7) ∧ w'.cell? ⟨wA.heap.size, 0, none⟩ = some (.int .i64 ip) ∧ w'.cell? ⟨wA.heap.size, 1, none⟩ = some (.int .i64 b) ∧ w'.cell? ⟨wA.heap.size, 2, none⟩ = some (.int .i64 gate) ∧ w'.cell? ⟨wA.heap.size, 3, none⟩ = some (.string gm) ∧ w'.cell? ⟨wA.heap.size, 4, none⟩ = some (.string wm) ∧ w'.cell? ⟨wA.heap.size, 5, none⟩ = some (.int .i64 res) ∧ w'.cell? ⟨wA.heap.size, 6, none⟩ = some (.slice X6 g.length x6) ∧ w'.cell? ⟨wA.heap.size, 7, none⟩ = some (.slice X7 l.length x7)) 5 ⟨blk_cell HX.out 0, blk_cell HX.out 1, blk_cell HX.out 2, blk_cell HX.out 3, blk_cell HX.out 4, blk_cell HX.out 5, blk_cell HX.out 6, blk_cell HX.out 7, blk_cell HA.out 0, blk_cell HA.out 1, blk_cell HA.out 2, blk_cell HA.out 3, blk_cell HA.out 4, blk_cell HA.out 5, blk_cell HA.out 6, blk_cell HA.out 7⟩ (fun hs => ?_)
  have n_ := Aside0.mk (Kd.C_below HC6.out (below_drew1 (Below.refl _ _)))
  clear HC6
  have HC6 := n_
  clear n_
  have n_ := Aside0.mk (Kd.C_below HC7.out (below_drew1 (Below.refl _ _)))
  clear HC7
  have HC7 := n_
  clear n_
  have n_ := Aside0.mk (Kd.C_below HC0.out (below_drew1 (Below.refl _ _)))
  clear HC0
  have HC0 := n_
  clear n_
  have n_ := Aside0.mk (Kd.C_below HC1.out (below_drew1 (Below.refl _ _)))
  clear HC1
  have HC1 := n_
  clear n_
  have n_ := Aside0.mk (Kd.C_below HC2.out (below_drew1 (Below.refl _ _)))
  clear HC2
  have HC2 := n_
  clear n_
  have n_ := Aside0.mk (Kd.C_below HC3.out (below_drew1 (Below.refl _ _)))
  clear HC3
  have HC3 := n_
  clear n_
  have n_ := Aside0.mk (below_drew1 HB.out)
  clear HB
  have HB := n_
  clear n_
  have n_ := Aside0.mk (blk_drew HX.out)
  clear HX
  have HX := n_
  clear n_
  have n_ := Aside0.mk (blk_drew HG.out)
  clear HG
  have HG := n_
  clear n_
  have n_ := Aside0.mk (blk_drew HA.out)
  clear HA
  have HA := n_
  clear n_
  have n_ := Aside0.mk (blk_drew HE.out)
  clear HE
  have HE := n_
  clear n_
  refine qT 0 35 hs ?_
  refine qT 1 36 hs ?_
  refine q1 2 37 (fun K hK => ?_)
  refine qC Tryz.func10 _ ?_
  refine (toConfig1 ip b gate gm wm res A6 c6 g A7 c7 l _ (Kd.C_below H0.out.1 HB.out) HS.out.1.1 (Kd.C_below H0.out.2.1 HB.out) HS.out.1.2.1 (fun r hr => (HS.out.1.2.2 r hr).2)).mono ?_
  intro e w2 h2
  obtain ⟨P6, p6, P7, p7, rfl, o6, o7, hb⟩ := h2
  (obtain ⟨m_, o_⟩ := R_toC o6); have HD6 := Aside0.mk o_; have MHD6 := m_; clear o_ m_ o6
  (obtain ⟨m_, o_⟩ := R_toC o7); have HD7 := Aside0.mk o_; have MHD7 := m_; clear o_ m_ o7
  have n_ := Aside0.mk (Kd.C_below HC6.out hb)
  clear HC6
  have HC6 := n_
  clear n_
  have n_ := Aside0.mk (Kd.C_below HC7.out hb)
  clear HC7
  have HC7 := n_
  clear n_
  have n_ := Aside0.mk (Kd.C_below HC0.out hb)
  clear HC0
  have HC0 := n_
  clear n_
  have n_ := Aside0.mk (Kd.C_below HC1.out hb)
  clear HC1
  have HC1 := n_
  clear n_
  have n_ := Aside0.mk (Kd.C_below HC2.out hb)
  clear HC2
  have HC2 := n_
  clear n_
  have n_ := Aside0.mk (Kd.C_below HC3.out hb)
  clear HC3
  have HC3 := n_
  clear n_
  have n_ := Aside0.mk (below_step HB.out hb)
  clear HB
  have HB := n_
  clear n_
  have n_ := Aside0.mk (blk_below HX.out hb)
  clear HX
  have HX := n_
  clear n_
  have n_ := Aside0.mk (blk_below HG.out hb)
  clear HG
  have HG := n_
  clear n_
  have n_ := Aside0.mk (blk_below HA.out hb)
  clear HA
  have HA := n_
  clear n_
  have n_ := Aside0.mk (blk_below HE.out hb)
  clear HE
  have HE := n_
  clear n_
  refine ⟨_, rfl, hK.out _ _ ⟨pw_cell_below hb hs.1, pw_cell_below hb hs.2.1, pw_cell_below hb hs.2.2.1, pw_cell_below hb hs.2.2.2.1, pw_cell_below hb hs.2.2.2.2.1, pw_cell_below hb hs.2.2.2.2.2.1, pw_cell_below hb hs.2.2.2.2.2.2.1, pw_cell_below hb hs.2.2.2.2.2.2.2.1, pw_cell_below hb hs.2.2.2.2.2.2.2.2.1, pw_cell_below hb hs.2.2.2.2.2.2.2.2.2.1, pw_cell_below hb hs.2.2.2.2.2.2.2.2.2.2.1, pw_cell_below hb hs.2.2.2.2.2.2.2.2.2.2.2.1, pw_cell_below hb hs.2.2.2.2.2.2.2.2.2.2.2.2.1, pw_cell_below hb hs.2.2.2.2.2.2.2.2.2.2.2.2.2.1, pw_cell_below hb hs.2.2.2.2.2.2.2.2.2.2.2.2.2.2.1, pw_cell_below hb hs.2.2.2.2.2.2.2.2.2.2.2.2.2.2.2⟩ (fun hs2 => ?_)⟩
  clear hK K hs hb
  have hs := hs2
  clear hs2
  refine qN ?_
  refine q1 3 38 (fun K hK => ?_)
  refine qC Tryz.func13 _ ?_
  refine (eqConfigN ip b gate gm wm res X6 P6 x6 p6 (g.map cvPlace) X7 P7 x7 p7 (l.map cvRole) _ _ _ (List.length_map _) (List.length_map _) HC6.out HD6.out (by rw [List.length_map]; exact Nat.le_trans HZ.out.2.2.1 (by decide)) HC7.out HD7.out (by rw [List.length_map]; exact Nat.le_trans HZ.out.2.2.2.1 (by decide)) (zmap fun x hx => by have := (HS.out.1.2.2 x hx).2; simp only [cvRole, List.length_map]; omega)).mono ?_
  intro e w2 h2
  obtain ⟨rfl, hb⟩ := h2
  have n_ := Aside0.mk (Kd.C_below HC0.out hb)
  clear HC0
  have HC0 := n_
  clear n_
  have n_ := Aside0.mk (Kd.C_below HC1.out hb)
  clear HC1
  have HC1 := n_
  clear n_
  have n_ := Aside0.mk (Kd.C_below HC2.out hb)
  clear HC2
  have HC2 := n_
  clear n_
  have n_ := Aside0.mk (Kd.C_below HC3.out hb)
  clear HC3
  have HC3 := n_
  clear n_
  have n_ := Aside0.mk (below_step HB.out hb)
  clear HB
  have HB := n_
  clear n_
  have n_ := Aside0.mk (blk_below HX.out hb)
  clear HX
  have HX := n_
  clear n_
  have n_ := Aside0.mk (blk_below HG.out hb)
  clear HG
  have HG := n_
  clear n_
  have n_ := Aside0.mk (blk_below HA.out hb)
  clear HA
  have HA := n_
  clear n_
  have n_ := Aside0.mk (blk_below HE.out hb)
  clear HE
  have HE := n_
  clear n_
  refine ⟨_, rfl, hK.out _ _ ⟨pw_cell_below hb hs.1, pw_cell_below hb hs.2.1, pw_cell_below hb hs.2.2.1, pw_cell_below hb hs.2.2.2.1, pw_cell_below hb hs.2.2.2.2.1, pw_cell_below hb hs.2.2.2.2.2.1, pw_cell_below hb hs.2.2.2.2.2.2.1, pw_cell_below hb hs.2.2.2.2.2.2.2.1, pw_cell_below hb hs.2.2.2.2.2.2.2.2.1, pw_cell_below hb hs.2.2.2.2.2.2.2.2.2.1, pw_cell_below hb hs.2.2.2.2.2.2.2.2.2.2.1, pw_cell_below hb hs.2.2.2.2.2.2.2.2.2.2.2.1, pw_cell_below hb hs.2.2.2.2.2.2.2.2.2.2.2.2.1, pw_cell_below hb hs.2.2.2.2.2.2.2.2.2.2.2.2.2.1, pw_cell_below hb hs.2.2.2.2.2.2.2.2.2.2.2.2.2.2.1, pw_cell_below hb hs.2.2.2.2.2.2.2.2.2.2.2.2.2.2.2⟩ (fun hs2 => ?_)⟩
  clear hK K hs hb
  have hs := hs2
  clear hs2
  refine qN ?_
  refine qP 4 39 ?_
  refine qD ?_
  clear hs
  clear HC6 HC7 HD6 HD7 MHD6 MHD7
  go_wp2
  refine qS (fun w' => w'.cell? ⟨w.heap.size + 1, 0, none⟩ = some (.slice B0 us.length d0) ∧ w'.cell? ⟨w.heap.size + 1, 1, none⟩ = some (.slice B1 ss.length d1) ∧ w'.cell? ⟨w.heap.size + 1, 2, none⟩ = some (.slice B2 fs.length d2) ∧ w'.cell? ⟨w.heap.size + 1, 3, none⟩ = some (.slice B3 rs.length d3) ∧ w'.cell? ⟨w.heap.size + 1, 4, none⟩ = some (.int .i64 nx) ∧ w'.cell? ⟨wE.heap.size, 0, none⟩ = some (.slice X0 us.length x0) ∧ w'.cell? ⟨wE.heap.size, 1, none⟩ = some (.slice X1 ss.length x1) ∧ w'.cell? ⟨wE.heap.size, 2, none⟩ = some (.slice X2 fs.length x2) ∧ w'.cell? ⟨wE.heap.size, 3, none⟩ = some (.slice X3 rs.length x3) ∧ w'.cell? ⟨wE.heap.size, 4, none⟩ = some (.int .i64 nx)) 5 ⟨blk_cell HG.out 0, blk_cell HG.out 1, blk_cell HG.out 2, blk_cell HG.out 3, blk_cell HG.out 4, blk_cell HE.out 0, blk_cell HE.out 1, blk_cell HE.out 2, blk_cell HE.out 3, blk_cell HE.out 4⟩ (fun hs => ?_)
  have n_ := Aside0.mk (Kd.C_below HC0.out (below_drew1 (Below.refl _ _)))
  clear HC0
  have HC0 := n_
  clear n_
  have n_ := Aside0.mk (Kd.C_below HC1.out (below_drew1 (Below.refl _ _)))
  clear HC1
  have HC1 := n_
  clear n_
  have n_ := Aside0.mk (Kd.C_below HC2.out (below_drew1 (Below.refl _ _)))
  clear HC2
  have HC2 := n_
  clear n_
  have n_ := Aside0.mk (Kd.C_below HC3.out (below_drew1 (Below.refl _ _)))
  clear HC3
  have HC3 := n_
  clear n_
  have n_ := Aside0.mk (below_drew1 HB.out)
  clear HB
  have HB := n_
  clear n_
  have n_ := Aside0.mk (blk_drew HX.out)
  clear HX
  have HX := n_
  clear n_
  have n_ := Aside0.mk (blk_drew HG.out)
  clear HG
  have HG := n_
  clear n_
  have n_ := Aside0.mk (blk_drew HA.out)
  clear HA
  have HA := n_
  clear n_
  have n_ := Aside0.mk (blk_drew HE.out)
  clear HE
  have HE := n_
  clear n_
  refine qT 0 40 hs ?_
  refine qT 1 41 hs ?_
  refine q1 2 42 (fun K hK => ?_)
  refine qC Tryz.func11 _ ?_
  refine (toGuests1 B0 d0 us B1 d1 ss B2 d2 fs B3 d3 rs nx _ (Kd.C_below H0.out.2.2.1 HB.out) HS.out.2.1 (Kd.C_below H0.out.2.2.2.1 HB.out) HS.out.2.2.1 (Kd.C_below H0.out.2.2.2.2.1 HB.out) HS.out.2.2.2.1 (Kd.C_below H0.out.2.2.2.2.2 HB.out) HS.out.2.2.2.2).mono ?_
  intro e w2 h2
  obtain ⟨P0, p0, P1, p1, P2, p2, P3, p3, rfl, o0, o1, o2, o3, hb⟩ := h2
  (obtain ⟨m_, o_⟩ := R_toC o0); have HD0 := Aside0.mk o_; have MHD0 := m_; clear o_ m_ o0
  (obtain ⟨m_, o_⟩ := R_toC o1); have HD1 := Aside0.mk o_; have MHD1 := m_; clear o_ m_ o1
  (obtain ⟨m_, o_⟩ := R_toC o2); have HD2 := Aside0.mk o_; have MHD2 := m_; clear o_ m_ o2
  (obtain ⟨m_, o_⟩ := R_toC o3); have HD3 := Aside0.mk o_; have MHD3 := m_; clear o_ m_ o3
  have n_ := Aside0.mk (Kd.C_below HC0.out hb)
  clear HC0
  have HC0 := n_
  clear n_
  have n_ := Aside0.mk (Kd.C_below HC1.out hb)
  clear HC1
  have HC1 := n_
  clear n_
  have n_ := Aside0.mk (Kd.C_below HC2.out hb)
  clear HC2
  have HC2 := n_
  clear n_
  have n_ := Aside0.mk (Kd.C_below HC3.out hb)
  clear HC3
  have HC3 := n_
  clear n_
  have n_ := Aside0.mk (below_step HB.out hb)
  clear HB
  have HB := n_
  clear n_
  have n_ := Aside0.mk (blk_below HX.out hb)
  clear HX
  have HX := n_
  clear n_
  have n_ := Aside0.mk (blk_below HG.out hb)
  clear HG
  have HG := n_
  clear n_
  have n_ := Aside0.mk (blk_below HA.out hb)
  clear HA
  have HA := n_
  clear n_
  have n_ := Aside0.mk (blk_below HE.out hb)
  clear HE
  have HE := n_
  clear n_
  refine ⟨_, rfl, hK.out _ _ ⟨pw_cell_below hb hs.1, pw_cell_below hb hs.2.1, pw_cell_below hb hs.2.2.1, pw_cell_below hb hs.2.2.2.1, pw_cell_below hb hs.2.2.2.2.1, pw_cell_below hb hs.2.2.2.2.2.1, pw_cell_below hb hs.2.2.2.2.2.2.1, pw_cell_below hb hs.2.2.2.2.2.2.2.1, pw_cell_below hb hs.2.2.2.2.2.2.2.2.1, pw_cell_below hb hs.2.2.2.2.2.2.2.2.2⟩ (fun hs2 => ?_)⟩
  clear hK K hs hb
  have hs := hs2
  clear hs2
  refine qN ?_
  refine q1 3 43 (fun K hK => ?_)
  refine qC Tryz.func14 _ ?_
  refine (eqGuestsN X0 X1 X2 X3 P0 P1 P2 P3 x0 x1 x2 x3 p0 p1 p2 p3 (us.map cvUser) (ss.map cvSession) (fs.map cvFail) (rs.map cvRecord) nx _ _ _ _ _ (List.length_map _) (List.length_map _) (List.length_map _) (List.length_map _) HC0.out HD0.out (by rw [List.length_map]; have := HS.out.2.1; omega) HC1.out HD1.out (by rw [List.length_map]; have := HS.out.2.2.1; omega) HC2.out HD2.out (by rw [List.length_map]; have := HS.out.2.2.2.1; omega) HC3.out HD3.out (by rw [List.length_map]; have := HS.out.2.2.2.2; omega)).mono ?_
  intro e w2 h2
  obtain ⟨rfl, hb⟩ := h2
  have n_ := Aside0.mk (below_step HB.out hb)
  clear HB
  have HB := n_
  clear n_
  have n_ := Aside0.mk (blk_below HX.out hb)
  clear HX
  have HX := n_
  clear n_
  have n_ := Aside0.mk (blk_below HG.out hb)
  clear HG
  have HG := n_
  clear n_
  have n_ := Aside0.mk (blk_below HA.out hb)
  clear HA
  have HA := n_
  clear n_
  have n_ := Aside0.mk (blk_below HE.out hb)
  clear HE
  have HE := n_
  clear n_
  refine ⟨_, rfl, hK.out _ _ ⟨pw_cell_below hb hs.1, pw_cell_below hb hs.2.1, pw_cell_below hb hs.2.2.1, pw_cell_below hb hs.2.2.2.1, pw_cell_below hb hs.2.2.2.2.1, pw_cell_below hb hs.2.2.2.2.2.1, pw_cell_below hb hs.2.2.2.2.2.2.1, pw_cell_below hb hs.2.2.2.2.2.2.2.1, pw_cell_below hb hs.2.2.2.2.2.2.2.2.1, pw_cell_below hb hs.2.2.2.2.2.2.2.2.2⟩ (fun hs2 => ?_)⟩
  clear hK K hs hb
  have hs := hs2
  clear hs2
  refine qN ?_
  refine qP 4 44 ?_
  refine qD ?_
  clear hs
  go_wp2
  go_ret
  exact ⟨rfl, HB.out⟩
end
section
/-! ### laws_FnExactGuestsOK: function 3 -/
-- TYPES 27 33
open Classical in
noncomputable def laws_FnExactGuestsOK.f (ip b gate : Int) (gm wm : ByteArray) (res : Int) (g : List S151) (l : List S129) (us : List S131) (ss : List S133) (fs : List S135) (rs : List S157) (nx : Int) : Option Bool := if LawG gm wm g l us ss fs rs then some true else none
theorem laws_FnExactGuestsOK.calls (ip b gate : Int) (gm wm : ByteArray) (res : Int) (A6 : Option Addr) (c6 : Nat) (g : List S151) (A7 : Option Addr) (c7 : Nat) (l : List S129) (B0 : Option Addr) (d0 : Nat) (us : List S131) (B1 : Option Addr) (d1 : Nat) (ss : List S133) (B2 : Option Addr) (d2 : Nat) (fs : List S135) (B3 : Option Addr) (d3 : Nat) (rs : List S157) (nx : Int) (r : Bool) (w : World)
    (hg : Kd.C k151 w A6 g.length g) (m6 : g.length ≤ c6) (hl : Kd.C k129 w A7 l.length l) (m7 : l.length ≤ c7) (h0 : Kd.C k131 w B0 us.length us) (m0 : us.length ≤ d0) (h1 : Kd.C k133 w B1 ss.length ss) (m1 : ss.length ≤ d1) (h2 : Kd.C k135 w B2 fs.length fs) (m2 : fs.length ≤ d2) (h3 : Kd.C k157 w B3 rs.length rs) (m3 : rs.length ≤ d3) (h : laws_FnExactGuestsOK.f ip b gate gm wm res g l us ss fs rs nx = some r) :
    Calls Tryz.prog 3 #[.agg #[.int .i64 ip, .int .i64 b, .int .i64 gate, .string gm, .string wm, .int .i64 res, .slice A6 g.length c6, .slice A7 l.length c7], .agg #[.slice B0 us.length d0, .slice B1 ss.length d1, .slice B2 fs.length d2, .slice B3 rs.length d3, .int .i64 nx]] w fun e w' => e = .returned (.bool r) ∧ Below w.heap.size w w' := by
  rw [laws_FnExactGuestsOK.f] at h
  split at h
  · rename_i hz
    obtain rfl := Option.some.inj h
    exact lawG1 ip b gate gm wm res A6 c6 g A7 c7 l B0 B1 B2 B3 d0 d1 d2 d3 us ss fs rs nx w hg hl h0 h1 h2 h3 hz
  · cases h
end
section
-- IMPORT Derived.SizedLaws
-- IMPORT Derived.ProofKit
-- IMPORT Derived.WalkKit
-- IMPORT Derived.OpenShut
-- IMPORT Derived.ShutString
-- IMPORT Derived.ChangeOld
-- IMPORT Derived.Below
-- IMPORT Derived.Deep.Slices
open Go.ChangeShapes Go.WideShapes Go.ChangeAt Go.Deep
/-- What reads as data of type t is a value of the kind d, and meets wf. -/
structure Opens (P : Program) (t : TypeId) {α : Type} (d : Kd α) (wf : α → Prop) : Prop where
  sz : P.cellsOf t = d.sz
  op : ∀ {H : Type} {enc : TypeId × Value → H} {w : World} {fuel : Nat} {cs : List Value} {y : DataW H × List MemPlace}, DataW.trod enc P w 0 (fun _ => true) true fuel t cs = some y → (∀ n ∈ y.1.weights P t, n ≤ reachBytes) → ∃ x, d.K w x cs ∧ wf x
theorem Opens.int {P : Program} {t : TypeId} {k : IntKind} (hu : P.underlying t = some (.int k)) (hc : P.cellsOf t = 1) : Opens P t (Kd.int k) (fun n => (Lit.int k n).wf = true) :=
  ⟨hc, fun h _ => by obtain ⟨n, rfl, rfl, wf⟩ := DataW.trod_int hu h; exact ⟨n, rfl, wf⟩⟩
theorem Opens.bool {P : Program} {t : TypeId} (hu : P.underlying t = some .bool) (hc : P.cellsOf t = 1) : Opens P t Kd.bool (fun _ => True) :=
  ⟨hc, fun h _ => by obtain ⟨n, rfl, rfl⟩ := DataW.trod_bool hu h; exact ⟨n, rfl, trivial⟩⟩
theorem Opens.string {P : Program} {t : TypeId} (hu : P.underlying t = some .string) (hc : P.cellsOf t = 1) : Opens P t Kd.string (fun s => s.size ≤ 140737488351232) :=
  ⟨hc, fun h hw => by
    obtain ⟨s, rfl, rfl, _⟩ := DataW.trod_string hu h
    refine ⟨s, rfl, ?_⟩
    have := hw s.data.toList.length (by simp [DataW.weights])
    simpa [reachBytes] using this⟩
theorem weights_mem_all {H : Type} {P : Program} {e : TypeId} {n : Nat} : ∀ {l : List (DataW H)} {d : DataW H}, d ∈ l → n ∈ d.weights P e → n ∈ DataW.weightsAll P e l
  | d0 :: l, d, hd, hn => by
    simp only [DataW.weightsAll, List.mem_append]
    rcases List.mem_cons.1 hd with rfl | hd
    · exact .inl hn
    · exact .inr (weights_mem_all hd hn)
  | [], _, hd, _ => by cases hd
theorem list_of_all {α : Type} {Q : Nat → α → Prop} (n : Nat) (h : ∀ i, i < n → ∃ x, Q i x) : ∃ xs : List α, xs.length = n ∧ ∀ j x, xs[j]? = some x → Q j x := by
  induction n with
  | zero => exact ⟨[], rfl, fun j x h => by simp at h⟩
  | succ n ih =>
    obtain ⟨xs, hl, hx⟩ := ih (fun i hi => h i (by omega))
    obtain ⟨x, hq⟩ := h n (by omega)
    refine ⟨xs ++ [x], by simp [hl], fun j y hj => ?_⟩
    rcases Nat.lt_or_ge j xs.length with hlt | hge
    · rw [List.getElem?_append_left hlt] at hj
      exact hx j y hj
    · rw [List.getElem?_append_right hge] at hj
      have : j - xs.length = 0 := by
        rcases Nat.lt_or_ge (j - xs.length) 1 with h1 | h1
        · omega
        · rw [List.getElem?_eq_none (by simpa using h1)] at hj; cases hj
      rw [this] at hj
      simp at hj
      subst hj
      have : j = n := by omega
      subst this
      exact hq
theorem Opens.slice {α : Type} {P : Program} {t e : TypeId} {d : Kd α} {wf : α → Prop} (hu : P.underlying t = some (.slice e)) (hc : P.cellsOf t = 1) (B : Nat) (hB : P.bytesOf e = B) (he : Opens P e d wf) :
    Opens P t (Kd.slice e d) (fun xs => xs.length * B ≤ 140737488351232 ∧ xs.length ≤ maxLen ∧ ∀ x ∈ xs, wf x) :=
  ⟨hc, fun {H enc w fuel cs y} h hw => by
    rcases open_slice hu h with ⟨rfl, rfl⟩ | ⟨a, len, cap, m, n, D, Pl, rfl, _, hl, hm, hmm, rfl, hel⟩
    · exact ⟨[], ⟨none, 0, rfl, Nat.le_refl _, Kd.C_nil d w⟩, by simp, by simp, fun x hx => by cases hx⟩
    have hmc : m = cap := by rw [hmm]; rfl
    subst hmc
    have hwt : ∀ i, i < len → ∀ z ∈ (D i).weights P e, z ≤ reachBytes := fun i hi z hz => hw z (by
      simp only [DataW.weights, hu]
      exact List.mem_cons_of_mem _ (List.mem_append_left _ (weights_mem_all (List.mem_map.2 ⟨i, List.mem_range.2 hi, rfl⟩) hz)))
    have hall : ∀ i, i < len → ∃ x : α, (∃ c, c.length = d.sz ∧ d.K w x c ∧ ∀ j u, c[j]? = some u → w.cell? (a.add (i * d.sz + j)) = some u) ∧ wf x := by
      intro i hi
      obtain ⟨cs', hcs, htr⟩ := hel i (by omega)
      obtain ⟨x, hk, hx⟩ := he.op htr (hwt i hi)
      obtain ⟨_, hlen, hcell⟩ := World.cells?_some hcs
      refine ⟨x, ⟨cs', by rw [hlen, he.sz], hk, fun j u hu' => ?_⟩, hx⟩
      have hj : j < cs'.length := by
        rcases Nat.lt_or_ge j cs'.length with h1 | h1
        · exact h1
        · rw [List.getElem?_eq_none h1] at hu'; cases hu'
      rw [hlen] at hj
      have hcj := hcell j hj
      rw [hu', he.sz, Addr.add_add] at hcj
      exact hcj
    obtain ⟨xs, hxl, hxs⟩ := list_of_all (Q := fun i x => (∃ c, c.length = d.sz ∧ d.K w x c ∧ ∀ j u, c[j]? = some u → w.cell? (a.add (i * d.sz + j)) = some u) ∧ wf x) len hall
    subst hxl
    refine ⟨xs, ⟨some a, m, rfl, hl, rfl, ?_, fun _ => ⟨a, rfl, fun j p hp => (hxs j p hp).1⟩⟩, ?_, ?_, ?_⟩
    · unfold maxLen at hm; omega
    · have := hw ((List.map D (List.range xs.length)).length + (List.map (fun j => D (xs.length + j)) (List.range (m - xs.length))).length) |> fun h => h
      have h1 := hw (((List.map D (List.range xs.length)).length + (List.map (fun j => D (xs.length + j)) (List.range (m - xs.length))).length) * P.bytesOf e) (by simp only [DataW.weights, hu]; exact List.mem_cons_self)
      rw [hB] at h1
      simp only [List.length_map, List.length_range] at h1
      have h2 : xs.length * B ≤ (xs.length + (m - xs.length)) * B := Nat.mul_le_mul_right _ (by omega)
      exact Nat.le_trans h2 h1
    · omega
    · intro x hx
      obtain ⟨j, hj, rfl⟩ := List.getElem_of_mem hx
      exact (hxs j _ (List.getElem?_eq_getElem hj)).2⟩
/-- Fields in line from cell o on. -/
structure OpensF (P : Program) (fs : List Field) (o : Nat) {α : Type} (d : Kd α) (wf : α → Prop) : Prop where
  op : ∀ {H : Type} {enc : TypeId × Value → H} {w : World} {n : Nat} {cs : List Value} {xs : List (DataW H × List MemPlace)}, o + d.sz ≤ cs.length → xs.length = fs.length →
    (∀ (i : Nat) (f : Field), fs[i]? = some f → DataW.trod enc P w 0 (fun _ => true) true n f.type ((cs.drop f.offset).take (P.cellsOf f.type)) = xs[i]?) →
    (∀ z ∈ DataW.weightsEach P (fs.map (·.type)) (xs.map (·.1)), z ≤ reachBytes) → ∃ x, d.K w x ((cs.drop o).take d.sz) ∧ wf x
theorem OpensF.one {α : Type} {P : Program} {f : Field} {o : Nat} {d : Kd α} {wf : α → Prop} (ho : f.offset = o) (h : Opens P f.type d wf) : OpensF P [f] o d wf := by
  refine ⟨fun {H enc w n cs xs} hlen hxl htr hw => ?_⟩
  match xs, hxl with
  | [y], _ =>
    have h1 := htr 0 f rfl
    rw [ho, h.sz] at h1
    exact h.op (y := y) h1 (fun z hz => hw z (by simpa [DataW.weightsEach] using hz))
theorem OpensF.cons {α β : Type} {P : Program} {f : Field} {fs : List Field} {o : Nat} {a : Kd α} {b : Kd β} {wa : α → Prop} {wb : β → Prop} (ho : f.offset = o) (h : Opens P f.type a wa) (o' : Nat) (ho' : o + a.sz = o') (hr : OpensF P fs o' b wb) :
    OpensF P (f :: fs) o (Kd.pair a b) (fun x => wa x.1 ∧ wb x.2) := by
  refine ⟨fun {H enc w n cs xs} hlen hxl htr hw => ?_⟩
  match xs, hxl with
  | y :: ys, hxl =>
    have h1 := htr 0 f rfl
    rw [ho, h.sz] at h1
    have hsz : (Kd.pair a b).sz = a.sz + b.sz := rfl
    rw [hsz] at hlen
    obtain ⟨x0, k0, w0⟩ := h.op (y := y) h1 (fun z hz => hw z (by simp only [List.map_cons, DataW.weightsEach, List.mem_append]; exact .inl hz))
    obtain ⟨x1, k1, w1⟩ := hr.op (n := n) (cs := cs) (xs := ys) (enc := enc) (w := w) (by omega) (by simpa using hxl) (fun i g hg => by have := htr (i + 1) g (by simpa using hg); simpa using this) (fun z hz => hw z (by simp only [List.map_cons, DataW.weightsEach, List.mem_append]; exact .inr hz))
    refine ⟨(x0, x1), ⟨(cs.drop o).take a.sz, (cs.drop o').take b.sz, ?_, k0, k1⟩, w0, w1⟩
    rw [hsz, ← ho', List.take_add, List.drop_drop]
theorem Opens.struct {α : Type} {P : Program} {t : TypeId} {fs : Array Field} {d : Kd α} {wf : α → Prop} (hu : P.underlying t = some (.struct fs)) (hc : P.cellsOf t = d.sz) (h : OpensF P fs.toList 0 d wf) : Opens P t d wf :=
  ⟨hc, fun {H enc w fuel cs y} ht hw => by
    obtain ⟨xs, n, rfl, rfl, hlen, hxl, htr⟩ := DataW.trod_struct hu ht
    obtain ⟨x, hk, hx⟩ := h.op (enc := enc) (w := w) (n := n) (cs := cs) (xs := xs) (by omega) (by simpa using hxl) (fun i f hf => htr i f (by simpa using hf)) (fun z hz => hw z (by simp only [DataW.weights, hu]; exact hz))
    refine ⟨x, ?_, hx⟩
    rw [List.drop_zero, List.take_of_length_le (by omega)] at hk
    exact hk⟩
theorem Opens.iso {α β : Type} {P : Program} {t : TypeId} {d : Kd α} {wf : α → Prop} (f : β → α) (g : α → β) (hfg : ∀ x, f (g x) = x) (h : Opens P t d wf) : Opens P t (Kd.iso d f) (fun x => wf (f x)) :=
  ⟨h.sz, fun ht hw => by
    obtain ⟨x, hk, hx⟩ := h.op ht hw
    exact ⟨g x, by show d.K _ (f (g x)) _; rw [hfg]; exact hk, by rw [hfg]; exact hx⟩⟩
end
section
def wf149 (x : S149) : Prop := (Lit.int .i64 x.f0).wf = true ∧ ((Lit.int .i64 x.f1).wf = true)
set_option maxRecDepth 100000 in
theorem opens149 : Opens Tryz.prog 149 k149 wf149 :=
  Opens.iso (fun x : S149 => (x.f0, x.f1)) (fun y => ⟨y.1, y.2⟩) (fun _ => rfl) (Opens.struct Tryz.underlying149 (by kernel_rfl) (OpensF.cons rfl (Opens.int Tryz.underlying3 (by kernel_rfl)) 1 rfl (OpensF.one rfl (Opens.int Tryz.underlying3 (by kernel_rfl)))))
end
section
def wf23 (x : S23) : Prop := (Lit.int .i64 x.f0).wf = true ∧ ((Lit.int .i64 x.f1).wf = true)
set_option maxRecDepth 100000 in
theorem opens23 : Opens Tryz.prog 23 k23 wf23 :=
  Opens.iso (fun x : S23 => (x.f0, x.f1)) (fun y => ⟨y.1, y.2⟩) (fun _ => rfl) (Opens.struct Tryz.underlying23 (by kernel_rfl) (OpensF.cons rfl (Opens.int Tryz.underlying3 (by kernel_rfl)) 1 rfl (OpensF.one rfl (Opens.int Tryz.underlying3 (by kernel_rfl)))))
end
section
def wf193 (x : S193) : Prop := (Lit.int .i64 x.f0).wf = true ∧ (wf23 x.f1 ∧ (wf149 x.f2 ∧ (True)))
set_option maxRecDepth 100000 in
theorem opens193 : Opens Tryz.prog 193 k193 wf193 :=
  Opens.iso (fun x : S193 => (x.f0, x.f1, x.f2, x.f3)) (fun y => ⟨y.1, y.2.1, y.2.2.1, y.2.2.2⟩) (fun _ => rfl) (Opens.struct Tryz.underlying193 (by kernel_rfl) (OpensF.cons rfl (Opens.int Tryz.underlying3 (by kernel_rfl)) 1 rfl (OpensF.cons rfl opens23 3 rfl (OpensF.cons rfl opens149 5 rfl (OpensF.one rfl (Opens.bool Tryz.underlying4 (by kernel_rfl)))))))
end
section
def wf129 (x : S129) : Prop := x.f0.size ≤ 140737488351232 ∧ ((x.f1.length * 48 ≤ 140737488351232 ∧ x.f1.length ≤ maxLen ∧ ∀ y ∈ x.f1, wf193 y) ∧ ((Lit.int .i64 x.f2).wf = true ∧ ((Lit.int .i64 x.f3).wf = true ∧ ((Lit.int .i64 x.f4).wf = true))))
set_option maxRecDepth 100000 in
theorem opens129 : Opens Tryz.prog 129 k129 wf129 :=
  Opens.iso (fun x : S129 => (x.f0, x.f1, x.f2, x.f3, x.f4)) (fun y => ⟨y.1, y.2.1, y.2.2.1, y.2.2.2.1, y.2.2.2.2⟩) (fun _ => rfl) (Opens.struct Tryz.underlying129 (by kernel_rfl) (OpensF.cons rfl (Opens.string Tryz.underlying9 (by kernel_rfl)) 1 rfl (OpensF.cons rfl (Opens.slice Tryz.underlying127 (by kernel_rfl) 48 (by kernel_rfl) opens193) 2 rfl (OpensF.cons rfl (Opens.int Tryz.underlying3 (by kernel_rfl)) 3 rfl (OpensF.cons rfl (Opens.int Tryz.underlying3 (by kernel_rfl)) 4 rfl (OpensF.one rfl (Opens.int Tryz.underlying3 (by kernel_rfl))))))))
end
section
def wf151 (x : S151) : Prop := wf23 x.f0 ∧ (wf149 x.f1)
set_option maxRecDepth 100000 in
theorem opens151 : Opens Tryz.prog 151 k151 wf151 :=
  Opens.iso (fun x : S151 => (x.f0, x.f1)) (fun y => ⟨y.1, y.2⟩) (fun _ => rfl) (Opens.struct Tryz.underlying151 (by kernel_rfl) (OpensF.cons rfl opens23 2 rfl (OpensF.one rfl opens149)))
end
section
def wf27 (x : S27) : Prop := wf23 x.f0 ∧ ((Lit.int .i64 x.f1).wf = true ∧ (x.f2.size ≤ 140737488351232 ∧ (x.f3.size ≤ 140737488351232 ∧ ((Lit.int .i64 x.f4).wf = true ∧ ((x.f5.length * 32 ≤ 140737488351232 ∧ x.f5.length ≤ maxLen ∧ ∀ y ∈ x.f5, wf151 y) ∧ ((x.f6.length * 64 ≤ 140737488351232 ∧ x.f6.length ≤ maxLen ∧ ∀ y ∈ x.f6, wf129 y)))))))
set_option maxRecDepth 100000 in
theorem opens27 : Opens Tryz.prog 27 k27 wf27 :=
  Opens.iso (fun x : S27 => (x.f0, x.f1, x.f2, x.f3, x.f4, x.f5, x.f6)) (fun y => ⟨y.1, y.2.1, y.2.2.1, y.2.2.2.1, y.2.2.2.2.1, y.2.2.2.2.2.1, y.2.2.2.2.2.2⟩) (fun _ => rfl) (Opens.struct Tryz.underlying27 (by kernel_rfl) (OpensF.cons rfl opens23 2 rfl (OpensF.cons rfl (Opens.int Tryz.underlying3 (by kernel_rfl)) 3 rfl (OpensF.cons rfl (Opens.string Tryz.underlying9 (by kernel_rfl)) 4 rfl (OpensF.cons rfl (Opens.string Tryz.underlying9 (by kernel_rfl)) 5 rfl (OpensF.cons rfl (Opens.int Tryz.underlying3 (by kernel_rfl)) 6 rfl (OpensF.cons rfl (Opens.slice Tryz.underlying24 (by kernel_rfl) 32 (by kernel_rfl) opens151) 7 rfl (OpensF.one rfl (Opens.slice Tryz.underlying25 (by kernel_rfl) 64 (by kernel_rfl) opens129)))))))))
end
section
def wf131 (x : S131) : Prop := x.f0.size ≤ 140737488351232 ∧ (x.f1.size ≤ 140737488351232 ∧ (x.f2.size ≤ 140737488351232 ∧ (x.f3.size ≤ 140737488351232 ∧ ((Lit.int .i64 x.f4).wf = true ∧ ((Lit.int .i64 x.f5).wf = true)))))
set_option maxRecDepth 100000 in
theorem opens131 : Opens Tryz.prog 131 k131 wf131 :=
  Opens.iso (fun x : S131 => (x.f0, x.f1, x.f2, x.f3, x.f4, x.f5)) (fun y => ⟨y.1, y.2.1, y.2.2.1, y.2.2.2.1, y.2.2.2.2.1, y.2.2.2.2.2⟩) (fun _ => rfl) (Opens.struct Tryz.underlying131 (by kernel_rfl) (OpensF.cons rfl (Opens.string Tryz.underlying9 (by kernel_rfl)) 1 rfl (OpensF.cons rfl (Opens.string Tryz.underlying9 (by kernel_rfl)) 2 rfl (OpensF.cons rfl (Opens.string Tryz.underlying9 (by kernel_rfl)) 3 rfl (OpensF.cons rfl (Opens.string Tryz.underlying9 (by kernel_rfl)) 4 rfl (OpensF.cons rfl (Opens.int Tryz.underlying3 (by kernel_rfl)) 5 rfl (OpensF.one rfl (Opens.int Tryz.underlying3 (by kernel_rfl)))))))))
end
section
def wf133 (x : S133) : Prop := (Lit.int .i64 x.f0).wf = true ∧ ((Lit.int .i64 x.f1).wf = true ∧ (x.f2.size ≤ 140737488351232 ∧ ((Lit.int .i64 x.f3).wf = true ∧ ((Lit.int .i64 x.f4).wf = true ∧ ((Lit.int .i64 x.f5).wf = true ∧ ((Lit.int .i64 x.f6).wf = true ∧ ((Lit.int .i64 x.f7).wf = true ∧ ((Lit.int .i64 x.f8).wf = true ∧ ((Lit.int .i64 x.f9).wf = true)))))))))
set_option maxRecDepth 100000 in
theorem opens133 : Opens Tryz.prog 133 k133 wf133 :=
  Opens.iso (fun x : S133 => (x.f0, x.f1, x.f2, x.f3, x.f4, x.f5, x.f6, x.f7, x.f8, x.f9)) (fun y => ⟨y.1, y.2.1, y.2.2.1, y.2.2.2.1, y.2.2.2.2.1, y.2.2.2.2.2.1, y.2.2.2.2.2.2.1, y.2.2.2.2.2.2.2.1, y.2.2.2.2.2.2.2.2.1, y.2.2.2.2.2.2.2.2.2⟩) (fun _ => rfl) (Opens.struct Tryz.underlying133 (by kernel_rfl) (OpensF.cons rfl (Opens.int Tryz.underlying3 (by kernel_rfl)) 1 rfl (OpensF.cons rfl (Opens.int Tryz.underlying3 (by kernel_rfl)) 2 rfl (OpensF.cons rfl (Opens.string Tryz.underlying9 (by kernel_rfl)) 3 rfl (OpensF.cons rfl (Opens.int Tryz.underlying3 (by kernel_rfl)) 4 rfl (OpensF.cons rfl (Opens.int Tryz.underlying3 (by kernel_rfl)) 5 rfl (OpensF.cons rfl (Opens.int Tryz.underlying3 (by kernel_rfl)) 6 rfl (OpensF.cons rfl (Opens.int Tryz.underlying3 (by kernel_rfl)) 7 rfl (OpensF.cons rfl (Opens.int Tryz.underlying3 (by kernel_rfl)) 8 rfl (OpensF.cons rfl (Opens.int Tryz.underlying3 (by kernel_rfl)) 9 rfl (OpensF.one rfl (Opens.int Tryz.underlying3 (by kernel_rfl)))))))))))))
end
section
def wf135 (x : S135) : Prop := x.f0.size ≤ 140737488351232 ∧ ((Lit.int .i64 x.f1).wf = true ∧ ((Lit.int .i64 x.f2).wf = true))
set_option maxRecDepth 100000 in
theorem opens135 : Opens Tryz.prog 135 k135 wf135 :=
  Opens.iso (fun x : S135 => (x.f0, x.f1, x.f2)) (fun y => ⟨y.1, y.2.1, y.2.2⟩) (fun _ => rfl) (Opens.struct Tryz.underlying135 (by kernel_rfl) (OpensF.cons rfl (Opens.string Tryz.underlying9 (by kernel_rfl)) 1 rfl (OpensF.cons rfl (Opens.int Tryz.underlying3 (by kernel_rfl)) 2 rfl (OpensF.one rfl (Opens.int Tryz.underlying3 (by kernel_rfl))))))
end
section
def wf157 (x : S157) : Prop := (Lit.int .i64 x.f0).wf = true ∧ ((Lit.int .i64 x.f1).wf = true ∧ ((Lit.int .i64 x.f2).wf = true ∧ ((Lit.int .i64 x.f3).wf = true ∧ (True))))
set_option maxRecDepth 100000 in
theorem opens157 : Opens Tryz.prog 157 k157 wf157 :=
  Opens.iso (fun x : S157 => (x.f0, x.f1, x.f2, x.f3, x.f4)) (fun y => ⟨y.1, y.2.1, y.2.2.1, y.2.2.2.1, y.2.2.2.2⟩) (fun _ => rfl) (Opens.struct Tryz.underlying157 (by kernel_rfl) (OpensF.cons rfl (Opens.int Tryz.underlying3 (by kernel_rfl)) 1 rfl (OpensF.cons rfl (Opens.int Tryz.underlying3 (by kernel_rfl)) 2 rfl (OpensF.cons rfl (Opens.int Tryz.underlying3 (by kernel_rfl)) 3 rfl (OpensF.cons rfl (Opens.int Tryz.underlying3 (by kernel_rfl)) 4 rfl (OpensF.one rfl (Opens.bool Tryz.underlying4 (by kernel_rfl))))))))
end
section
def wf33 (x : S33) : Prop := (x.f0.length * 80 ≤ 140737488351232 ∧ x.f0.length ≤ maxLen ∧ ∀ y ∈ x.f0, wf131 y) ∧ ((x.f1.length * 88 ≤ 140737488351232 ∧ x.f1.length ≤ maxLen ∧ ∀ y ∈ x.f1, wf133 y) ∧ ((x.f2.length * 32 ≤ 140737488351232 ∧ x.f2.length ≤ maxLen ∧ ∀ y ∈ x.f2, wf135 y) ∧ ((x.f3.length * 40 ≤ 140737488351232 ∧ x.f3.length ≤ maxLen ∧ ∀ y ∈ x.f3, wf157 y) ∧ ((Lit.int .i64 x.f4).wf = true))))
set_option maxRecDepth 100000 in
theorem opens33 : Opens Tryz.prog 33 k33 wf33 :=
  Opens.iso (fun x : S33 => (x.f0, x.f1, x.f2, x.f3, x.f4)) (fun y => ⟨y.1, y.2.1, y.2.2.1, y.2.2.2.1, y.2.2.2.2⟩) (fun _ => rfl) (Opens.struct Tryz.underlying33 (by kernel_rfl) (OpensF.cons rfl (Opens.slice Tryz.underlying28 (by kernel_rfl) 80 (by kernel_rfl) opens131) 1 rfl (OpensF.cons rfl (Opens.slice Tryz.underlying29 (by kernel_rfl) 88 (by kernel_rfl) opens133) 2 rfl (OpensF.cons rfl (Opens.slice Tryz.underlying30 (by kernel_rfl) 32 (by kernel_rfl) opens135) 3 rfl (OpensF.cons rfl (Opens.slice Tryz.underlying31 (by kernel_rfl) 40 (by kernel_rfl) opens157) 4 rfl (OpensF.one rfl (Opens.int Tryz.underlying3 (by kernel_rfl))))))))
end
section
def P_FnExactGuestsOK : Prop := ∀ (a0 : S27) (a1 : S33), wf27 a0 → wf33 a1 → laws_FnExactGuestsOK.f a0.f0.f0 a0.f0.f1 a0.f1 a0.f2 a0.f3 a0.f4 a0.f5 a0.f6 a1.f0 a1.f1 a1.f2 a1.f3 a1.f4 = some true
end
section
-- NEEDS laws.FnExactGuestsOK
theorem pure_FnExactGuestsOK : P_FnExactGuestsOK := by
  intro c q hc hq
  obtain ⟨⟨ip, b⟩, gate, gm, wm, res, g, l⟩ := c
  obtain ⟨us, ss, fs, rs, nx⟩ := q
  have hz : LawG gm wm g l us ss fs rs := by
    have a1 : g.length * 32 ≤ 140737488351232 := hc.2.2.2.2.2.1.1
    have a2 : l.length * 64 ≤ 140737488351232 := hc.2.2.2.2.2.2.1
    have a3 : us.length * 80 ≤ 140737488351232 := hq.1.1
    have a4 : ss.length * 88 ≤ 140737488351232 := hq.2.1.1
    have a5 : fs.length * 32 ≤ 140737488351232 := hq.2.2.1.1
    have a6 : rs.length * 40 ≤ 140737488351232 := hq.2.2.2.1.1
    refine ⟨hc.2.2.1, hc.2.2.2.1, by omega, by omega, fun y hy => ?_, by omega, fun y hy => ?_, by omega, fun y hy => ?_, by omega, fun y hy => ?_, by omega⟩
    · have q := hc.2.2.2.2.2.2.2.2 y hy
      have q1 : y.f1.length * 48 ≤ 140737488351232 := q.2.1.1
      exact ⟨q.1, by omega⟩
    · have q := hq.1.2.2 y hy
      exact ⟨q.1, q.2.1, q.2.2.1, q.2.2.2.1⟩
    · exact (hq.2.1.2.2 y hy).2.2.1
    · exact (hq.2.2.1.2.2 y hy).1
  dsimp only
  rw [laws_FnExactGuestsOK.f, if_pos hz]
end
section
-- IMPORT Derived.Test.YtkklokkldgkacaaGreatRows
-- IMPORT Derived.WalkKit
-- IMPORT Derived.ProofKit
-- IMPORT Derived.OpenShut
-- IMPORT Derived.ShutString
-- IMPORT Derived.ChangeOld
-- IMPORT Derived.Below
-- IMPORT Derived.SizedLaws
open Go.ChangeShapes Go.WideShapes Go.ChangeAt
open Go.ChangeMaps (open_string shut_string)
theorem own_FnExactGuestsOK : ownKnob Tryz.prog.godebug = none := by kernel_rfl
theorem laidOut_FnExactGuestsOK : laidOutB Tryz.prog = true := by kernel_rfl
set_option maxHeartbeats 4000000 in
set_option maxRecDepth 100000 in
theorem lifted_FnExactGuestsOK (os : Os) (started : os.Started) (H : Type) (enc : TypeId × Value → H) :
    ReturnsInHanded {} Tryz.checked os 3 .any (Rows.fnExactGuestsOKSpec.pre6 enc Tryz.prog Tryz.f3 Rows.fnExactGuestsOKRow.domain false) (Rows.fnExactGuestsOKSpec.post enc Tryz.prog Tryz.f3 false true false false) := by
  refine returnsInHanded_of_change_sized (C := Tryz.checked) own_FnExactGuestsOK started (by kernel_rfl) Tryz.func3
    (ChangeSpec.witness6 (enc := enc) (C := Tryz.checked) false ⟨#[], #[.agg #[.int .i64 0, .int .i64 0, .int .i64 0, .string ByteArray.empty, .string ByteArray.empty, .int .i64 0, .slice none 0 0, .slice none 0 0], .agg #[.slice none 0 0, .slice none 0 0, .slice none 0 0, .slice none 0 0, .int .i64 0]], []⟩ 8 (by kernel_rfl) (by kernel_rfl) (by kernel_rfl) (by kernel_rfl)) ?_
  intro W base args ds gs before hval0 hW hcnd hsz0 _
  have hsz : (DataW.weightsEach Tryz.prog (Tryz.f3.params.toList ++ Rows.fnExactGuestsOKSpec.plain.varTypes Tryz.prog) (ds ++ gs)).all (· ≤ reachBytes) = true := hsz0
  have hval : ∀ (j : Nat) t v, Tryz.f3.params[j]? = some t → args[j]? = some v → Value.okWide Tryz.prog W .any base t v := hval0
  have hW' := hW
  obtain ⟨p, q, hA0, hV, rfl, hfz, hnd⟩ := hW
  have hA : DataW.TrodAll enc Tryz.prog W 0 (fun _ => true) true Tryz.f3.params.toList args.toList ds p := hA0
  rw [Tryz.params3] at hA hval hsz
  obtain ⟨v0, vs0, d0, ds0, p0, q0, hargs, rfl, rfl, h0, r0⟩ := trodAll_cons hA
  obtain ⟨v1, vs1, d1, ds1, p1, q1, rfl, rfl, rfl, h1, r1⟩ := trodAll_cons r0
  obtain ⟨rfl, rfl, rfl⟩ := trodAll_nil r1
  obtain rfl : args = #[v0, v1] := by cases args; simp_all
  obtain ⟨rfl, rfl⟩ := trodVars_none hV
  have k0 := h0
  have lt0 : ∀ x ∈ p0, x.block < W.heap.size := by obtain ⟨m, hm⟩ := k0; exact DataW.trod_lt m _ _ _ hm
  obtain ⟨cs0, rfl, _⟩ := okWide_struct Tryz.underlying27 (hval 0 27 v0 rfl rfl)
  obtain ⟨fuel0, hf0⟩ := h0
  obtain ⟨a0, kx0, w0⟩ := opens27.op hf0 (fun n hn => by have z := List.all_eq_true.1 hsz _ (DataW.weights_mem_each (j := 0) (t := 27) rfl rfl n hn); simpa using z)
  obtain ⟨A0_6, c0_6, A0_7, c0_7, e0, hl0_6, hc0_6, hl0_7, hc0_7⟩ := k27_open kx0
  obtain rfl : cs0 = #[.int .i64 a0.f0.f0, .int .i64 a0.f0.f1, .int .i64 a0.f1, .string a0.f2, .string a0.f3, .int .i64 a0.f4, .slice A0_6 a0.f5.length c0_6, .slice A0_7 a0.f6.length c0_7] := Array.toList_inj.1 e0
  have k1 := h1
  have lt1 : ∀ x ∈ p1, x.block < W.heap.size := by obtain ⟨m, hm⟩ := k1; exact DataW.trod_lt m _ _ _ hm
  obtain ⟨cs1, rfl, _⟩ := okWide_struct Tryz.underlying33 (hval 1 33 v1 rfl rfl)
  obtain ⟨fuel1, hf1⟩ := h1
  obtain ⟨a1, kx1, w1⟩ := opens33.op hf1 (fun n hn => by have z := List.all_eq_true.1 hsz _ (DataW.weights_mem_each (j := 1) (t := 33) rfl rfl n hn); simpa using z)
  obtain ⟨A1_0, c1_0, A1_1, c1_1, A1_2, c1_2, A1_3, c1_3, e1, hl1_0, hc1_0, hl1_1, hc1_1, hl1_2, hc1_2, hl1_3, hc1_3⟩ := k33_open kx1
  obtain rfl : cs1 = #[.slice A1_0 a1.f0.length c1_0, .slice A1_1 a1.f1.length c1_1, .slice A1_2 a1.f2.length c1_2, .slice A1_3 a1.f3.length c1_3, .int .i64 a1.f4] := Array.toList_inj.1 e1
  clear hA0 hval0 hsz0 hsz
  have hk := pure_FnExactGuestsOK a0 a1 w0 w1
  refine (laws_FnExactGuestsOK.calls a0.f0.f0 a0.f0.f1 a0.f1 a0.f2 a0.f3 a0.f4 _ _ a0.f5 _ _ a0.f6 _ _ a1.f0 _ _ a1.f1 _ _ a1.f2 _ _ a1.f3 a1.f4 true W hc0_6 hl0_6 hc0_7 hl0_7 hc1_0 hl1_0 hc1_1 hl1_1 hc1_2 hl1_2 hc1_3 hl1_3 hk).mono fun e W' hh => ?_
  obtain ⟨he, bel0⟩ := hh
  have bel : Below W.heap.size W W' := bel0
  subst he
  exact ⟨_, rfl, _, _, _, [], _, [], hW', trodAll_mk1 (shut_bool Tryz.underlying4 _), (trodAll_cons_mk (Below.trod laidOut_FnExactGuestsOK (by kernel_rfl) (of_decide_eq_true (by kernel_rfl)) k0 bel lt0) (trodAll_cons_mk (Below.trod laidOut_FnExactGuestsOK (by kernel_rfl) (of_decide_eq_true (by kernel_rfl)) k1 bel lt1) trodAll_mk0)), rfl, bel.frame _, fun h => by cases h⟩
theorem over_FnExactGuestsOK : Rows.fnExactGuestsOKRow.holds Tryz.pinned (OpenSpec.ofChange Rows.fnExactGuestsOKSpec) :=
  OpenClaim.holds_of_wide 3 Tryz.f3 rfl rfl rfl rfl rfl rfl rfl ⟨rfl, rfl, rfl, rfl, rfl⟩ rfl rfl rfl rfl rfl (by kernel_rfl) Tryz.func3 (by kernel_rfl)
    (of_decide_eq_true (by kernel_rfl)) (by unfold Func.isWrapper; first | (rw [if_pos (by decide +kernel)]; kernel_rfl) | (rw [if_neg (by decide +kernel)]; exact ⟨rfl, rfl⟩))
    (fun os started H enc _ => lifted_FnExactGuestsOK os started H enc)
theorem proved_FnExactGuestsOK : Rows.FnExactGuestsOKSaid := over_FnExactGuestsOK
#print axioms proved_FnExactGuestsOK
end
end Go.Proofs.YtkklokkldgkacaaGreat.X
