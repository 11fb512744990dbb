/- Texts that the row of FnExactGuestsOK stands on: functions of the program and of the reference, each as a Lean function with the same answers, and the plain lemmas. Conditions: none beside those that each theorem names. -/
import Derived.Test.YtkklokkldgkacaaGreatCFnExactGuestsOK0
namespace Go.Proofs.YtkklokkldgkacaaGreat.X
open Go.RowKit Go.Proofs.YtkklokkldgkacaaGreatW.PrintWords Go.Proofs.YtkklokkldgkacaaGreatW.PrintLast Go.Proofs.YtkklokkldgkacaaGreatW.PrintMore
attribute [local go_sem] max2_int min2_int max_two min_two max_three min_three max_four min_four   -- for this text's walks alone
set_option linter.unusedVariables false
set_option linter.unusedSimpArgs false
section
def errW : Option Int → Value
  | none => .nilIface
  | some c => .iface 0 (.int .i64 c)
theorem ne_nil_b (l : List UInt8) : (l != []) = !l.isEmpty := by cases l <;> rfl

theorem info76 : (Tryz.prog.info? 76).map (fun i => (i.zero, i.size, i.bytes)) = some (some (.agg #[(.int .i64 0), (.int .i64 0), (.string ⟨#[]⟩), (.int .i64 0), (.int .i64 0), (.int .i64 0), (.int .i64 0), (.int .i64 0), (.int .i64 0), (.int .i64 0)]), 10, 88) := by kernel_rfl
theorem info81 : (Tryz.prog.info? 81).map (fun i => (i.zero, i.size, i.bytes)) = some (some (.agg #[(.string ⟨#[]⟩), (.int .i64 0), (.int .i64 0)]), 3, 32) := by kernel_rfl
theorem info83 : (Tryz.prog.info? 83).map (fun i => (i.zero, i.size, i.bytes)) = some (some (.agg #[(.int .i64 0), (.int .i64 0), (.int .i64 0), (.int .i64 0), (.bool false)]), 5, 40) := by kernel_rfl
theorem info92 : (Tryz.prog.info? 92).map (fun i => (i.zero, i.size, i.bytes)) = some (some (.agg #[(.string ⟨#[]⟩), (.string ⟨#[]⟩), (.string ⟨#[]⟩), (.string ⟨#[]⟩), (.int .i64 0), (.int .i64 0)]), 6, 80) := by kernel_rfl
theorem info140 : (Tryz.prog.info? 140).map (fun i => (i.zero, i.size, i.bytes)) = some (some (.agg #[(.int .i64 0), (.int .i64 0), (.int .i64 0), (.int .i64 0)]), 4, 32) := by kernel_rfl
theorem info145 : (Tryz.prog.info? 145).map (fun i => (i.zero, i.size, i.bytes)) = some (some (.agg #[(.string ⟨#[]⟩), (.slice none 0 0), (.int .i64 0), (.int .i64 0), (.int .i64 0)]), 5, 64) := by kernel_rfl
theorem info183 : (Tryz.prog.info? 183).map (fun i => (i.zero, i.size, i.bytes)) = some (some (.agg #[(.int .i64 0), (.int .i64 0), (.int .i64 0), (.int .i64 0), (.int .i64 0), (.bool false)]), 6, 48) := by kernel_rfl
/-! #### struct type 23 -/
structure S23 where
  f0 : Int
  f1 : Int
def z23 : S23 := ⟨(0 : Int), (0 : Int)⟩
def k23 : Kd S23 := Kd.iso (Kd.pair (Kd.int .i64) (Kd.int .i64)) (fun x : S23 => (x.f0, x.f1))
theorem k23_open {w : World} {x : S23} {cs : List Value} (h : k23.K w x cs) : cs = [.int .i64 x.f0, .int .i64 x.f1] := by
  obtain ⟨_, _, rfl, rfl, rfl⟩ := h
  exact rfl
def rd_T23 (xs : List S23) (i : Int) : S23 := xs.getD i.toNat z23
/-! #### struct type 149 -/
structure S149 where
  f0 : Int
  f1 : Int
def z149 : S149 := ⟨(0 : Int), (0 : Int)⟩
def k149 : Kd S149 := Kd.iso (Kd.pair (Kd.int .i64) (Kd.int .i64)) (fun x : S149 => (x.f0, x.f1))
theorem k149_open {w : World} {x : S149} {cs : List Value} (h : k149.K w x cs) : cs = [.int .i64 x.f0, .int .i64 x.f1] := by
  obtain ⟨_, _, rfl, rfl, rfl⟩ := h
  exact rfl
def rd_T149 (xs : List S149) (i : Int) : S149 := xs.getD i.toNat z149
/-! #### struct type 151 -/
structure S151 where
  f0 : S23
  f1 : S149
def z151 : S151 := ⟨z23, z149⟩
def k151 : Kd S151 := Kd.iso (Kd.pair k23 k149) (fun x : S151 => (x.f0, x.f1))
theorem k151_open {w : World} {x : S151} {cs : List Value} (h : k151.K w x cs) : cs = [.int .i64 x.f0.f0, .int .i64 x.f0.f1, .int .i64 x.f1.f0, .int .i64 x.f1.f1] := by
  obtain ⟨_, _, rfl, s0, s2⟩ := h
  obtain rfl := k23_open s0
  obtain rfl := k149_open s2
  exact rfl
def rd_T151 (xs : List S151) (i : Int) : S151 := xs.getD i.toNat z151
theorem at_T151 {w : World} {A : Option Addr} {n : Nat} {xs : List S151} (h : Kd.C k151 w A n xs) (i : Int) (h0 : 0 ≤ i) (h1 : i < n) : ∃ ad , A = some ad ∧ w.cell? (ad.add (i.toNat * 4)) = some (.int .i64 (rd_T151 xs i).f0.f0) ∧ w.cell? ⟨(ad.add (i.toNat * 4)).block, (ad.add (i.toNat * 4)).off + 1, none⟩ = some (.int .i64 (rd_T151 xs i).f0.f1) ∧ w.cell? ⟨(ad.add (i.toNat * 4)).block, (ad.add (i.toNat * 4)).off + 2, none⟩ = some (.int .i64 (rd_T151 xs i).f1.f0) ∧ w.cell? ⟨(ad.add (i.toNat * 4)).block, (ad.add (i.toNat * 4)).off + 3, none⟩ = some (.int .i64 (rd_T151 xs i).f1.f1) := by
  obtain ⟨ad, c, e, _, hK, hc0⟩ := Kd.C_get h z151 i h0 h1
  have hc : ∀ j u, c[j]? = some u → w.cell? (ad.add (i.toNat * 4 + j)) = some u := hc0
  obtain rfl := k151_open hK
  exact ⟨ad, e, hc 0 _ rfl, by rw [← add_field _ _ 1 (by omega)]; exact hc 1 _ rfl, by rw [← add_field _ _ 2 (by omega)]; exact hc 2 _ rfl, by rw [← add_field _ _ 3 (by omega)]; exact hc 3 _ rfl⟩

/-! #### struct type 193 -/
structure S193 where
  f0 : Int
  f1 : S23
  f2 : S149
  f3 : Bool
def z193 : S193 := ⟨(0 : Int), z23, z149, false⟩
def k193 : Kd S193 := Kd.iso (Kd.pair (Kd.int .i64) (Kd.pair k23 (Kd.pair k149 Kd.bool))) (fun x : S193 => (x.f0, x.f1, x.f2, x.f3))
theorem k193_open {w : World} {x : S193} {cs : List Value} (h : k193.K w x cs) : cs = [.int .i64 x.f0, .int .i64 x.f1.f0, .int .i64 x.f1.f1, .int .i64 x.f2.f0, .int .i64 x.f2.f1, .bool x.f3] := by
  obtain ⟨_, _, rfl, rfl, ⟨_, _, rfl, s1, ⟨_, _, rfl, s3, rfl⟩⟩⟩ := h
  obtain rfl := k23_open s1
  obtain rfl := k149_open s3
  exact rfl
def rd_T193 (xs : List S193) (i : Int) : S193 := xs.getD i.toNat z193
theorem at_T193 {w : World} {A : Option Addr} {n : Nat} {xs : List S193} (h : Kd.C k193 w A n xs) (i : Int) (h0 : 0 ≤ i) (h1 : i < n) : ∃ ad , A = some ad ∧ w.cell? (ad.add (i.toNat * 6)) = some (.int .i64 (rd_T193 xs i).f0) ∧ w.cell? ⟨(ad.add (i.toNat * 6)).block, (ad.add (i.toNat * 6)).off + 1, none⟩ = some (.int .i64 (rd_T193 xs i).f1.f0) ∧ w.cell? ⟨(ad.add (i.toNat * 6)).block, (ad.add (i.toNat * 6)).off + 2, none⟩ = some (.int .i64 (rd_T193 xs i).f1.f1) ∧ w.cell? ⟨(ad.add (i.toNat * 6)).block, (ad.add (i.toNat * 6)).off + 3, none⟩ = some (.int .i64 (rd_T193 xs i).f2.f0) ∧ w.cell? ⟨(ad.add (i.toNat * 6)).block, (ad.add (i.toNat * 6)).off + 4, none⟩ = some (.int .i64 (rd_T193 xs i).f2.f1) ∧ w.cell? ⟨(ad.add (i.toNat * 6)).block, (ad.add (i.toNat * 6)).off + 5, none⟩ = some (.bool (rd_T193 xs i).f3) := by
  obtain ⟨ad, c, e, _, hK, hc0⟩ := Kd.C_get h z193 i h0 h1
  have hc : ∀ j u, c[j]? = some u → w.cell? (ad.add (i.toNat * 6 + j)) = some u := hc0
  obtain rfl := k193_open hK
  exact ⟨ad, e, hc 0 _ rfl, by rw [← add_field _ _ 1 (by omega)]; exact hc 1 _ rfl, by rw [← add_field _ _ 2 (by omega)]; exact hc 2 _ rfl, by rw [← add_field _ _ 3 (by omega)]; exact hc 3 _ rfl, by rw [← add_field _ _ 4 (by omega)]; exact hc 4 _ rfl, by rw [← add_field _ _ 5 (by omega)]; exact hc 5 _ rfl⟩

def rd_L7 (xs : List (List S193)) (i : Int) : (List S193) := xs.getD i.toNat ([] : List S193)
/-! #### struct type 129 -/
structure S129 where
  f0 : ByteArray
  f1 : (List S193)
  f2 : Int
  f3 : Int
  f4 : Int
def z129 : S129 := ⟨(⟨#[]⟩ : ByteArray), ([] : List S193), (0 : Int), (0 : Int), (0 : Int)⟩
def k129 : Kd S129 := Kd.iso (Kd.pair Kd.string (Kd.pair (Kd.slice 193 k193) (Kd.pair (Kd.int .i64) (Kd.pair (Kd.int .i64) (Kd.int .i64))))) (fun x : S129 => (x.f0, x.f1, x.f2, x.f3, x.f4))
theorem k129_open {w : World} {x : S129} {cs : List Value} (h : k129.K w x cs) : ∃ A1 c1, cs = [.string x.f0, .slice A1 x.f1.length c1, .int .i64 x.f2, .int .i64 x.f3, .int .i64 x.f4] ∧ x.f1.length ≤ c1 ∧ k193.C w A1 x.f1.length x.f1 := by
  obtain ⟨_, _, rfl, rfl, ⟨_, _, rfl, ⟨A1, c1, rfl, l1, g1⟩, ⟨_, _, rfl, rfl, ⟨_, _, rfl, rfl, rfl⟩⟩⟩⟩ := h
  exact ⟨A1, c1, rfl, l1, g1⟩
def rd_T129 (xs : List S129) (i : Int) : S129 := xs.getD i.toNat z129
theorem at_T129 {w : World} {A : Option Addr} {n : Nat} {xs : List S129} (h : Kd.C k129 w A n xs) (i : Int) (h0 : 0 ≤ i) (h1 : i < n) : ∃ ad A1 c1, A = some ad ∧ w.cell? (ad.add (i.toNat * 5)) = some (.string (rd_T129 xs i).f0) ∧ w.cell? ⟨(ad.add (i.toNat * 5)).block, (ad.add (i.toNat * 5)).off + 1, none⟩ = some (.slice A1 (rd_T129 xs i).f1.length c1) ∧ w.cell? ⟨(ad.add (i.toNat * 5)).block, (ad.add (i.toNat * 5)).off + 2, none⟩ = some (.int .i64 (rd_T129 xs i).f2) ∧ w.cell? ⟨(ad.add (i.toNat * 5)).block, (ad.add (i.toNat * 5)).off + 3, none⟩ = some (.int .i64 (rd_T129 xs i).f3) ∧ w.cell? ⟨(ad.add (i.toNat * 5)).block, (ad.add (i.toNat * 5)).off + 4, none⟩ = some (.int .i64 (rd_T129 xs i).f4) ∧ (rd_T129 xs i).f1.length ≤ c1 ∧ k193.C w A1 (rd_T129 xs i).f1.length (rd_T129 xs i).f1 := by
  obtain ⟨ad, c, e, _, hK, hc0⟩ := Kd.C_get h z129 i h0 h1
  have hc : ∀ j u, c[j]? = some u → w.cell? (ad.add (i.toNat * 5 + j)) = some u := hc0
  obtain ⟨A1, c1, rfl, l1, g1⟩ := k129_open hK
  exact ⟨ad, A1, c1, e, hc 0 _ rfl, by rw [← add_field _ _ 1 (by omega)]; exact hc 1 _ rfl, by rw [← add_field _ _ 2 (by omega)]; exact hc 2 _ rfl, by rw [← add_field _ _ 3 (by omega)]; exact hc 3 _ rfl, by rw [← add_field _ _ 4 (by omega)]; exact hc 4 _ rfl, l1, g1⟩

/-! #### struct type 131 -/
structure S131 where
  f0 : ByteArray
  f1 : ByteArray
  f2 : ByteArray
  f3 : ByteArray
  f4 : Int
  f5 : Int
def z131 : S131 := ⟨(⟨#[]⟩ : ByteArray), (⟨#[]⟩ : ByteArray), (⟨#[]⟩ : ByteArray), (⟨#[]⟩ : ByteArray), (0 : Int), (0 : Int)⟩
def k131 : Kd S131 := Kd.iso (Kd.pair Kd.string (Kd.pair Kd.string (Kd.pair Kd.string (Kd.pair Kd.string (Kd.pair (Kd.int .i64) (Kd.int .i64)))))) (fun x : S131 => (x.f0, x.f1, x.f2, x.f3, x.f4, x.f5))
theorem k131_open {w : World} {x : S131} {cs : List Value} (h : k131.K w x cs) : cs = [.string x.f0, .string x.f1, .string x.f2, .string x.f3, .int .i64 x.f4, .int .i64 x.f5] := by
  obtain ⟨_, _, rfl, rfl, ⟨_, _, rfl, rfl, ⟨_, _, rfl, rfl, ⟨_, _, rfl, rfl, ⟨_, _, rfl, rfl, rfl⟩⟩⟩⟩⟩ := h
  exact rfl
def rd_T131 (xs : List S131) (i : Int) : S131 := xs.getD i.toNat z131
theorem at_T131 {w : World} {A : Option Addr} {n : Nat} {xs : List S131} (h : Kd.C k131 w A n xs) (i : Int) (h0 : 0 ≤ i) (h1 : i < n) : ∃ ad , A = some ad ∧ w.cell? (ad.add (i.toNat * 6)) = some (.string (rd_T131 xs i).f0) ∧ w.cell? ⟨(ad.add (i.toNat * 6)).block, (ad.add (i.toNat * 6)).off + 1, none⟩ = some (.string (rd_T131 xs i).f1) ∧ w.cell? ⟨(ad.add (i.toNat * 6)).block, (ad.add (i.toNat * 6)).off + 2, none⟩ = some (.string (rd_T131 xs i).f2) ∧ w.cell? ⟨(ad.add (i.toNat * 6)).block, (ad.add (i.toNat * 6)).off + 3, none⟩ = some (.string (rd_T131 xs i).f3) ∧ w.cell? ⟨(ad.add (i.toNat * 6)).block, (ad.add (i.toNat * 6)).off + 4, none⟩ = some (.int .i64 (rd_T131 xs i).f4) ∧ w.cell? ⟨(ad.add (i.toNat * 6)).block, (ad.add (i.toNat * 6)).off + 5, none⟩ = some (.int .i64 (rd_T131 xs i).f5) := by
  obtain ⟨ad, c, e, _, hK, hc0⟩ := Kd.C_get h z131 i h0 h1
  have hc : ∀ j u, c[j]? = some u → w.cell? (ad.add (i.toNat * 6 + j)) = some u := hc0
  obtain rfl := k131_open hK
  exact ⟨ad, e, hc 0 _ rfl, by rw [← add_field _ _ 1 (by omega)]; exact hc 1 _ rfl, by rw [← add_field _ _ 2 (by omega)]; exact hc 2 _ rfl, by rw [← add_field _ _ 3 (by omega)]; exact hc 3 _ rfl, by rw [← add_field _ _ 4 (by omega)]; exact hc 4 _ rfl, by rw [← add_field _ _ 5 (by omega)]; exact hc 5 _ rfl⟩

/-! #### struct type 133 -/
structure S133 where
  f0 : Int
  f1 : Int
  f2 : ByteArray
  f3 : Int
  f4 : Int
  f5 : Int
  f6 : Int
  f7 : Int
  f8 : Int
  f9 : Int
def z133 : S133 := ⟨(0 : Int), (0 : Int), (⟨#[]⟩ : ByteArray), (0 : Int), (0 : Int), (0 : Int), (0 : Int), (0 : Int), (0 : Int), (0 : Int)⟩
def k133 : Kd S133 := Kd.iso (Kd.pair (Kd.int .i64) (Kd.pair (Kd.int .i64) (Kd.pair Kd.string (Kd.pair (Kd.int .i64) (Kd.pair (Kd.int .i64) (Kd.pair (Kd.int .i64) (Kd.pair (Kd.int .i64) (Kd.pair (Kd.int .i64) (Kd.pair (Kd.int .i64) (Kd.int .i64)))))))))) (fun x : S133 => (x.f0, x.f1, x.f2, x.f3, x.f4, x.f5, x.f6, x.f7, x.f8, x.f9))
theorem k133_open {w : World} {x : S133} {cs : List Value} (h : k133.K w x cs) : cs = [.int .i64 x.f0, .int .i64 x.f1, .string x.f2, .int .i64 x.f3, .int .i64 x.f4, .int .i64 x.f5, .int .i64 x.f6, .int .i64 x.f7, .int .i64 x.f8, .int .i64 x.f9] := by
  obtain ⟨_, _, rfl, rfl, ⟨_, _, rfl, rfl, ⟨_, _, rfl, rfl, ⟨_, _, rfl, rfl, ⟨_, _, rfl, rfl, ⟨_, _, rfl, rfl, ⟨_, _, rfl, rfl, ⟨_, _, rfl, rfl, ⟨_, _, rfl, rfl, rfl⟩⟩⟩⟩⟩⟩⟩⟩⟩ := h
  exact rfl
def rd_T133 (xs : List S133) (i : Int) : S133 := xs.getD i.toNat z133
theorem at_T133 {w : World} {A : Option Addr} {n : Nat} {xs : List S133} (h : Kd.C k133 w A n xs) (i : Int) (h0 : 0 ≤ i) (h1 : i < n) : ∃ ad , A = some ad ∧ w.cell? (ad.add (i.toNat * 10)) = some (.int .i64 (rd_T133 xs i).f0) ∧ w.cell? ⟨(ad.add (i.toNat * 10)).block, (ad.add (i.toNat * 10)).off + 1, none⟩ = some (.int .i64 (rd_T133 xs i).f1) ∧ w.cell? ⟨(ad.add (i.toNat * 10)).block, (ad.add (i.toNat * 10)).off + 2, none⟩ = some (.string (rd_T133 xs i).f2) ∧ w.cell? ⟨(ad.add (i.toNat * 10)).block, (ad.add (i.toNat * 10)).off + 3, none⟩ = some (.int .i64 (rd_T133 xs i).f3) ∧ w.cell? ⟨(ad.add (i.toNat * 10)).block, (ad.add (i.toNat * 10)).off + 4, none⟩ = some (.int .i64 (rd_T133 xs i).f4) ∧ w.cell? ⟨(ad.add (i.toNat * 10)).block, (ad.add (i.toNat * 10)).off + 5, none⟩ = some (.int .i64 (rd_T133 xs i).f5) ∧ w.cell? ⟨(ad.add (i.toNat * 10)).block, (ad.add (i.toNat * 10)).off + 6, none⟩ = some (.int .i64 (rd_T133 xs i).f6) ∧ w.cell? ⟨(ad.add (i.toNat * 10)).block, (ad.add (i.toNat * 10)).off + 7, none⟩ = some (.int .i64 (rd_T133 xs i).f7) ∧ w.cell? ⟨(ad.add (i.toNat * 10)).block, (ad.add (i.toNat * 10)).off + 8, none⟩ = some (.int .i64 (rd_T133 xs i).f8) ∧ w.cell? ⟨(ad.add (i.toNat * 10)).block, (ad.add (i.toNat * 10)).off + 9, none⟩ = some (.int .i64 (rd_T133 xs i).f9) := by
  obtain ⟨ad, c, e, _, hK, hc0⟩ := Kd.C_get h z133 i h0 h1
  have hc : ∀ j u, c[j]? = some u → w.cell? (ad.add (i.toNat * 10 + j)) = some u := hc0
  obtain rfl := k133_open hK
  exact ⟨ad, e, hc 0 _ rfl, by rw [← add_field _ _ 1 (by omega)]; exact hc 1 _ rfl, by rw [← add_field _ _ 2 (by omega)]; exact hc 2 _ rfl, by rw [← add_field _ _ 3 (by omega)]; exact hc 3 _ rfl, by rw [← add_field _ _ 4 (by omega)]; exact hc 4 _ rfl, by rw [← add_field _ _ 5 (by omega)]; exact hc 5 _ rfl, by rw [← add_field _ _ 6 (by omega)]; exact hc 6 _ rfl, by rw [← add_field _ _ 7 (by omega)]; exact hc 7 _ rfl, by rw [← add_field _ _ 8 (by omega)]; exact hc 8 _ rfl, by rw [← add_field _ _ 9 (by omega)]; exact hc 9 _ rfl⟩

/-! #### struct type 135 -/
structure S135 where
  f0 : ByteArray
  f1 : Int
  f2 : Int
def z135 : S135 := ⟨(⟨#[]⟩ : ByteArray), (0 : Int), (0 : Int)⟩
def k135 : Kd S135 := Kd.iso (Kd.pair Kd.string (Kd.pair (Kd.int .i64) (Kd.int .i64))) (fun x : S135 => (x.f0, x.f1, x.f2))
theorem k135_open {w : World} {x : S135} {cs : List Value} (h : k135.K w x cs) : cs = [.string x.f0, .int .i64 x.f1, .int .i64 x.f2] := by
  obtain ⟨_, _, rfl, rfl, ⟨_, _, rfl, rfl, rfl⟩⟩ := h
  exact rfl
def rd_T135 (xs : List S135) (i : Int) : S135 := xs.getD i.toNat z135
theorem at_T135 {w : World} {A : Option Addr} {n : Nat} {xs : List S135} (h : Kd.C k135 w A n xs) (i : Int) (h0 : 0 ≤ i) (h1 : i < n) : ∃ ad , A = some ad ∧ w.cell? (ad.add (i.toNat * 3)) = some (.string (rd_T135 xs i).f0) ∧ w.cell? ⟨(ad.add (i.toNat * 3)).block, (ad.add (i.toNat * 3)).off + 1, none⟩ = some (.int .i64 (rd_T135 xs i).f1) ∧ w.cell? ⟨(ad.add (i.toNat * 3)).block, (ad.add (i.toNat * 3)).off + 2, none⟩ = some (.int .i64 (rd_T135 xs i).f2) := by
  obtain ⟨ad, c, e, _, hK, hc0⟩ := Kd.C_get h z135 i h0 h1
  have hc : ∀ j u, c[j]? = some u → w.cell? (ad.add (i.toNat * 3 + j)) = some u := hc0
  obtain rfl := k135_open hK
  exact ⟨ad, e, hc 0 _ rfl, by rw [← add_field _ _ 1 (by omega)]; exact hc 1 _ rfl, by rw [← add_field _ _ 2 (by omega)]; exact hc 2 _ rfl⟩

/-! #### struct type 157 -/
structure S157 where
  f0 : Int
  f1 : Int
  f2 : Int
  f3 : Int
  f4 : Bool
def z157 : S157 := ⟨(0 : Int), (0 : Int), (0 : Int), (0 : Int), false⟩
def k157 : Kd S157 := Kd.iso (Kd.pair (Kd.int .i64) (Kd.pair (Kd.int .i64) (Kd.pair (Kd.int .i64) (Kd.pair (Kd.int .i64) Kd.bool)))) (fun x : S157 => (x.f0, x.f1, x.f2, x.f3, x.f4))
theorem k157_open {w : World} {x : S157} {cs : List Value} (h : k157.K w x cs) : cs = [.int .i64 x.f0, .int .i64 x.f1, .int .i64 x.f2, .int .i64 x.f3, .bool x.f4] := by
  obtain ⟨_, _, rfl, rfl, ⟨_, _, rfl, rfl, ⟨_, _, rfl, rfl, ⟨_, _, rfl, rfl, rfl⟩⟩⟩⟩ := h
  exact rfl
def rd_T157 (xs : List S157) (i : Int) : S157 := xs.getD i.toNat z157
theorem at_T157 {w : World} {A : Option Addr} {n : Nat} {xs : List S157} (h : Kd.C k157 w A n xs) (i : Int) (h0 : 0 ≤ i) (h1 : i < n) : ∃ ad , A = some ad ∧ w.cell? (ad.add (i.toNat * 5)) = some (.int .i64 (rd_T157 xs i).f0) ∧ w.cell? ⟨(ad.add (i.toNat * 5)).block, (ad.add (i.toNat * 5)).off + 1, none⟩ = some (.int .i64 (rd_T157 xs i).f1) ∧ w.cell? ⟨(ad.add (i.toNat * 5)).block, (ad.add (i.toNat * 5)).off + 2, none⟩ = some (.int .i64 (rd_T157 xs i).f2) ∧ w.cell? ⟨(ad.add (i.toNat * 5)).block, (ad.add (i.toNat * 5)).off + 3, none⟩ = some (.int .i64 (rd_T157 xs i).f3) ∧ w.cell? ⟨(ad.add (i.toNat * 5)).block, (ad.add (i.toNat * 5)).off + 4, none⟩ = some (.bool (rd_T157 xs i).f4) := by
  obtain ⟨ad, c, e, _, hK, hc0⟩ := Kd.C_get h z157 i h0 h1
  have hc : ∀ j u, c[j]? = some u → w.cell? (ad.add (i.toNat * 5 + j)) = some u := hc0
  obtain rfl := k157_open hK
  exact ⟨ad, e, hc 0 _ rfl, by rw [← add_field _ _ 1 (by omega)]; exact hc 1 _ rfl, by rw [← add_field _ _ 2 (by omega)]; exact hc 2 _ rfl, by rw [← add_field _ _ 3 (by omega)]; exact hc 3 _ rfl, by rw [← add_field _ _ 4 (by omega)]; exact hc 4 _ rfl⟩

/-! #### struct type 37 -/
structure S37 where
  f0 : Int
  f1 : Int
def z37 : S37 := ⟨(0 : Int), (0 : Int)⟩
def k37 : Kd S37 := Kd.iso (Kd.pair (Kd.int .i64) (Kd.int .i64)) (fun x : S37 => (x.f0, x.f1))
theorem k37_open {w : World} {x : S37} {cs : List Value} (h : k37.K w x cs) : cs = [.int .i64 x.f0, .int .i64 x.f1] := by
  obtain ⟨_, _, rfl, rfl, rfl⟩ := h
  exact rfl
theorem k37_mkM (w : World) (base : Nat) (ok : Nat → Prop) (x : S37)  : k37.M w base ok x [.int .i64 x.f0, .int .i64 x.f1] := ⟨[.int .i64 x.f0], [.int .i64 x.f1], rfl, rfl, rfl⟩
def rd_T37 (xs : List S37) (i : Int) : S37 := xs.getD i.toNat z37
/-! #### struct type 138 -/
structure S138 where
  f0 : Int
  f1 : Int
def z138 : S138 := ⟨(0 : Int), (0 : Int)⟩
def k138 : Kd S138 := Kd.iso (Kd.pair (Kd.int .i64) (Kd.int .i64)) (fun x : S138 => (x.f0, x.f1))
theorem k138_open {w : World} {x : S138} {cs : List Value} (h : k138.K w x cs) : cs = [.int .i64 x.f0, .int .i64 x.f1] := by
  obtain ⟨_, _, rfl, rfl, rfl⟩ := h
  exact rfl
theorem k138_mkM (w : World) (base : Nat) (ok : Nat → Prop) (x : S138)  : k138.M w base ok x [.int .i64 x.f0, .int .i64 x.f1] := ⟨[.int .i64 x.f0], [.int .i64 x.f1], rfl, rfl, rfl⟩
def rd_T138 (xs : List S138) (i : Int) : S138 := xs.getD i.toNat z138
/-! #### struct type 183 -/
structure S183 where
  f0 : Int
  f1 : S37
  f2 : S138
  f3 : Bool
def z183 : S183 := ⟨(0 : Int), z37, z138, false⟩
def k183 : Kd S183 := Kd.iso (Kd.pair (Kd.int .i64) (Kd.pair k37 (Kd.pair k138 Kd.bool))) (fun x : S183 => (x.f0, x.f1, x.f2, x.f3))
theorem k183_open {w : World} {x : S183} {cs : List Value} (h : k183.K w x cs) : cs = [.int .i64 x.f0, .int .i64 x.f1.f0, .int .i64 x.f1.f1, .int .i64 x.f2.f0, .int .i64 x.f2.f1, .bool x.f3] := by
  obtain ⟨_, _, rfl, rfl, ⟨_, _, rfl, s1, ⟨_, _, rfl, s3, rfl⟩⟩⟩ := h
  obtain rfl := k37_open s1
  obtain rfl := k138_open s3
  exact rfl
theorem k183_mkM (w : World) (base : Nat) (ok : Nat → Prop) (x : S183)  : k183.M w base ok x [.int .i64 x.f0, .int .i64 x.f1.f0, .int .i64 x.f1.f1, .int .i64 x.f2.f0, .int .i64 x.f2.f1, .bool x.f3] := ⟨[.int .i64 x.f0], [.int .i64 x.f1.f0, .int .i64 x.f1.f1, .int .i64 x.f2.f0, .int .i64 x.f2.f1, .bool x.f3], rfl, rfl, ⟨[.int .i64 x.f1.f0, .int .i64 x.f1.f1], [.int .i64 x.f2.f0, .int .i64 x.f2.f1, .bool x.f3], rfl, (k37_mkM w base ok x.f1 ), ⟨[.int .i64 x.f2.f0, .int .i64 x.f2.f1], [.bool x.f3], rfl, (k138_mkM w base ok x.f2 ), rfl⟩⟩⟩
def rd_T183 (xs : List S183) (i : Int) : S183 := xs.getD i.toNat z183
theorem at_T183 {w : World} {A : Option Addr} {n : Nat} {xs : List S183} (h : Kd.C k183 w A n xs) (i : Int) (h0 : 0 ≤ i) (h1 : i < n) : ∃ ad , A = some ad ∧ w.cell? (ad.add (i.toNat * 6)) = some (.int .i64 (rd_T183 xs i).f0) ∧ w.cell? ⟨(ad.add (i.toNat * 6)).block, (ad.add (i.toNat * 6)).off + 1, none⟩ = some (.int .i64 (rd_T183 xs i).f1.f0) ∧ w.cell? ⟨(ad.add (i.toNat * 6)).block, (ad.add (i.toNat * 6)).off + 2, none⟩ = some (.int .i64 (rd_T183 xs i).f1.f1) ∧ w.cell? ⟨(ad.add (i.toNat * 6)).block, (ad.add (i.toNat * 6)).off + 3, none⟩ = some (.int .i64 (rd_T183 xs i).f2.f0) ∧ w.cell? ⟨(ad.add (i.toNat * 6)).block, (ad.add (i.toNat * 6)).off + 4, none⟩ = some (.int .i64 (rd_T183 xs i).f2.f1) ∧ w.cell? ⟨(ad.add (i.toNat * 6)).block, (ad.add (i.toNat * 6)).off + 5, none⟩ = some (.bool (rd_T183 xs i).f3) := by
  obtain ⟨ad, c, e, _, hK, hc0⟩ := Kd.C_get h z183 i h0 h1
  have hc : ∀ j u, c[j]? = some u → w.cell? (ad.add (i.toNat * 6 + j)) = some u := hc0
  obtain rfl := k183_open hK
  exact ⟨ad, e, hc 0 _ rfl, by rw [← add_field _ _ 1 (by omega)]; exact hc 1 _ rfl, by rw [← add_field _ _ 2 (by omega)]; exact hc 2 _ rfl, by rw [← add_field _ _ 3 (by omega)]; exact hc 3 _ rfl, by rw [← add_field _ _ 4 (by omega)]; exact hc 4 _ rfl, by rw [← add_field _ _ 5 (by omega)]; exact hc 5 _ rfl⟩

/-! #### struct type 140 -/
structure S140 where
  f0 : S37
  f1 : S138
def z140 : S140 := ⟨z37, z138⟩
def k140 : Kd S140 := Kd.iso (Kd.pair k37 k138) (fun x : S140 => (x.f0, x.f1))
theorem k140_open {w : World} {x : S140} {cs : List Value} (h : k140.K w x cs) : cs = [.int .i64 x.f0.f0, .int .i64 x.f0.f1, .int .i64 x.f1.f0, .int .i64 x.f1.f1] := by
  obtain ⟨_, _, rfl, s0, s2⟩ := h
  obtain rfl := k37_open s0
  obtain rfl := k138_open s2
  exact rfl
theorem k140_mkM (w : World) (base : Nat) (ok : Nat → Prop) (x : S140)  : k140.M w base ok x [.int .i64 x.f0.f0, .int .i64 x.f0.f1, .int .i64 x.f1.f0, .int .i64 x.f1.f1] := ⟨[.int .i64 x.f0.f0, .int .i64 x.f0.f1], [.int .i64 x.f1.f0, .int .i64 x.f1.f1], rfl, (k37_mkM w base ok x.f0 ), (k138_mkM w base ok x.f1 )⟩
def rd_T140 (xs : List S140) (i : Int) : S140 := xs.getD i.toNat z140
theorem at_T140 {w : World} {A : Option Addr} {n : Nat} {xs : List S140} (h : Kd.C k140 w A n xs) (i : Int) (h0 : 0 ≤ i) (h1 : i < n) : ∃ ad , A = some ad ∧ w.cell? (ad.add (i.toNat * 4)) = some (.int .i64 (rd_T140 xs i).f0.f0) ∧ w.cell? ⟨(ad.add (i.toNat * 4)).block, (ad.add (i.toNat * 4)).off + 1, none⟩ = some (.int .i64 (rd_T140 xs i).f0.f1) ∧ w.cell? ⟨(ad.add (i.toNat * 4)).block, (ad.add (i.toNat * 4)).off + 2, none⟩ = some (.int .i64 (rd_T140 xs i).f1.f0) ∧ w.cell? ⟨(ad.add (i.toNat * 4)).block, (ad.add (i.toNat * 4)).off + 3, none⟩ = some (.int .i64 (rd_T140 xs i).f1.f1) := by
  obtain ⟨ad, c, e, _, hK, hc0⟩ := Kd.C_get h z140 i h0 h1
  have hc : ∀ j u, c[j]? = some u → w.cell? (ad.add (i.toNat * 4 + j)) = some u := hc0
  obtain rfl := k140_open hK
  exact ⟨ad, e, hc 0 _ rfl, by rw [← add_field _ _ 1 (by omega)]; exact hc 1 _ rfl, by rw [← add_field _ _ 2 (by omega)]; exact hc 2 _ rfl, by rw [← add_field _ _ 3 (by omega)]; exact hc 3 _ rfl⟩

def rd_L17 (xs : List (List S183)) (i : Int) : (List S183) := xs.getD i.toNat ([] : List S183)
/-! #### struct type 145 -/
structure S145 where
  f0 : ByteArray
  f1 : (List S183)
  f2 : Int
  f3 : Int
  f4 : Int
def z145 : S145 := ⟨(⟨#[]⟩ : ByteArray), ([] : List S183), (0 : Int), (0 : Int), (0 : Int)⟩
def k145 : Kd S145 := Kd.iso (Kd.pair Kd.string (Kd.pair (Kd.slice 183 k183) (Kd.pair (Kd.int .i64) (Kd.pair (Kd.int .i64) (Kd.int .i64))))) (fun x : S145 => (x.f0, x.f1, x.f2, x.f3, x.f4))
theorem k145_open {w : World} {x : S145} {cs : List Value} (h : k145.K w x cs) : ∃ A1 c1, cs = [.string x.f0, .slice A1 x.f1.length c1, .int .i64 x.f2, .int .i64 x.f3, .int .i64 x.f4] ∧ x.f1.length ≤ c1 ∧ k183.C w A1 x.f1.length x.f1 := by
  obtain ⟨_, _, rfl, rfl, ⟨_, _, rfl, ⟨A1, c1, rfl, l1, g1⟩, ⟨_, _, rfl, rfl, ⟨_, _, rfl, rfl, rfl⟩⟩⟩⟩ := h
  exact ⟨A1, c1, rfl, l1, g1⟩
theorem k145_mkM (w : World) (base : Nat) (ok : Nat → Prop) (x : S145) {v1 : Value} (g1 : k183.R 183 w base ok v1 x.f1) : k145.M w base ok x [.string x.f0, v1, .int .i64 x.f2, .int .i64 x.f3, .int .i64 x.f4] := ⟨[.string x.f0], [v1, .int .i64 x.f2, .int .i64 x.f3, .int .i64 x.f4], rfl, rfl, ⟨[v1], [.int .i64 x.f2, .int .i64 x.f3, .int .i64 x.f4], rfl, ⟨v1, rfl, g1⟩, ⟨[.int .i64 x.f2], [.int .i64 x.f3, .int .i64 x.f4], rfl, rfl, ⟨[.int .i64 x.f3], [.int .i64 x.f4], rfl, rfl, rfl⟩⟩⟩⟩
def rd_T145 (xs : List S145) (i : Int) : S145 := xs.getD i.toNat z145
theorem at_T145 {w : World} {A : Option Addr} {n : Nat} {xs : List S145} (h : Kd.C k145 w A n xs) (i : Int) (h0 : 0 ≤ i) (h1 : i < n) : ∃ ad A1 c1, A = some ad ∧ w.cell? (ad.add (i.toNat * 5)) = some (.string (rd_T145 xs i).f0) ∧ w.cell? ⟨(ad.add (i.toNat * 5)).block, (ad.add (i.toNat * 5)).off + 1, none⟩ = some (.slice A1 (rd_T145 xs i).f1.length c1) ∧ w.cell? ⟨(ad.add (i.toNat * 5)).block, (ad.add (i.toNat * 5)).off + 2, none⟩ = some (.int .i64 (rd_T145 xs i).f2) ∧ w.cell? ⟨(ad.add (i.toNat * 5)).block, (ad.add (i.toNat * 5)).off + 3, none⟩ = some (.int .i64 (rd_T145 xs i).f3) ∧ w.cell? ⟨(ad.add (i.toNat * 5)).block, (ad.add (i.toNat * 5)).off + 4, none⟩ = some (.int .i64 (rd_T145 xs i).f4) ∧ (rd_T145 xs i).f1.length ≤ c1 ∧ k183.C w A1 (rd_T145 xs i).f1.length (rd_T145 xs i).f1 := by
  obtain ⟨ad, c, e, _, hK, hc0⟩ := Kd.C_get h z145 i h0 h1
  have hc : ∀ j u, c[j]? = some u → w.cell? (ad.add (i.toNat * 5 + j)) = some u := hc0
  obtain ⟨A1, c1, rfl, l1, g1⟩ := k145_open hK
  exact ⟨ad, A1, c1, e, hc 0 _ rfl, by rw [← add_field _ _ 1 (by omega)]; exact hc 1 _ rfl, by rw [← add_field _ _ 2 (by omega)]; exact hc 2 _ rfl, by rw [← add_field _ _ 3 (by omega)]; exact hc 3 _ rfl, by rw [← add_field _ _ 4 (by omega)]; exact hc 4 _ rfl, l1, g1⟩

/-! #### struct type 92 -/
structure S92 where
  f0 : ByteArray
  f1 : ByteArray
  f2 : ByteArray
  f3 : ByteArray
  f4 : Int
  f5 : Int
def z92 : S92 := ⟨(⟨#[]⟩ : ByteArray), (⟨#[]⟩ : ByteArray), (⟨#[]⟩ : ByteArray), (⟨#[]⟩ : ByteArray), (0 : Int), (0 : Int)⟩
def k92 : Kd S92 := Kd.iso (Kd.pair Kd.string (Kd.pair Kd.string (Kd.pair Kd.string (Kd.pair Kd.string (Kd.pair (Kd.int .i64) (Kd.int .i64)))))) (fun x : S92 => (x.f0, x.f1, x.f2, x.f3, x.f4, x.f5))
theorem k92_open {w : World} {x : S92} {cs : List Value} (h : k92.K w x cs) : cs = [.string x.f0, .string x.f1, .string x.f2, .string x.f3, .int .i64 x.f4, .int .i64 x.f5] := by
  obtain ⟨_, _, rfl, rfl, ⟨_, _, rfl, rfl, ⟨_, _, rfl, rfl, ⟨_, _, rfl, rfl, ⟨_, _, rfl, rfl, rfl⟩⟩⟩⟩⟩ := h
  exact rfl
theorem k92_mkM (w : World) (base : Nat) (ok : Nat → Prop) (x : S92)  : k92.M w base ok x [.string x.f0, .string x.f1, .string x.f2, .string x.f3, .int .i64 x.f4, .int .i64 x.f5] := ⟨[.string x.f0], [.string x.f1, .string x.f2, .string x.f3, .int .i64 x.f4, .int .i64 x.f5], rfl, rfl, ⟨[.string x.f1], [.string x.f2, .string x.f3, .int .i64 x.f4, .int .i64 x.f5], rfl, rfl, ⟨[.string x.f2], [.string x.f3, .int .i64 x.f4, .int .i64 x.f5], rfl, rfl, ⟨[.string x.f3], [.int .i64 x.f4, .int .i64 x.f5], rfl, rfl, ⟨[.int .i64 x.f4], [.int .i64 x.f5], rfl, rfl, rfl⟩⟩⟩⟩⟩
def rd_T92 (xs : List S92) (i : Int) : S92 := xs.getD i.toNat z92
theorem at_T92 {w : World} {A : Option Addr} {n : Nat} {xs : List S92} (h : Kd.C k92 w A n xs) (i : Int) (h0 : 0 ≤ i) (h1 : i < n) : ∃ ad , A = some ad ∧ w.cell? (ad.add (i.toNat * 6)) = some (.string (rd_T92 xs i).f0) ∧ w.cell? ⟨(ad.add (i.toNat * 6)).block, (ad.add (i.toNat * 6)).off + 1, none⟩ = some (.string (rd_T92 xs i).f1) ∧ w.cell? ⟨(ad.add (i.toNat * 6)).block, (ad.add (i.toNat * 6)).off + 2, none⟩ = some (.string (rd_T92 xs i).f2) ∧ w.cell? ⟨(ad.add (i.toNat * 6)).block, (ad.add (i.toNat * 6)).off + 3, none⟩ = some (.string (rd_T92 xs i).f3) ∧ w.cell? ⟨(ad.add (i.toNat * 6)).block, (ad.add (i.toNat * 6)).off + 4, none⟩ = some (.int .i64 (rd_T92 xs i).f4) ∧ w.cell? ⟨(ad.add (i.toNat * 6)).block, (ad.add (i.toNat * 6)).off + 5, none⟩ = some (.int .i64 (rd_T92 xs i).f5) := by
  obtain ⟨ad, c, e, _, hK, hc0⟩ := Kd.C_get h z92 i h0 h1
  have hc : ∀ j u, c[j]? = some u → w.cell? (ad.add (i.toNat * 6 + j)) = some u := hc0
  obtain rfl := k92_open hK
  exact ⟨ad, e, hc 0 _ rfl, by rw [← add_field _ _ 1 (by omega)]; exact hc 1 _ rfl, by rw [← add_field _ _ 2 (by omega)]; exact hc 2 _ rfl, by rw [← add_field _ _ 3 (by omega)]; exact hc 3 _ rfl, by rw [← add_field _ _ 4 (by omega)]; exact hc 4 _ rfl, by rw [← add_field _ _ 5 (by omega)]; exact hc 5 _ rfl⟩

/-! #### struct type 76 -/
structure S76 where
  f0 : Int
  f1 : Int
  f2 : ByteArray
  f3 : Int
  f4 : Int
  f5 : Int
  f6 : Int
  f7 : Int
  f8 : Int
  f9 : Int
def z76 : S76 := ⟨(0 : Int), (0 : Int), (⟨#[]⟩ : ByteArray), (0 : Int), (0 : Int), (0 : Int), (0 : Int), (0 : Int), (0 : Int), (0 : Int)⟩
def k76 : Kd S76 := Kd.iso (Kd.pair (Kd.int .i64) (Kd.pair (Kd.int .i64) (Kd.pair Kd.string (Kd.pair (Kd.int .i64) (Kd.pair (Kd.int .i64) (Kd.pair (Kd.int .i64) (Kd.pair (Kd.int .i64) (Kd.pair (Kd.int .i64) (Kd.pair (Kd.int .i64) (Kd.int .i64)))))))))) (fun x : S76 => (x.f0, x.f1, x.f2, x.f3, x.f4, x.f5, x.f6, x.f7, x.f8, x.f9))
theorem k76_open {w : World} {x : S76} {cs : List Value} (h : k76.K w x cs) : cs = [.int .i64 x.f0, .int .i64 x.f1, .string x.f2, .int .i64 x.f3, .int .i64 x.f4, .int .i64 x.f5, .int .i64 x.f6, .int .i64 x.f7, .int .i64 x.f8, .int .i64 x.f9] := by
  obtain ⟨_, _, rfl, rfl, ⟨_, _, rfl, rfl, ⟨_, _, rfl, rfl, ⟨_, _, rfl, rfl, ⟨_, _, rfl, rfl, ⟨_, _, rfl, rfl, ⟨_, _, rfl, rfl, ⟨_, _, rfl, rfl, ⟨_, _, rfl, rfl, rfl⟩⟩⟩⟩⟩⟩⟩⟩⟩ := h
  exact rfl
theorem k76_mkM (w : World) (base : Nat) (ok : Nat → Prop) (x : S76)  : k76.M w base ok x [.int .i64 x.f0, .int .i64 x.f1, .string x.f2, .int .i64 x.f3, .int .i64 x.f4, .int .i64 x.f5, .int .i64 x.f6, .int .i64 x.f7, .int .i64 x.f8, .int .i64 x.f9] := ⟨[.int .i64 x.f0], [.int .i64 x.f1, .string x.f2, .int .i64 x.f3, .int .i64 x.f4, .int .i64 x.f5, .int .i64 x.f6, .int .i64 x.f7, .int .i64 x.f8, .int .i64 x.f9], rfl, rfl, ⟨[.int .i64 x.f1], [.string x.f2, .int .i64 x.f3, .int .i64 x.f4, .int .i64 x.f5, .int .i64 x.f6, .int .i64 x.f7, .int .i64 x.f8, .int .i64 x.f9], rfl, rfl, ⟨[.string x.f2], [.int .i64 x.f3, .int .i64 x.f4, .int .i64 x.f5, .int .i64 x.f6, .int .i64 x.f7, .int .i64 x.f8, .int .i64 x.f9], rfl, rfl, ⟨[.int .i64 x.f3], [.int .i64 x.f4, .int .i64 x.f5, .int .i64 x.f6, .int .i64 x.f7, .int .i64 x.f8, .int .i64 x.f9], rfl, rfl, ⟨[.int .i64 x.f4], [.int .i64 x.f5, .int .i64 x.f6, .int .i64 x.f7, .int .i64 x.f8, .int .i64 x.f9], rfl, rfl, ⟨[.int .i64 x.f5], [.int .i64 x.f6, .int .i64 x.f7, .int .i64 x.f8, .int .i64 x.f9], rfl, rfl, ⟨[.int .i64 x.f6], [.int .i64 x.f7, .int .i64 x.f8, .int .i64 x.f9], rfl, rfl, ⟨[.int .i64 x.f7], [.int .i64 x.f8, .int .i64 x.f9], rfl, rfl, ⟨[.int .i64 x.f8], [.int .i64 x.f9], rfl, rfl, rfl⟩⟩⟩⟩⟩⟩⟩⟩⟩
def rd_T76 (xs : List S76) (i : Int) : S76 := xs.getD i.toNat z76
theorem at_T76 {w : World} {A : Option Addr} {n : Nat} {xs : List S76} (h : Kd.C k76 w A n xs) (i : Int) (h0 : 0 ≤ i) (h1 : i < n) : ∃ ad , A = some ad ∧ w.cell? (ad.add (i.toNat * 10)) = some (.int .i64 (rd_T76 xs i).f0) ∧ w.cell? ⟨(ad.add (i.toNat * 10)).block, (ad.add (i.toNat * 10)).off + 1, none⟩ = some (.int .i64 (rd_T76 xs i).f1) ∧ w.cell? ⟨(ad.add (i.toNat * 10)).block, (ad.add (i.toNat * 10)).off + 2, none⟩ = some (.string (rd_T76 xs i).f2) ∧ w.cell? ⟨(ad.add (i.toNat * 10)).block, (ad.add (i.toNat * 10)).off + 3, none⟩ = some (.int .i64 (rd_T76 xs i).f3) ∧ w.cell? ⟨(ad.add (i.toNat * 10)).block, (ad.add (i.toNat * 10)).off + 4, none⟩ = some (.int .i64 (rd_T76 xs i).f4) ∧ w.cell? ⟨(ad.add (i.toNat * 10)).block, (ad.add (i.toNat * 10)).off + 5, none⟩ = some (.int .i64 (rd_T76 xs i).f5) ∧ w.cell? ⟨(ad.add (i.toNat * 10)).block, (ad.add (i.toNat * 10)).off + 6, none⟩ = some (.int .i64 (rd_T76 xs i).f6) ∧ w.cell? ⟨(ad.add (i.toNat * 10)).block, (ad.add (i.toNat * 10)).off + 7, none⟩ = some (.int .i64 (rd_T76 xs i).f7) ∧ w.cell? ⟨(ad.add (i.toNat * 10)).block, (ad.add (i.toNat * 10)).off + 8, none⟩ = some (.int .i64 (rd_T76 xs i).f8) ∧ w.cell? ⟨(ad.add (i.toNat * 10)).block, (ad.add (i.toNat * 10)).off + 9, none⟩ = some (.int .i64 (rd_T76 xs i).f9) := by
  obtain ⟨ad, c, e, _, hK, hc0⟩ := Kd.C_get h z76 i h0 h1
  have hc : ∀ j u, c[j]? = some u → w.cell? (ad.add (i.toNat * 10 + j)) = some u := hc0
  obtain rfl := k76_open hK
  exact ⟨ad, e, hc 0 _ rfl, by rw [← add_field _ _ 1 (by omega)]; exact hc 1 _ rfl, by rw [← add_field _ _ 2 (by omega)]; exact hc 2 _ rfl, by rw [← add_field _ _ 3 (by omega)]; exact hc 3 _ rfl, by rw [← add_field _ _ 4 (by omega)]; exact hc 4 _ rfl, by rw [← add_field _ _ 5 (by omega)]; exact hc 5 _ rfl, by rw [← add_field _ _ 6 (by omega)]; exact hc 6 _ rfl, by rw [← add_field _ _ 7 (by omega)]; exact hc 7 _ rfl, by rw [← add_field _ _ 8 (by omega)]; exact hc 8 _ rfl, by rw [← add_field _ _ 9 (by omega)]; exact hc 9 _ rfl⟩

/-! #### struct type 81 -/
structure S81 where
  f0 : ByteArray
  f1 : Int
  f2 : Int
def z81 : S81 := ⟨(⟨#[]⟩ : ByteArray), (0 : Int), (0 : Int)⟩
def k81 : Kd S81 := Kd.iso (Kd.pair Kd.string (Kd.pair (Kd.int .i64) (Kd.int .i64))) (fun x : S81 => (x.f0, x.f1, x.f2))
theorem k81_open {w : World} {x : S81} {cs : List Value} (h : k81.K w x cs) : cs = [.string x.f0, .int .i64 x.f1, .int .i64 x.f2] := by
  obtain ⟨_, _, rfl, rfl, ⟨_, _, rfl, rfl, rfl⟩⟩ := h
  exact rfl
theorem k81_mkM (w : World) (base : Nat) (ok : Nat → Prop) (x : S81)  : k81.M w base ok x [.string x.f0, .int .i64 x.f1, .int .i64 x.f2] := ⟨[.string x.f0], [.int .i64 x.f1, .int .i64 x.f2], rfl, rfl, ⟨[.int .i64 x.f1], [.int .i64 x.f2], rfl, rfl, rfl⟩⟩
def rd_T81 (xs : List S81) (i : Int) : S81 := xs.getD i.toNat z81
theorem at_T81 {w : World} {A : Option Addr} {n : Nat} {xs : List S81} (h : Kd.C k81 w A n xs) (i : Int) (h0 : 0 ≤ i) (h1 : i < n) : ∃ ad , A = some ad ∧ w.cell? (ad.add (i.toNat * 3)) = some (.string (rd_T81 xs i).f0) ∧ w.cell? ⟨(ad.add (i.toNat * 3)).block, (ad.add (i.toNat * 3)).off + 1, none⟩ = some (.int .i64 (rd_T81 xs i).f1) ∧ w.cell? ⟨(ad.add (i.toNat * 3)).block, (ad.add (i.toNat * 3)).off + 2, none⟩ = some (.int .i64 (rd_T81 xs i).f2) := by
  obtain ⟨ad, c, e, _, hK, hc0⟩ := Kd.C_get h z81 i h0 h1
  have hc : ∀ j u, c[j]? = some u → w.cell? (ad.add (i.toNat * 3 + j)) = some u := hc0
  obtain rfl := k81_open hK
  exact ⟨ad, e, hc 0 _ rfl, by rw [← add_field _ _ 1 (by omega)]; exact hc 1 _ rfl, by rw [← add_field _ _ 2 (by omega)]; exact hc 2 _ rfl⟩

/-! #### struct type 83 -/
structure S83 where
  f0 : Int
  f1 : Int
  f2 : Int
  f3 : Int
  f4 : Bool
def z83 : S83 := ⟨(0 : Int), (0 : Int), (0 : Int), (0 : Int), false⟩
def k83 : Kd S83 := Kd.iso (Kd.pair (Kd.int .i64) (Kd.pair (Kd.int .i64) (Kd.pair (Kd.int .i64) (Kd.pair (Kd.int .i64) Kd.bool)))) (fun x : S83 => (x.f0, x.f1, x.f2, x.f3, x.f4))
theorem k83_open {w : World} {x : S83} {cs : List Value} (h : k83.K w x cs) : cs = [.int .i64 x.f0, .int .i64 x.f1, .int .i64 x.f2, .int .i64 x.f3, .bool x.f4] := by
  obtain ⟨_, _, rfl, rfl, ⟨_, _, rfl, rfl, ⟨_, _, rfl, rfl, ⟨_, _, rfl, rfl, rfl⟩⟩⟩⟩ := h
  exact rfl
theorem k83_mkM (w : World) (base : Nat) (ok : Nat → Prop) (x : S83)  : k83.M w base ok x [.int .i64 x.f0, .int .i64 x.f1, .int .i64 x.f2, .int .i64 x.f3, .bool x.f4] := ⟨[.int .i64 x.f0], [.int .i64 x.f1, .int .i64 x.f2, .int .i64 x.f3, .bool x.f4], rfl, rfl, ⟨[.int .i64 x.f1], [.int .i64 x.f2, .int .i64 x.f3, .bool x.f4], rfl, rfl, ⟨[.int .i64 x.f2], [.int .i64 x.f3, .bool x.f4], rfl, rfl, ⟨[.int .i64 x.f3], [.bool x.f4], rfl, rfl, rfl⟩⟩⟩⟩
def rd_T83 (xs : List S83) (i : Int) : S83 := xs.getD i.toNat z83
theorem at_T83 {w : World} {A : Option Addr} {n : Nat} {xs : List S83} (h : Kd.C k83 w A n xs) (i : Int) (h0 : 0 ≤ i) (h1 : i < n) : ∃ ad , A = some ad ∧ w.cell? (ad.add (i.toNat * 5)) = some (.int .i64 (rd_T83 xs i).f0) ∧ w.cell? ⟨(ad.add (i.toNat * 5)).block, (ad.add (i.toNat * 5)).off + 1, none⟩ = some (.int .i64 (rd_T83 xs i).f1) ∧ w.cell? ⟨(ad.add (i.toNat * 5)).block, (ad.add (i.toNat * 5)).off + 2, none⟩ = some (.int .i64 (rd_T83 xs i).f2) ∧ w.cell? ⟨(ad.add (i.toNat * 5)).block, (ad.add (i.toNat * 5)).off + 3, none⟩ = some (.int .i64 (rd_T83 xs i).f3) ∧ w.cell? ⟨(ad.add (i.toNat * 5)).block, (ad.add (i.toNat * 5)).off + 4, none⟩ = some (.bool (rd_T83 xs i).f4) := by
  obtain ⟨ad, c, e, _, hK, hc0⟩ := Kd.C_get h z83 i h0 h1
  have hc : ∀ j u, c[j]? = some u → w.cell? (ad.add (i.toNat * 5 + j)) = some u := hc0
  obtain rfl := k83_open hK
  exact ⟨ad, e, hc 0 _ rfl, by rw [← add_field _ _ 1 (by omega)]; exact hc 1 _ rfl, by rw [← add_field _ _ 2 (by omega)]; exact hc 2 _ rfl, by rw [← add_field _ _ 3 (by omega)]; exact hc 3 _ rfl, by rw [← add_field _ _ 4 (by omega)]; exact hc 4 _ rfl⟩

def rd_L23 (xs : List (List S140)) (i : Int) : (List S140) := xs.getD i.toNat ([] : List S140)
def rd_L24 (xs : List (List S76)) (i : Int) : (List S76) := xs.getD i.toNat ([] : List S76)
def rd_L25 (xs : List (List S83)) (i : Int) : (List S83) := xs.getD i.toNat ([] : List S83)
def rd_L26 (xs : List (List S151)) (i : Int) : (List S151) := xs.getD i.toNat ([] : List S151)
def rd_L27 (xs : List (List S129)) (i : Int) : (List S129) := xs.getD i.toNat ([] : List S129)
/-! #### struct type 27 -/
structure S27 where
  f0 : S23
  f1 : Int
  f2 : ByteArray
  f3 : ByteArray
  f4 : Int
  f5 : (List S151)
  f6 : (List S129)
def z27 : S27 := ⟨z23, (0 : Int), (⟨#[]⟩ : ByteArray), (⟨#[]⟩ : ByteArray), (0 : Int), ([] : List S151), ([] : List S129)⟩
def k27 : Kd S27 := Kd.iso (Kd.pair k23 (Kd.pair (Kd.int .i64) (Kd.pair Kd.string (Kd.pair Kd.string (Kd.pair (Kd.int .i64) (Kd.pair (Kd.slice 151 k151) (Kd.slice 129 k129))))))) (fun x : S27 => (x.f0, x.f1, x.f2, x.f3, x.f4, x.f5, x.f6))
theorem k27_open {w : World} {x : S27} {cs : List Value} (h : k27.K w x cs) : ∃ A6 c6 A7 c7, cs = [.int .i64 x.f0.f0, .int .i64 x.f0.f1, .int .i64 x.f1, .string x.f2, .string x.f3, .int .i64 x.f4, .slice A6 x.f5.length c6, .slice A7 x.f6.length c7] ∧ x.f5.length ≤ c6 ∧ k151.C w A6 x.f5.length x.f5 ∧ x.f6.length ≤ c7 ∧ k129.C w A7 x.f6.length x.f6 := by
  obtain ⟨_, _, rfl, s0, ⟨_, _, rfl, rfl, ⟨_, _, rfl, rfl, ⟨_, _, rfl, rfl, ⟨_, _, rfl, rfl, ⟨_, _, rfl, ⟨A6, c6, rfl, l6, g6⟩, ⟨A7, c7, rfl, l7, g7⟩⟩⟩⟩⟩⟩⟩ := h
  obtain rfl := k23_open s0
  exact ⟨A6, c6, A7, c7, rfl, l6, g6, l7, g7⟩
def rd_T27 (xs : List S27) (i : Int) : S27 := xs.getD i.toNat z27
def rd_L29 (xs : List (List S131)) (i : Int) : (List S131) := xs.getD i.toNat ([] : List S131)
def rd_L30 (xs : List (List S133)) (i : Int) : (List S133) := xs.getD i.toNat ([] : List S133)
def rd_L31 (xs : List (List S135)) (i : Int) : (List S135) := xs.getD i.toNat ([] : List S135)
def rd_L32 (xs : List (List S157)) (i : Int) : (List S157) := xs.getD i.toNat ([] : List S157)
/-! #### struct type 33 -/
structure S33 where
  f0 : (List S131)
  f1 : (List S133)
  f2 : (List S135)
  f3 : (List S157)
  f4 : Int
def z33 : S33 := ⟨([] : List S131), ([] : List S133), ([] : List S135), ([] : List S157), (0 : Int)⟩
def k33 : Kd S33 := Kd.iso (Kd.pair (Kd.slice 131 k131) (Kd.pair (Kd.slice 133 k133) (Kd.pair (Kd.slice 135 k135) (Kd.pair (Kd.slice 157 k157) (Kd.int .i64))))) (fun x : S33 => (x.f0, x.f1, x.f2, x.f3, x.f4))
theorem k33_open {w : World} {x : S33} {cs : List Value} (h : k33.K w x cs) : ∃ A0 c0 A1 c1 A2 c2 A3 c3, cs = [.slice A0 x.f0.length c0, .slice A1 x.f1.length c1, .slice A2 x.f2.length c2, .slice A3 x.f3.length c3, .int .i64 x.f4] ∧ x.f0.length ≤ c0 ∧ k131.C w A0 x.f0.length x.f0 ∧ x.f1.length ≤ c1 ∧ k133.C w A1 x.f1.length x.f1 ∧ x.f2.length ≤ c2 ∧ k135.C w A2 x.f2.length x.f2 ∧ x.f3.length ≤ c3 ∧ k157.C w A3 x.f3.length x.f3 := by
  obtain ⟨_, _, rfl, ⟨A0, c0, rfl, l0, g0⟩, ⟨_, _, rfl, ⟨A1, c1, rfl, l1, g1⟩, ⟨_, _, rfl, ⟨A2, c2, rfl, l2, g2⟩, ⟨_, _, rfl, ⟨A3, c3, rfl, l3, g3⟩, rfl⟩⟩⟩⟩ := h
  exact ⟨A0, c0, A1, c1, A2, c2, A3, c3, rfl, l0, g0, l1, g1, l2, g2, l3, g3⟩
def rd_T33 (xs : List S33) (i : Int) : S33 := xs.getD i.toNat z33
end
section
-- NEEDS laws.eqConfig laws.eqGuests
theorem bcell {W w1 : World} (hb : Below W.heap.size W w1) : (∀ b o, b < W.heap.size → w1.cell? ⟨b, o, none⟩ = W.cell? ⟨b, o, none⟩) ∧ (∀ b o, b < W.heap.size → w1.frozen? ⟨b, o, none⟩ = W.frozen? ⟨b, o, none⟩) :=
  ⟨fun b o h => hb.cell (p := ⟨b, o, none⟩) h, fun b o h => hb.frozen (p := ⟨b, o, none⟩) h⟩
@[reducible] def c140 (w : World) (a : Addr) (x : S140) : Prop := w.cell? a = some (.int .i64 x.f0.f0) ∧ w.cell? ⟨a.block, a.off + 1, none⟩ = some (.int .i64 x.f0.f1) ∧ w.cell? ⟨a.block, a.off + 2, none⟩ = some (.int .i64 x.f1.f0) ∧ w.cell? ⟨a.block, a.off + 3, none⟩ = some (.int .i64 x.f1.f1)
theorem c140_below {w W : World} {a : Addr} {x : S140} (hb : Below w.heap.size w W) (h : c140 w a x) : c140 W a x := by
  obtain ⟨h0, h1, h2, h3⟩ := h
  exact ⟨pw_cell_below hb h0, pw_cell_below hb h1, pw_cell_below hb h2, pw_cell_below hb h3⟩
@[reducible] def c183 (w : World) (a : Addr) (x : S183) : Prop := w.cell? a = some (.int .i64 x.f0) ∧ w.cell? ⟨a.block, a.off + 1, none⟩ = some (.int .i64 x.f1.f0) ∧ w.cell? ⟨a.block, a.off + 2, none⟩ = some (.int .i64 x.f1.f1) ∧ w.cell? ⟨a.block, a.off + 3, none⟩ = some (.int .i64 x.f2.f0) ∧ w.cell? ⟨a.block, a.off + 4, none⟩ = some (.int .i64 x.f2.f1) ∧ w.cell? ⟨a.block, a.off + 5, none⟩ = some (.bool x.f3)
theorem c183_below {w W : World} {a : Addr} {x : S183} (hb : Below w.heap.size w W) (h : c183 w a x) : c183 W a x := by
  obtain ⟨h0, h1, h2, h3, h4, h5⟩ := h
  exact ⟨pw_cell_below hb h0, pw_cell_below hb h1, pw_cell_below hb h2, pw_cell_below hb h3, pw_cell_below hb h4, pw_cell_below hb h5⟩
@[reducible] def c145 (w : World) (a : Addr) (x : S145) (A1 : Option Addr) (c1 : Nat) : Prop := w.cell? a = some (.string x.f0) ∧ w.cell? ⟨a.block, a.off + 1, none⟩ = some (.slice A1 x.f1.length c1) ∧ w.cell? ⟨a.block, a.off + 2, none⟩ = some (.int .i64 x.f2) ∧ w.cell? ⟨a.block, a.off + 3, none⟩ = some (.int .i64 x.f3) ∧ w.cell? ⟨a.block, a.off + 4, none⟩ = some (.int .i64 x.f4)
theorem c145_below {w W : World} {a : Addr} {x : S145} {A1 : Option Addr} {c1 : Nat} (hb : Below w.heap.size w W) (h : c145 w a x A1 c1) : c145 W a x A1 c1 := by
  obtain ⟨h0, h1, h2, h3, h4⟩ := h
  exact ⟨pw_cell_below hb h0, pw_cell_below hb h1, pw_cell_below hb h2, pw_cell_below hb h3, pw_cell_below hb h4⟩
@[reducible] def c92 (w : World) (a : Addr) (x : S92) : Prop := w.cell? a = some (.string x.f0) ∧ w.cell? ⟨a.block, a.off + 1, none⟩ = some (.string x.f1) ∧ w.cell? ⟨a.block, a.off + 2, none⟩ = some (.string x.f2) ∧ w.cell? ⟨a.block, a.off + 3, none⟩ = some (.string x.f3) ∧ w.cell? ⟨a.block, a.off + 4, none⟩ = some (.int .i64 x.f4) ∧ w.cell? ⟨a.block, a.off + 5, none⟩ = some (.int .i64 x.f5)
theorem c92_below {w W : World} {a : Addr} {x : S92} (hb : Below w.heap.size w W) (h : c92 w a x) : c92 W a x := by
  obtain ⟨h0, h1, h2, h3, h4, h5⟩ := h
  exact ⟨pw_cell_below hb h0, pw_cell_below hb h1, pw_cell_below hb h2, pw_cell_below hb h3, pw_cell_below hb h4, pw_cell_below hb h5⟩
@[reducible] def c76 (w : World) (a : Addr) (x : S76) : Prop := w.cell? a = some (.int .i64 x.f0) ∧ w.cell? ⟨a.block, a.off + 1, none⟩ = some (.int .i64 x.f1) ∧ w.cell? ⟨a.block, a.off + 2, none⟩ = some (.string x.f2) ∧ w.cell? ⟨a.block, a.off + 3, none⟩ = some (.int .i64 x.f3) ∧ w.cell? ⟨a.block, a.off + 4, none⟩ = some (.int .i64 x.f4) ∧ w.cell? ⟨a.block, a.off + 5, none⟩ = some (.int .i64 x.f5) ∧ w.cell? ⟨a.block, a.off + 6, none⟩ = some (.int .i64 x.f6) ∧ w.cell? ⟨a.block, a.off + 7, none⟩ = some (.int .i64 x.f7) ∧ w.cell? ⟨a.block, a.off + 8, none⟩ = some (.int .i64 x.f8) ∧ w.cell? ⟨a.block, a.off + 9, none⟩ = some (.int .i64 x.f9)
theorem c76_below {w W : World} {a : Addr} {x : S76} (hb : Below w.heap.size w W) (h : c76 w a x) : c76 W a x := by
  obtain ⟨h0, h1, h2, h3, h4, h5, h6, h7, h8, h9⟩ := h
  exact ⟨pw_cell_below hb h0, pw_cell_below hb h1, pw_cell_below hb h2, pw_cell_below hb h3, pw_cell_below hb h4, pw_cell_below hb h5, pw_cell_below hb h6, pw_cell_below hb h7, pw_cell_below hb h8, pw_cell_below hb h9⟩
@[reducible] def c81 (w : World) (a : Addr) (x : S81) : Prop := w.cell? a = some (.string x.f0) ∧ w.cell? ⟨a.block, a.off + 1, none⟩ = some (.int .i64 x.f1) ∧ w.cell? ⟨a.block, a.off + 2, none⟩ = some (.int .i64 x.f2)
theorem c81_below {w W : World} {a : Addr} {x : S81} (hb : Below w.heap.size w W) (h : c81 w a x) : c81 W a x := by
  obtain ⟨h0, h1, h2⟩ := h
  exact ⟨pw_cell_below hb h0, pw_cell_below hb h1, pw_cell_below hb h2⟩
@[reducible] def c83 (w : World) (a : Addr) (x : S83) : Prop := w.cell? a = some (.int .i64 x.f0) ∧ w.cell? ⟨a.block, a.off + 1, none⟩ = some (.int .i64 x.f1) ∧ w.cell? ⟨a.block, a.off + 2, none⟩ = some (.int .i64 x.f2) ∧ w.cell? ⟨a.block, a.off + 3, none⟩ = some (.int .i64 x.f3) ∧ w.cell? ⟨a.block, a.off + 4, none⟩ = some (.bool x.f4)
theorem c83_below {w W : World} {a : Addr} {x : S83} (hb : Below w.heap.size w W) (h : c83 w a x) : c83 W a x := by
  obtain ⟨h0, h1, h2, h3, h4⟩ := h
  exact ⟨pw_cell_below hb h0, pw_cell_below hb h1, pw_cell_below hb h2, pw_cell_below hb h3, pw_cell_below hb h4⟩
set_option maxHeartbeats 4000000 in
set_option maxRecDepth 100000 in
theorem eqNet1 (x0 : Int) (x1 : Int) (w : World) :
    Calls Tryz.prog 56 #[.agg #[.int .i64 x0, .int .i64 x1], .agg #[.int .i64 x0, .int .i64 x1]] w fun e w' => e = .returned (.bool true) ∧ Below w.heap.size w w' := by
  have hu := Tryz.underlying37
  go_enter Tryz.func56, Tryz.ntmps56
  go_wp2
  go_ret
  exact ⟨rfl, below_alloc (below_alloc (Below.refl _ _) _) _⟩
set_option maxHeartbeats 4000000 in
set_option maxRecDepth 100000 in
theorem eqRange1 (x0 : Int) (x1 : Int) (w : World) :
    Calls Tryz.prog 142 #[.agg #[.int .i64 x0, .int .i64 x1], .agg #[.int .i64 x0, .int .i64 x1]] w fun e w' => e = .returned (.bool true) ∧ Below w.heap.size w w' := by
  have hu := Tryz.underlying138
  go_enter Tryz.func142, Tryz.ntmps142
  go_wp2
  go_ret
  exact ⟨rfl, below_alloc (below_alloc (Below.refl _ _) _) _⟩
set_option maxHeartbeats 4000000 in
set_option maxRecDepth 100000 in
theorem eqPlace1 (x0 : Int) (x1 : Int) (x2 : Int) (x3 : Int) (w : World) :
    Calls Tryz.prog 115 #[.agg #[.int .i64 x0, .int .i64 x1, .int .i64 x2, .int .i64 x3], .agg #[.int .i64 x0, .int .i64 x1, .int .i64 x2, .int .i64 x3]] w fun e w' => e = .returned (.bool true) ∧ Below w.heap.size w w' := by
  have hu := Tryz.underlying140
  have HB := Aside0.mk (Below.refl w.heap.size w)
  go_enter Tryz.func115, Tryz.ntmps115
  go_wp2_with ((first
    | (go_at_call 56; refine (eqNet1 x0 x1 _).mono ?_; rintro e w2 ⟨rfl, hb⟩; have n_ := Aside0.mk (below_step (below_alloc (below_alloc HB.out _) _) hb))
    | (go_at_call 142; refine (eqRange1 x2 x3 _).mono ?_; rintro e w2 ⟨rfl, hb⟩; have n_ := Aside0.mk (below_step HB.out hb))); clear HB; have HB := n_; clear n_; obtain ⟨hc, hf⟩ := bcell hb; have hz : w.heap.size + 1 < w2.heap.size := (by have := hb.size; (try simp at this); omega); have hz0 : w.heap.size < w2.heap.size := (by omega); clear hb)
  go_ret
  exact ⟨rfl, HB.out⟩
set_option maxHeartbeats 4000000 in
set_option maxRecDepth 100000 in
theorem eqPlaceS1 (A0 B0 : Option Addr) (c0 d0 : Nat) (l : List S140) (w : World) (h0 : Kd.C k140 w A0 l.length l) (g0 : Kd.C k140 w B0 l.length l) (z : l.length ≤ 1152921504606846976) :
    Calls Tryz.prog 57 #[.slice A0 l.length c0, .slice B0 l.length d0] w fun e w' => e = .returned (.bool true) ∧ Below w.heap.size w w' := by
  have hu := Tryz.underlying140
  have H0 := Aside0.mk (And.intro h0 g0)
  clear h0 g0
  go_enter Tryz.func57, Tryz.ntmps57
  go_wp2
  go_loopg [5] l.length (fun gg v5 w' => ∃ i : Int, v5 = .int .i64 i ∧ 0 ≤ i ∧ i ≤ l.length ∧ l.length - i ≤ gg ∧ Aside0 (Below w.heap.size w w'))
  case atStart => exact ⟨0, rfl, Int.le_refl _, by omega, by omega, ⟨Below.refl _ _⟩⟩
  case round =>
    obtain ⟨i, rfl, hi0, hi, hgg, HB⟩ := hrel
    by_cases hlt : i < l.length
    · obtain ⟨ad, eA, hc⟩ := at_T140 (Kd.C_below H0.out.1 HB.out) i hi0 hlt
      obtain ⟨bd, eB, hd⟩ := at_T140 (Kd.C_below H0.out.2 HB.out) i hi0 hlt
      subst eA eB
      go_wp2
      go_region_held3 (fun w' => c140 w' (ad.add (i.toNat * 4)) (rd_T140 l i) ∧ c140 w' (bd.add (i.toNat * 4)) (rd_T140 l i)) (first | exact ⟨hc, hd⟩ | exact ⟨c140_below hb hc, c140_below hb hd⟩) ((go_at_call 115; refine (eqPlace1 (rd_T140 l i).f0.f0 (rd_T140 l i).f0.f1 (rd_T140 l i).f1.f0 (rd_T140 l i).f1.f1 _).mono ?_; rintro e w2 ⟨rfl, hb⟩))
      have HB2 := Aside0.mk (below_step (below_drew1 HB.out) hb)
      clear hb
      go_wp2
      go_roundg (l.length - (i + 1)).toNat
      case measure => omega
      case rel => exact ⟨i + 1, rfl, by omega, by omega, by omega, HB2⟩
    · obtain rfl : i = l.length := by omega
      go_wp2
      go_ret
      exact ⟨rfl, HB.out⟩
set_option maxHeartbeats 4000000 in
set_option maxRecDepth 100000 in
theorem eqRule1 (x0 : Int) (x1 : Int) (x2 : Int) (x3 : Int) (x4 : Int) (x5 : Bool) (w : World) :
    Calls Tryz.prog 150 #[.agg #[.int .i64 x0, .int .i64 x1, .int .i64 x2, .int .i64 x3, .int .i64 x4, .bool x5], .agg #[.int .i64 x0, .int .i64 x1, .int .i64 x2, .int .i64 x3, .int .i64 x4, .bool x5]] w fun e w' => e = .returned (.bool true) ∧ Below w.heap.size w w' := by
  have hu := Tryz.underlying183
  have HB := Aside0.mk (Below.refl w.heap.size w)
  go_enter Tryz.func150, Tryz.ntmps150
  go_wp2_with ((first
    | (go_at_call 56; refine (eqNet1 x1 x2 _).mono ?_; rintro e w2 ⟨rfl, hb⟩; have n_ := Aside0.mk (below_step (below_alloc (below_alloc HB.out _) _) hb))
    | (go_at_call 142; refine (eqRange1 x3 x4 _).mono ?_; rintro e w2 ⟨rfl, hb⟩; have n_ := Aside0.mk (below_step HB.out hb))); clear HB; have HB := n_; clear n_; obtain ⟨hc, hf⟩ := bcell hb; have hz : w.heap.size + 1 < w2.heap.size := (by have := hb.size; (try simp at this); omega); have hz0 : w.heap.size < w2.heap.size := (by omega); clear hb)
  go_ret
  exact ⟨rfl, HB.out⟩
set_option maxHeartbeats 4000000 in
set_option maxRecDepth 100000 in
theorem eqRuleS1 (A0 B0 : Option Addr) (c0 d0 : Nat) (l : List S183) (w : World) (h0 : Kd.C k183 w A0 l.length l) (g0 : Kd.C k183 w B0 l.length l) (z : l.length ≤ 1152921504606846976) :
    Calls Tryz.prog 143 #[.slice A0 l.length c0, .slice B0 l.length d0] w fun e w' => e = .returned (.bool true) ∧ Below w.heap.size w w' := by
  have hu := Tryz.underlying183
  have H0 := Aside0.mk (And.intro h0 g0)
  clear h0 g0
  go_enter Tryz.func143, Tryz.ntmps143
  go_wp2
  go_loopg [5] l.length (fun gg v5 w' => ∃ i : Int, v5 = .int .i64 i ∧ 0 ≤ i ∧ i ≤ l.length ∧ l.length - i ≤ gg ∧ Aside0 (Below w.heap.size w w'))
  case atStart => exact ⟨0, rfl, Int.le_refl _, by omega, by omega, ⟨Below.refl _ _⟩⟩
  case round =>
    obtain ⟨i, rfl, hi0, hi, hgg, HB⟩ := hrel
    by_cases hlt : i < l.length
    · obtain ⟨ad, eA, hc⟩ := at_T183 (Kd.C_below H0.out.1 HB.out) i hi0 hlt
      obtain ⟨bd, eB, hd⟩ := at_T183 (Kd.C_below H0.out.2 HB.out) i hi0 hlt
      subst eA eB
      go_wp2
      go_region_held3 (fun w' => c183 w' (ad.add (i.toNat * 6)) (rd_T183 l i) ∧ c183 w' (bd.add (i.toNat * 6)) (rd_T183 l i)) (first | exact ⟨hc, hd⟩ | exact ⟨c183_below hb hc, c183_below hb hd⟩) ((go_at_call 150; refine (eqRule1 (rd_T183 l i).f0 (rd_T183 l i).f1.f0 (rd_T183 l i).f1.f1 (rd_T183 l i).f2.f0 (rd_T183 l i).f2.f1 (rd_T183 l i).f3 _).mono ?_; rintro e w2 ⟨rfl, hb⟩))
      have HB2 := Aside0.mk (below_step (below_drew1 HB.out) hb)
      clear hb
      go_wp2
      go_roundg (l.length - (i + 1)).toNat
      case measure => omega
      case rel => exact ⟨i + 1, rfl, by omega, by omega, by omega, HB2⟩
    · obtain rfl : i = l.length := by omega
      go_wp2
      go_ret
      exact ⟨rfl, HB.out⟩
set_option maxHeartbeats 4000000 in
set_option maxRecDepth 100000 in
theorem eqRole1 (x0 : ByteArray) (A1 B1 : Option Addr) (c1 d1 : Nat) (x1 : List S183) (x2 : Int) (x3 : Int) (x4 : Int) (w : World) (h1 : Kd.C k183 w A1 x1.length x1) (g1 : Kd.C k183 w B1 x1.length x1) (z1 : x1.length ≤ 1152921504606846976) :
    Calls Tryz.prog 116 #[.agg #[.string x0, .slice A1 x1.length c1, .int .i64 x2, .int .i64 x3, .int .i64 x4], .agg #[.string x0, .slice B1 x1.length d1, .int .i64 x2, .int .i64 x3, .int .i64 x4]] w fun e w' => e = .returned (.bool true) ∧ Below w.heap.size w w' := by
  have hu := Tryz.underlying145
  have HB := Aside0.mk (Below.refl w.heap.size w)
  have HH1 := Aside0.mk (And.intro h1 g1)
  clear h1 g1
  go_enter Tryz.func116, Tryz.ntmps116
  go_wp2_with ((first
    | (go_at_call 143; refine (eqRuleS1 A1 B1 c1 d1 x1 _ (Kd.C_below HH1.out.1 (below_alloc (below_alloc HB.out _) _)) (Kd.C_below HH1.out.2 (below_alloc (below_alloc HB.out _) _)) z1).mono ?_; rintro e w2 ⟨rfl, hb⟩; have n_ := Aside0.mk (below_step (below_alloc (below_alloc HB.out _) _) hb))); clear HB; have HB := n_; clear n_; obtain ⟨hc, hf⟩ := bcell hb; have hz : w.heap.size + 1 < w2.heap.size := (by have := hb.size; (try simp at this); omega); have hz0 : w.heap.size < w2.heap.size := (by omega); clear hb)
  go_ret
  exact ⟨rfl, HB.out⟩
set_option maxHeartbeats 4000000 in
set_option maxRecDepth 100000 in
theorem eqRoleS1 (A0 B0 : Option Addr) (c0 d0 : Nat) (l : List S145) (w : World) (h0 : Kd.C k145 w A0 l.length l) (g0 : Kd.C k145 w B0 l.length l) (z : l.length ≤ 1152921504606846976) (y : ∀ r ∈ l, r.f1.length ≤ 1152921504606846976) :
    Calls Tryz.prog 58 #[.slice A0 l.length c0, .slice B0 l.length d0] w fun e w' => e = .returned (.bool true) ∧ Below w.heap.size w w' := by
  have hu := Tryz.underlying145
  have H0 := Aside0.mk (And.intro h0 g0)
  clear h0 g0
  have HY := Aside0.mk y
  clear y
  go_enter Tryz.func58, Tryz.ntmps58
  go_wp2
  go_loopg [5] l.length (fun gg v5 w' => ∃ i : Int, v5 = .int .i64 i ∧ 0 ≤ i ∧ i ≤ l.length ∧ l.length - i ≤ gg ∧ Aside0 (Below w.heap.size w w'))
  case atStart => exact ⟨0, rfl, Int.le_refl _, by omega, by omega, ⟨Below.refl _ _⟩⟩
  case round =>
    obtain ⟨i, rfl, hi0, hi, hgg, HB⟩ := hrel
    by_cases hlt : i < l.length
    · obtain ⟨ad, aA, aC, eA, a0, a1, a2, a3, a4, al, ak⟩ := at_T145 (Kd.C_below H0.out.1 HB.out) i hi0 hlt
      obtain ⟨bd, bA, bC, eB, b0, b1, b2, b3, b4, bl, bk⟩ := at_T145 (Kd.C_below H0.out.2 HB.out) i hi0 hlt
      subst eA eB
      have hc : c145 wr (ad.add (i.toNat * 5)) (rd_T145 l i) aA aC := ⟨a0, a1, a2, a3, a4⟩
      have hd : c145 wr (bd.add (i.toNat * 5)) (rd_T145 l i) bA bC := ⟨b0, b1, b2, b3, b4⟩
      have HK := Aside0.mk (And.intro ak bk)
      have hm : rd_T145 l i ∈ l := by rw [rd_T145, List.getD_eq_getElem?_getD, List.getElem?_eq_getElem (show i.toNat < l.length by omega)]; exact List.getElem_mem _
      have hy := HY.out _ hm
      clear hm ak bk al bl a0 b0 a1 b1 a2 b2 a3 b3 a4 b4
      go_wp2
      go_region_held3 (fun w' => c145 w' (ad.add (i.toNat * 5)) (rd_T145 l i) aA aC ∧ c145 w' (bd.add (i.toNat * 5)) (rd_T145 l i) bA bC) (first | exact ⟨hc, hd⟩ | exact ⟨c145_below hb hc, c145_below hb hd⟩) ((go_at_call 116; refine (eqRole1 (rd_T145 l i).f0 aA bA aC bC (rd_T145 l i).f1 (rd_T145 l i).f2 (rd_T145 l i).f3 (rd_T145 l i).f4 _ (Kd.C_below HK.out.1 (below_drew1 (Below.refl _ _))) (Kd.C_below HK.out.2 (below_drew1 (Below.refl _ _))) hy).mono ?_; rintro e w2 ⟨rfl, hb⟩))
      have HB2 := Aside0.mk (below_step (below_drew1 HB.out) hb)
      clear hb
      go_wp2
      go_roundg (l.length - (i + 1)).toNat
      case measure => omega
      case rel => exact ⟨i + 1, rfl, by omega, by omega, by omega, HB2⟩
    · obtain rfl : i = l.length := by omega
      go_wp2
      go_ret
      exact ⟨rfl, HB.out⟩
set_option maxHeartbeats 4000000 in
set_option maxRecDepth 100000 in
theorem eqConfig1 (x0 : Int) (x1 : Int) (x2 : Int) (x3 : ByteArray) (x4 : ByteArray) (x5 : Int) (A6 B6 : Option Addr) (c6 d6 : Nat) (x6 : List S140) (A7 B7 : Option Addr) (c7 d7 : Nat) (x7 : List S145) (w : World) (h6 : Kd.C k140 w A6 x6.length x6) (g6 : Kd.C k140 w B6 x6.length x6) (z6 : x6.length ≤ 1152921504606846976) (h7 : Kd.C k145 w A7 x7.length x7) (g7 : Kd.C k145 w B7 x7.length x7) (z7 : x7.length ≤ 1152921504606846976) (y7 : ∀ r ∈ x7, r.f1.length ≤ 1152921504606846976) :
    Calls Tryz.prog 13 #[.agg #[.int .i64 x0, .int .i64 x1, .int .i64 x2, .string x3, .string x4, .int .i64 x5, .slice A6 x6.length c6, .slice A7 x7.length c7], .agg #[.int .i64 x0, .int .i64 x1, .int .i64 x2, .string x3, .string x4, .int .i64 x5, .slice B6 x6.length d6, .slice B7 x7.length d7]] w fun e w' => e = .returned (.bool true) ∧ Below w.heap.size w w' := by
  have hu := Tryz.underlying41
  have HB := Aside0.mk (Below.refl w.heap.size w)
  have HH6 := Aside0.mk (And.intro h6 g6)
  clear h6 g6
  have HH7 := Aside0.mk (And.intro h7 g7)
  clear h7 g7
  have HY := Aside0.mk y7
  clear y7
  go_enter Tryz.func13, Tryz.ntmps13
  go_wp2_with ((first
    | (go_at_call 56; refine (eqNet1 x0 x1 _).mono ?_; rintro e w2 ⟨rfl, hb⟩; have n_ := Aside0.mk (below_step (below_alloc (below_alloc HB.out _) _) hb))
    | (go_at_call 57; refine (eqPlaceS1 A6 B6 c6 d6 x6 _ (Kd.C_below HH6.out.1 HB.out) (Kd.C_below HH6.out.2 HB.out) z6).mono ?_; rintro e w2 ⟨rfl, hb⟩; have n_ := Aside0.mk (below_step HB.out hb))
    | (go_at_call 58; refine (eqRoleS1 A7 B7 c7 d7 x7 _ (Kd.C_below HH7.out.1 HB.out) (Kd.C_below HH7.out.2 HB.out) z7 HY.out).mono ?_; rintro e w2 ⟨rfl, hb⟩; have n_ := Aside0.mk (below_step HB.out hb))); clear HB; have HB := n_; clear n_; obtain ⟨hc, hf⟩ := bcell hb; have hz : w.heap.size + 1 < w2.heap.size := (by have := hb.size; (try simp at this); omega); have hz0 : w.heap.size < w2.heap.size := (by omega); clear hb)
  go_ret
  exact ⟨rfl, HB.out⟩
set_option maxHeartbeats 4000000 in
set_option maxRecDepth 100000 in
theorem eqUser1 (x0 : ByteArray) (x1 : ByteArray) (x2 : ByteArray) (x3 : ByteArray) (x4 : Int) (x5 : Int) (w : World) :
    Calls Tryz.prog 117 #[.agg #[.string x0, .string x1, .string x2, .string x3, .int .i64 x4, .int .i64 x5], .agg #[.string x0, .string x1, .string x2, .string x3, .int .i64 x4, .int .i64 x5]] w fun e w' => e = .returned (.bool true) ∧ Below w.heap.size w w' := by
  have hu := Tryz.underlying92
  go_enter Tryz.func117, Tryz.ntmps117
  go_wp2
  go_ret
  exact ⟨rfl, below_alloc (below_alloc (Below.refl _ _) _) _⟩
set_option maxHeartbeats 4000000 in
set_option maxRecDepth 100000 in
theorem eqUserS1 (A0 B0 : Option Addr) (c0 d0 : Nat) (l : List S92) (w : World) (h0 : Kd.C k92 w A0 l.length l) (g0 : Kd.C k92 w B0 l.length l) (z : l.length ≤ 1152921504606846976) :
    Calls Tryz.prog 59 #[.slice A0 l.length c0, .slice B0 l.length d0] w fun e w' => e = .returned (.bool true) ∧ Below w.heap.size w w' := by
  have hu := Tryz.underlying92
  have H0 := Aside0.mk (And.intro h0 g0)
  clear h0 g0
  go_enter Tryz.func59, Tryz.ntmps59
  go_wp2
  go_loopg [5] l.length (fun gg v5 w' => ∃ i : Int, v5 = .int .i64 i ∧ 0 ≤ i ∧ i ≤ l.length ∧ l.length - i ≤ gg ∧ Aside0 (Below w.heap.size w w'))
  case atStart => exact ⟨0, rfl, Int.le_refl _, by omega, by omega, ⟨Below.refl _ _⟩⟩
  case round =>
    obtain ⟨i, rfl, hi0, hi, hgg, HB⟩ := hrel
    by_cases hlt : i < l.length
    · obtain ⟨ad, eA, hc⟩ := at_T92 (Kd.C_below H0.out.1 HB.out) i hi0 hlt
      obtain ⟨bd, eB, hd⟩ := at_T92 (Kd.C_below H0.out.2 HB.out) i hi0 hlt
      subst eA eB
      go_wp2
      go_region_held3 (fun w' => c92 w' (ad.add (i.toNat * 6)) (rd_T92 l i) ∧ c92 w' (bd.add (i.toNat * 6)) (rd_T92 l i)) (first | exact ⟨hc, hd⟩ | exact ⟨c92_below hb hc, c92_below hb hd⟩) ((go_at_call 117; refine (eqUser1 (rd_T92 l i).f0 (rd_T92 l i).f1 (rd_T92 l i).f2 (rd_T92 l i).f3 (rd_T92 l i).f4 (rd_T92 l i).f5 _).mono ?_; rintro e w2 ⟨rfl, hb⟩))
      have HB2 := Aside0.mk (below_step (below_drew1 HB.out) hb)
      clear hb
      go_wp2
      go_roundg (l.length - (i + 1)).toNat
      case measure => omega
      case rel => exact ⟨i + 1, rfl, by omega, by omega, by omega, HB2⟩
    · obtain rfl : i = l.length := by omega
      go_wp2
      go_ret
      exact ⟨rfl, HB.out⟩
set_option maxHeartbeats 4000000 in
set_option maxRecDepth 100000 in
theorem eqSession1 (x0 : Int) (x1 : Int) (x2 : ByteArray) (x3 : Int) (x4 : Int) (x5 : Int) (x6 : Int) (x7 : Int) (x8 : Int) (x9 : Int) (w : World) :
    Calls Tryz.prog 118 #[.agg #[.int .i64 x0, .int .i64 x1, .string x2, .int .i64 x3, .int .i64 x4, .int .i64 x5, .int .i64 x6, .int .i64 x7, .int .i64 x8, .int .i64 x9], .agg #[.int .i64 x0, .int .i64 x1, .string x2, .int .i64 x3, .int .i64 x4, .int .i64 x5, .int .i64 x6, .int .i64 x7, .int .i64 x8, .int .i64 x9]] w fun e w' => e = .returned (.bool true) ∧ Below w.heap.size w w' := by
  have hu := Tryz.underlying76
  go_enter Tryz.func118, Tryz.ntmps118
  go_wp2
  go_ret
  exact ⟨rfl, below_alloc (below_alloc (Below.refl _ _) _) _⟩
set_option maxHeartbeats 4000000 in
set_option maxRecDepth 100000 in
theorem eqSessionS1 (A0 B0 : Option Addr) (c0 d0 : Nat) (l : List S76) (w : World) (h0 : Kd.C k76 w A0 l.length l) (g0 : Kd.C k76 w B0 l.length l) (z : l.length ≤ 1152921504606846976) :
    Calls Tryz.prog 60 #[.slice A0 l.length c0, .slice B0 l.length d0] w fun e w' => e = .returned (.bool true) ∧ Below w.heap.size w w' := by
  have hu := Tryz.underlying76
  have H0 := Aside0.mk (And.intro h0 g0)
  clear h0 g0
  go_enter Tryz.func60, Tryz.ntmps60
  go_wp2
  go_loopg [5] l.length (fun gg v5 w' => ∃ i : Int, v5 = .int .i64 i ∧ 0 ≤ i ∧ i ≤ l.length ∧ l.length - i ≤ gg ∧ Aside0 (Below w.heap.size w w'))
  case atStart => exact ⟨0, rfl, Int.le_refl _, by omega, by omega, ⟨Below.refl _ _⟩⟩
  case round =>
    obtain ⟨i, rfl, hi0, hi, hgg, HB⟩ := hrel
    by_cases hlt : i < l.length
    · obtain ⟨ad, eA, hc⟩ := at_T76 (Kd.C_below H0.out.1 HB.out) i hi0 hlt
      obtain ⟨bd, eB, hd⟩ := at_T76 (Kd.C_below H0.out.2 HB.out) i hi0 hlt
      subst eA eB
      go_wp2
      go_region_held3 (fun w' => c76 w' (ad.add (i.toNat * 10)) (rd_T76 l i) ∧ c76 w' (bd.add (i.toNat * 10)) (rd_T76 l i)) (first | exact ⟨hc, hd⟩ | exact ⟨c76_below hb hc, c76_below hb hd⟩) ((go_at_call 118; refine (eqSession1 (rd_T76 l i).f0 (rd_T76 l i).f1 (rd_T76 l i).f2 (rd_T76 l i).f3 (rd_T76 l i).f4 (rd_T76 l i).f5 (rd_T76 l i).f6 (rd_T76 l i).f7 (rd_T76 l i).f8 (rd_T76 l i).f9 _).mono ?_; rintro e w2 ⟨rfl, hb⟩))
      have HB2 := Aside0.mk (below_step (below_drew1 HB.out) hb)
      clear hb
      go_wp2
      go_roundg (l.length - (i + 1)).toNat
      case measure => omega
      case rel => exact ⟨i + 1, rfl, by omega, by omega, by omega, HB2⟩
    · obtain rfl : i = l.length := by omega
      go_wp2
      go_ret
      exact ⟨rfl, HB.out⟩
set_option maxHeartbeats 4000000 in
set_option maxRecDepth 100000 in
theorem eqFail1 (x0 : ByteArray) (x1 : Int) (x2 : Int) (w : World) :
    Calls Tryz.prog 119 #[.agg #[.string x0, .int .i64 x1, .int .i64 x2], .agg #[.string x0, .int .i64 x1, .int .i64 x2]] w fun e w' => e = .returned (.bool true) ∧ Below w.heap.size w w' := by
  have hu := Tryz.underlying81
  go_enter Tryz.func119, Tryz.ntmps119
  go_wp2
  go_ret
  exact ⟨rfl, below_alloc (below_alloc (Below.refl _ _) _) _⟩
set_option maxHeartbeats 4000000 in
set_option maxRecDepth 100000 in
theorem eqFailS1 (A0 B0 : Option Addr) (c0 d0 : Nat) (l : List S81) (w : World) (h0 : Kd.C k81 w A0 l.length l) (g0 : Kd.C k81 w B0 l.length l) (z : l.length ≤ 1152921504606846976) :
    Calls Tryz.prog 61 #[.slice A0 l.length c0, .slice B0 l.length d0] w fun e w' => e = .returned (.bool true) ∧ Below w.heap.size w w' := by
  have hu := Tryz.underlying81
  have H0 := Aside0.mk (And.intro h0 g0)
  clear h0 g0
  go_enter Tryz.func61, Tryz.ntmps61
  go_wp2
  go_loopg [5] l.length (fun gg v5 w' => ∃ i : Int, v5 = .int .i64 i ∧ 0 ≤ i ∧ i ≤ l.length ∧ l.length - i ≤ gg ∧ Aside0 (Below w.heap.size w w'))
  case atStart => exact ⟨0, rfl, Int.le_refl _, by omega, by omega, ⟨Below.refl _ _⟩⟩
  case round =>
    obtain ⟨i, rfl, hi0, hi, hgg, HB⟩ := hrel
    by_cases hlt : i < l.length
    · obtain ⟨ad, eA, hc⟩ := at_T81 (Kd.C_below H0.out.1 HB.out) i hi0 hlt
      obtain ⟨bd, eB, hd⟩ := at_T81 (Kd.C_below H0.out.2 HB.out) i hi0 hlt
      subst eA eB
      go_wp2
      go_region_held3 (fun w' => c81 w' (ad.add (i.toNat * 3)) (rd_T81 l i) ∧ c81 w' (bd.add (i.toNat * 3)) (rd_T81 l i)) (first | exact ⟨hc, hd⟩ | exact ⟨c81_below hb hc, c81_below hb hd⟩) ((go_at_call 119; refine (eqFail1 (rd_T81 l i).f0 (rd_T81 l i).f1 (rd_T81 l i).f2 _).mono ?_; rintro e w2 ⟨rfl, hb⟩))
      have HB2 := Aside0.mk (below_step (below_drew1 HB.out) hb)
      clear hb
      go_wp2
      go_roundg (l.length - (i + 1)).toNat
      case measure => omega
      case rel => exact ⟨i + 1, rfl, by omega, by omega, by omega, HB2⟩
    · obtain rfl : i = l.length := by omega
      go_wp2
      go_ret
      exact ⟨rfl, HB.out⟩
set_option maxHeartbeats 4000000 in
set_option maxRecDepth 100000 in
theorem eqRecord1 (x0 : Int) (x1 : Int) (x2 : Int) (x3 : Int) (x4 : Bool) (w : World) :
    Calls Tryz.prog 120 #[.agg #[.int .i64 x0, .int .i64 x1, .int .i64 x2, .int .i64 x3, .bool x4], .agg #[.int .i64 x0, .int .i64 x1, .int .i64 x2, .int .i64 x3, .bool x4]] w fun e w' => e = .returned (.bool true) ∧ Below w.heap.size w w' := by
  have hu := Tryz.underlying83
  go_enter Tryz.func120, Tryz.ntmps120
  go_wp2
  go_ret
  exact ⟨rfl, below_alloc (below_alloc (Below.refl _ _) _) _⟩
set_option maxHeartbeats 4000000 in
set_option maxRecDepth 100000 in
theorem eqRecordS1 (A0 B0 : Option Addr) (c0 d0 : Nat) (l : List S83) (w : World) (h0 : Kd.C k83 w A0 l.length l) (g0 : Kd.C k83 w B0 l.length l) (z : l.length ≤ 1152921504606846976) :
    Calls Tryz.prog 62 #[.slice A0 l.length c0, .slice B0 l.length d0] w fun e w' => e = .returned (.bool true) ∧ Below w.heap.size w w' := by
  have hu := Tryz.underlying83
  have H0 := Aside0.mk (And.intro h0 g0)
  clear h0 g0
  go_enter Tryz.func62, Tryz.ntmps62
  go_wp2
  go_loopg [5] l.length (fun gg v5 w' => ∃ i : Int, v5 = .int .i64 i ∧ 0 ≤ i ∧ i ≤ l.length ∧ l.length - i ≤ gg ∧ Aside0 (Below w.heap.size w w'))
  case atStart => exact ⟨0, rfl, Int.le_refl _, by omega, by omega, ⟨Below.refl _ _⟩⟩
  case round =>
    obtain ⟨i, rfl, hi0, hi, hgg, HB⟩ := hrel
    by_cases hlt : i < l.length
    · obtain ⟨ad, eA, hc⟩ := at_T83 (Kd.C_below H0.out.1 HB.out) i hi0 hlt
      obtain ⟨bd, eB, hd⟩ := at_T83 (Kd.C_below H0.out.2 HB.out) i hi0 hlt
      subst eA eB
      go_wp2
      go_region_held3 (fun w' => c83 w' (ad.add (i.toNat * 5)) (rd_T83 l i) ∧ c83 w' (bd.add (i.toNat * 5)) (rd_T83 l i)) (first | exact ⟨hc, hd⟩ | exact ⟨c83_below hb hc, c83_below hb hd⟩) ((go_at_call 120; refine (eqRecord1 (rd_T83 l i).f0 (rd_T83 l i).f1 (rd_T83 l i).f2 (rd_T83 l i).f3 (rd_T83 l i).f4 _).mono ?_; rintro e w2 ⟨rfl, hb⟩))
      have HB2 := Aside0.mk (below_step (below_drew1 HB.out) hb)
      clear hb
      go_wp2
      go_roundg (l.length - (i + 1)).toNat
      case measure => omega
      case rel => exact ⟨i + 1, rfl, by omega, by omega, by omega, HB2⟩
    · obtain rfl : i = l.length := by omega
      go_wp2
      go_ret
      exact ⟨rfl, HB.out⟩
set_option maxHeartbeats 4000000 in
set_option maxRecDepth 100000 in
theorem eqGuests1 (A0 B0 : Option Addr) (c0 d0 : Nat) (x0 : List S92) (A1 B1 : Option Addr) (c1 d1 : Nat) (x1 : List S76) (A2 B2 : Option Addr) (c2 d2 : Nat) (x2 : List S81) (A3 B3 : Option Addr) (c3 d3 : Nat) (x3 : List S83) (x4 : Int) (w : World) (h0 : Kd.C k92 w A0 x0.length x0) (g0 : Kd.C k92 w B0 x0.length x0) (z0 : x0.length ≤ 1152921504606846976) (h1 : Kd.C k76 w A1 x1.length x1) (g1 : Kd.C k76 w B1 x1.length x1) (z1 : x1.length ≤ 1152921504606846976) (h2 : Kd.C k81 w A2 x2.length x2) (g2 : Kd.C k81 w B2 x2.length x2) (z2 : x2.length ≤ 1152921504606846976) (h3 : Kd.C k83 w A3 x3.length x3) (g3 : Kd.C k83 w B3 x3.length x3) (z3 : x3.length ≤ 1152921504606846976) :
    Calls Tryz.prog 14 #[.agg #[.slice A0 x0.length c0, .slice A1 x1.length c1, .slice A2 x2.length c2, .slice A3 x3.length c3, .int .i64 x4], .agg #[.slice B0 x0.length d0, .slice B1 x1.length d1, .slice B2 x2.length d2, .slice B3 x3.length d3, .int .i64 x4]] w fun e w' => e = .returned (.bool true) ∧ Below w.heap.size w w' := by
  have hu := Tryz.underlying48
  have HB := Aside0.mk (Below.refl w.heap.size w)
  have HH0 := Aside0.mk (And.intro h0 g0)
  clear h0 g0
  have HH1 := Aside0.mk (And.intro h1 g1)
  clear h1 g1
  have HH2 := Aside0.mk (And.intro h2 g2)
  clear h2 g2
  have HH3 := Aside0.mk (And.intro h3 g3)
  clear h3 g3
  go_enter Tryz.func14, Tryz.ntmps14
  go_wp2_with ((first
    | (go_at_call 59; refine (eqUserS1 A0 B0 c0 d0 x0 _ (Kd.C_below HH0.out.1 (below_alloc (below_alloc HB.out _) _)) (Kd.C_below HH0.out.2 (below_alloc (below_alloc HB.out _) _)) z0).mono ?_; rintro e w2 ⟨rfl, hb⟩; have n_ := Aside0.mk (below_step (below_alloc (below_alloc HB.out _) _) hb))
    | (go_at_call 60; refine (eqSessionS1 A1 B1 c1 d1 x1 _ (Kd.C_below HH1.out.1 HB.out) (Kd.C_below HH1.out.2 HB.out) z1).mono ?_; rintro e w2 ⟨rfl, hb⟩; have n_ := Aside0.mk (below_step HB.out hb))
    | (go_at_call 61; refine (eqFailS1 A2 B2 c2 d2 x2 _ (Kd.C_below HH2.out.1 HB.out) (Kd.C_below HH2.out.2 HB.out) z2).mono ?_; rintro e w2 ⟨rfl, hb⟩; have n_ := Aside0.mk (below_step HB.out hb))
    | (go_at_call 62; refine (eqRecordS1 A3 B3 c3 d3 x3 _ (Kd.C_below HH3.out.1 HB.out) (Kd.C_below HH3.out.2 HB.out) z3).mono ?_; rintro e w2 ⟨rfl, hb⟩; have n_ := Aside0.mk (below_step HB.out hb))); clear HB; have HB := n_; clear n_; obtain ⟨hc, hf⟩ := bcell hb; have hz : w.heap.size + 1 < w2.heap.size := (by have := hb.size; (try simp at this); omega); have hz0 : w.heap.size < w2.heap.size := (by omega); clear hb)
  go_ret
  exact ⟨rfl, HB.out⟩
end
section
/-! ### impl_isDigit: function 148 -/
def impl_isDigit.f (a0 : Int) : Option (Bool) := if a0 ≥ 48 then (some (decide (a0 ≤ 57))) else (some false)
set_option maxHeartbeats 8000000 in
set_option maxRecDepth 100000 in
theorem impl_isDigit.calls (a0 : Int) (r : Bool) (w : World) (h : impl_isDigit.f a0 = some r) :
    Calls Tryz.prog 148 #[.int .u8 a0] w fun e w' => e = .returned (.bool r) ∧ Drawn0 w w' := by
  have H : (if a0 ≥ 48 then (some (decide (a0 ≤ 57))) else (some false)) = some r := h
  clear h
  by_cases c2 : a0 ≥ 48
  · rw [if_pos c2] at H
    have c2b0 : decide (48 ≤ a0) = true := decide_eq_true c2
    clear c2
    obtain rfl := Option.some.inj H
    go_enter Tryz.func148, Tryz.ntmps148
    go_wp2
    go_ret
    exact ⟨by first | rfl | (simp; done) | (simp [*]; done) | (simp [ne_nil_b]; done) | (simp [ne_nil_b, *]; done), by repeat (first | exact Drawn0.refl _ | apply Drawn0.step)⟩
  · rw [if_neg c2] at H
    have c2b0 : decide (48 ≤ a0) = false := decide_eq_false c2
    clear c2
    obtain rfl := Option.some.inj H
    go_enter Tryz.func148, Tryz.ntmps148
    go_wp2
    go_ret
    exact ⟨by first | rfl | (simp; done) | (simp [*]; done) | (simp [ne_nil_b]; done) | (simp [ne_nil_b, *]; done), by repeat (first | exact Drawn0.refl _ | apply Drawn0.step)⟩
end
section
/-! ### impl_isLetter: function 149 -/
def impl_isLetter.f (a0 : Int) : Option (Bool) := if a0 ≥ 97 then (if a0 ≤ 122 then (some true) else (if a0 ≥ 65 then (if a0 ≤ 90 then (some true) else (some (a0 == 95))) else (some (a0 == 95)))) else (if a0 ≥ 65 then (if a0 ≤ 90 then (some true) else (some (a0 == 95))) else (some (a0 == 95)))
set_option maxHeartbeats 8000000 in
set_option maxRecDepth 100000 in
theorem impl_isLetter.calls (a0 : Int) (r : Bool) (w : World) (h : impl_isLetter.f a0 = some r) :
    Calls Tryz.prog 149 #[.int .u8 a0] w fun e w' => e = .returned (.bool r) ∧ Drawn0 w w' := by
  have H : (if a0 ≥ 97 then (if a0 ≤ 122 then (some true) else (if a0 ≥ 65 then (if a0 ≤ 90 then (some true) else (some (a0 == 95))) else (some (a0 == 95)))) else (if a0 ≥ 65 then (if a0 ≤ 90 then (some true) else (some (a0 == 95))) else (some (a0 == 95)))) = some r := h
  clear h
  by_cases c2 : a0 ≥ 97
  · rw [if_pos c2] at H
    have c2b0 : decide (97 ≤ a0) = true := decide_eq_true c2
    clear c2
    by_cases c3 : a0 ≤ 122
    · rw [if_pos c3] at H
      have c3b0 : decide (a0 ≤ 122) = true := decide_eq_true c3
      clear c3
      obtain rfl := Option.some.inj H
      go_enter Tryz.func149, Tryz.ntmps149
      go_wp2
      go_ret
      exact ⟨by first | rfl | (simp; done) | (simp [*]; done) | (simp [ne_nil_b]; done) | (simp [ne_nil_b, *]; done), by repeat (first | exact Drawn0.refl _ | apply Drawn0.step)⟩
    · rw [if_neg c3] at H
      have c3b0 : decide (a0 ≤ 122) = false := decide_eq_false c3
      clear c3
      by_cases c4 : a0 ≥ 65
      · rw [if_pos c4] at H
        have c4b0 : decide (65 ≤ a0) = true := decide_eq_true c4
        clear c4
        by_cases c5 : a0 ≤ 90
        · rw [if_pos c5] at H
          have c5b0 : decide (a0 ≤ 90) = true := decide_eq_true c5
          clear c5
          obtain rfl := Option.some.inj H
          go_enter Tryz.func149, Tryz.ntmps149
          go_wp2
          go_ret
          exact ⟨by first | rfl | (simp; done) | (simp [*]; done) | (simp [ne_nil_b]; done) | (simp [ne_nil_b, *]; done), by repeat (first | exact Drawn0.refl _ | apply Drawn0.step)⟩
        · rw [if_neg c5] at H
          have c5b0 : decide (a0 ≤ 90) = false := decide_eq_false c5
          clear c5
          obtain rfl := Option.some.inj H
          go_enter Tryz.func149, Tryz.ntmps149
          go_wp2
          go_ret
          exact ⟨by first | rfl | (simp; done) | (simp [*]; done) | (simp [ne_nil_b]; done) | (simp [ne_nil_b, *]; done), by repeat (first | exact Drawn0.refl _ | apply Drawn0.step)⟩
      · rw [if_neg c4] at H
        have c4b0 : decide (65 ≤ a0) = false := decide_eq_false c4
        clear c4
        obtain rfl := Option.some.inj H
        go_enter Tryz.func149, Tryz.ntmps149
        go_wp2
        go_ret
        exact ⟨by first | rfl | (simp; done) | (simp [*]; done) | (simp [ne_nil_b]; done) | (simp [ne_nil_b, *]; done), by repeat (first | exact Drawn0.refl _ | apply Drawn0.step)⟩
  · rw [if_neg c2] at H
    have c2b0 : decide (97 ≤ a0) = false := decide_eq_false c2
    clear c2
    by_cases c6 : a0 ≥ 65
    · rw [if_pos c6] at H
      have c6b0 : decide (65 ≤ a0) = true := decide_eq_true c6
      clear c6
      by_cases c7 : a0 ≤ 90
      · rw [if_pos c7] at H
        have c7b0 : decide (a0 ≤ 90) = true := decide_eq_true c7
        clear c7
        obtain rfl := Option.some.inj H
        go_enter Tryz.func149, Tryz.ntmps149
        go_wp2
        go_ret
        exact ⟨by first | rfl | (simp; done) | (simp [*]; done) | (simp [ne_nil_b]; done) | (simp [ne_nil_b, *]; done), by repeat (first | exact Drawn0.refl _ | apply Drawn0.step)⟩
      · rw [if_neg c7] at H
        have c7b0 : decide (a0 ≤ 90) = false := decide_eq_false c7
        clear c7
        obtain rfl := Option.some.inj H
        go_enter Tryz.func149, Tryz.ntmps149
        go_wp2
        go_ret
        exact ⟨by first | rfl | (simp; done) | (simp [*]; done) | (simp [ne_nil_b]; done) | (simp [ne_nil_b, *]; done), by repeat (first | exact Drawn0.refl _ | apply Drawn0.step)⟩
    · rw [if_neg c6] at H
      have c6b0 : decide (65 ≤ a0) = false := decide_eq_false c6
      clear c6
      obtain rfl := Option.some.inj H
      go_enter Tryz.func149, Tryz.ntmps149
      go_wp2
      go_ret
      exact ⟨by first | rfl | (simp; done) | (simp [*]; done) | (simp [ne_nil_b]; done) | (simp [ne_nil_b, *]; done), by repeat (first | exact Drawn0.refl _ | apply Drawn0.step)⟩
end
section
/-! ### impl_within: function 47 -/
def impl_within.f (a0 : Int) (a1 : Int) (a2 : Int) : Option (Bool) := if a0 ≥ a1 then (some (decide (a0 ≤ a2))) else (some false)
set_option maxHeartbeats 8000000 in
set_option maxRecDepth 100000 in
theorem impl_within.calls (a0 : Int) (a1 : Int) (a2 : Int) (r : Bool) (w : World) (h : impl_within.f a0 a1 a2 = some r) :
    Calls Tryz.prog 47 #[.int .i64 a0, .int .i64 a1, .int .i64 a2] w fun e w' => e = .returned (.bool r) ∧ Drawn0 w w' := by
  have H : (if a0 ≥ a1 then (some (decide (a0 ≤ a2))) else (some false)) = some r := h
  clear h
  by_cases c4 : a0 ≥ a1
  · rw [if_pos c4] at H
    have c4b0 : decide (a1 ≤ a0) = true := decide_eq_true c4
    clear c4
    obtain rfl := Option.some.inj H
    go_enter Tryz.func47, Tryz.ntmps47
    go_wp2
    go_ret
    exact ⟨by first | rfl | (simp; done) | (simp [*]; done) | (simp [ne_nil_b]; done) | (simp [ne_nil_b, *]; done), by repeat (first | exact Drawn0.refl _ | apply Drawn0.step)⟩
  · rw [if_neg c4] at H
    have c4b0 : decide (a1 ≤ a0) = false := decide_eq_false c4
    clear c4
    obtain rfl := Option.some.inj H
    go_enter Tryz.func47, Tryz.ntmps47
    go_wp2
    go_ret
    exact ⟨by first | rfl | (simp; done) | (simp [*]; done) | (simp [ne_nil_b]; done) | (simp [ne_nil_b, *]; done), by repeat (first | exact Drawn0.refl _ | apply Drawn0.step)⟩
end
section
/-! ### impl_NameOK: function 141 -/
mutual
def impl_NameOK.j0 : Nat → ByteArray → Bool → Option (Bool)
  | 0, _, _ => none
  | k + 1, x0, x12 => if x12 = true then (some false) else (impl_NameOK.l0 k x0 (x0.size : Int) 0)
def impl_NameOK.l0 : Nat → ByteArray → Int → Int → Option (Bool)
  | 0, _, _, _ => none
  | k + 1, x0, x14, x15 => if x15 < x14 then (if 0 ≤ x15 then (if x15 < (x0.size : Int) then ((impl_isLetter.f (bt x0 x15)).bind fun t362 => (if t362 = true then (impl_NameOK.l0 k x0 x14 (wrap64 (x15 + 1))) else ((impl_isDigit.f (bt x0 x15)).bind fun t363 => (if t363 = true then (impl_NameOK.l0 k x0 x14 (wrap64 (x15 + 1))) else (some false))))) else (none)) else (none)) else (some true)
end
def impl_NameOK.f (k : Nat) (a0 : ByteArray) : Option (Bool) := (impl_within.f (a0.size : Int) 1 40).bind fun t360 => (if t360 = true then (if 0 < (a0.size : Int) then ((impl_isDigit.f (bt a0 0)).bind fun t361 => (impl_NameOK.j0 k a0 t361)) else (none)) else (impl_NameOK.j0 k a0 true))
theorem impl_NameOK.mono_l : ∀ k, (∀ y0 y1, LeO (impl_NameOK.j0 k y0 y1) (impl_NameOK.j0 (k + 1) y0 y1)) ∧ (∀ y0 y1 y2, LeO (impl_NameOK.l0 k y0 y1 y2) (impl_NameOK.l0 (k + 1) y0 y1 y2))
  | 0 => ⟨fun _ _ r h => by simp [impl_NameOK.j0] at h, fun _ _ _ r h => by simp [impl_NameOK.l0] at h⟩
  | k + 1 => by
    obtain ⟨ih0, ih1⟩ := impl_NameOK.mono_l k
    refine ⟨?_, ?_⟩
    · intro y0 y1
      unfold impl_NameOK.j0
      repeat' first
      | (with_reducible exact ih0 _ _)
      | (with_reducible exact ih1 _ _ _)
      | (with_reducible exact LeO.refl _)
      | (with_reducible exact LeO.none _)
      | (with_reducible refine LeO.ite ?_ ?_)
      | (with_reducible refine LeO.bind ?_ (fun _ => ?_))
      | exact ih0 _ _
      | exact ih1 _ _ _
      | exact LeO.none _
      | refine LeO.ite ?_ ?_
      | refine LeO.bind ?_ (fun _ => ?_)
    · intro y0 y1 y2
      unfold impl_NameOK.l0
      repeat' first
      | (with_reducible exact ih0 _ _)
      | (with_reducible exact ih1 _ _ _)
      | (with_reducible exact LeO.refl _)
      | (with_reducible exact LeO.none _)
      | (with_reducible refine LeO.ite ?_ ?_)
      | (with_reducible refine LeO.bind ?_ (fun _ => ?_))
      | exact ih0 _ _
      | exact ih1 _ _ _
      | exact LeO.none _
      | refine LeO.ite ?_ ?_
      | refine LeO.bind ?_ (fun _ => ?_)
theorem impl_NameOK.mono : ∀ a0 k, LeO (impl_NameOK.f k a0) (impl_NameOK.f (k + 1) a0) := by
  intro a0 k
  obtain ⟨ih0, ih1⟩ := impl_NameOK.mono_l k
  unfold impl_NameOK.f
  repeat' first
      | (with_reducible exact ih0 _ _)
      | (with_reducible exact ih1 _ _ _)
      | (with_reducible exact LeO.refl _)
      | (with_reducible exact LeO.none _)
      | (with_reducible refine LeO.ite ?_ ?_)
      | (with_reducible refine LeO.bind ?_ (fun _ => ?_))
      | exact ih0 _ _
      | exact ih1 _ _ _
      | exact LeO.none _
      | refine LeO.ite ?_ ?_
      | refine LeO.bind ?_ (fun _ => ?_)
set_option maxHeartbeats 8000000 in
set_option maxRecDepth 100000 in
theorem impl_NameOK.calls (k : Nat) (a0 : ByteArray) (r : Bool) (w : World) (h : impl_NameOK.f k a0 = some r) :
    Calls Tryz.prog 141 #[.string a0] w fun e w' => e = .returned (.bool r) ∧ Drawn0 w w' := by
  have H : ((impl_within.f (a0.size : Int) 1 40).bind fun t360 => (if t360 = true then (if 0 < (a0.size : Int) then ((impl_isDigit.f (bt a0 0)).bind fun t361 => (impl_NameOK.j0 k a0 t361)) else (none)) else (impl_NameOK.j0 k a0 true))) = some r := h
  clear h
  have HC2 := Aside0.mk H
  clear H
  go_enter Tryz.func141, Tryz.ntmps141
  go_upto_region 1 with (fail)
  go_cut [12] (fun v12 wc => ∃ (kq : Nat) (x12_1 : Bool), v12 = .bool x12_1 ∧ Aside0 (impl_NameOK.j0 kq a0 x12_1 = some r) ∧ Aside0 (kq ≤ k) ∧ Drawn0 w wc)
  case first =>
    have H := HC2.out
    clear HC2
    replace H := Option.bind_eq_some_iff.mp H
    obtain ⟨t360, A30, H⟩ := H
    replace H : (if t360 = true then (if 0 < (a0.size : Int) then ((impl_isDigit.f (bt a0 0)).bind fun t361 => (impl_NameOK.j0 k a0 t361)) else (none)) else (impl_NameOK.j0 k a0 true)) = some r := H
    have A3 := Aside0.mk A30
    clear A30
    by_cases c4 : t360 = true
    · subst c4
      have H1 : (if 0 < (a0.size : Int) then ((impl_isDigit.f (bt a0 0)).bind fun t361 => (impl_NameOK.j0 k a0 t361)) else (none)) = some r := by rw [if_pos rfl] at H; exact H
      clear H
      have H := H1
      clear H1
      by_cases c5 : 0 < (a0.size : Int)
      · rw [if_pos c5] at H
        have c5b0 : decide (0 < (a0.size : Int)) = true := decide_eq_true c5
        have c5b1 : decide (0 < a0.size) = true := decide_eq_true (by omega)
        clear c5
        (first | rw [c5b0] | (simp only [i64_w, i32_w]; rw [c5b0]) | skip)
        replace H := Option.bind_eq_some_iff.mp H
        obtain ⟨t361, A70, H⟩ := H
        replace H : (impl_NameOK.j0 k a0 t361) = some r := H
        have A7 := Aside0.mk A70
        clear A70
        have H' := Aside0.mk H
        clear H
        go_wp2_with (first | ((with_reducible refine gate_callee (f := 47) rfl ?_); refine goesL_ (some 6) rfl rfl Tryz.func47 (by kernel_rfl) rfl #[.int .i64 (a0.size : Int), .int .i64 1, .int .i64 40] rfl (by (try simp only [List.map_toArray, List.map_cons, List.map_nil]); first | done | rfl | (simp only [List.length_drop, List.length_take]; rfl)) ?_; (with_reducible refine (impl_within.calls (a0.size : Int) 1 40 true _ A3.out).mono ?_); rintro e w' ⟨rfl, ⟨nd, rfl⟩⟩; refine ⟨_, rfl, ?_⟩; have p6 : 0 ≤ (0 : Int) := (by omega); have q6 : 0 < a0.size := (by have : (0 : Int) < (a0.size : Int) := of_decide_eq_true (by first | (with_reducible assumption) | assumption); omega); have hx6 : ∀ h : 0 < a0.size, ((a0[0]'h).toNat : Int) = bt a0 0 := bt_at a0 0; clear p6; have qi6 : (0 < (a0.size : Int)) = True := eq_true (of_decide_eq_true (by first | (with_reducible assumption) | assumption)); replace q6 := eq_true q6) | (go_at_call 148; (with_reducible refine (impl_isDigit.calls (bt a0 0) t361 _ A7.out).mono ?_); rintro e w' ⟨rfl, ⟨nd, rfl⟩⟩))
        go_meet
        case rel => exact ⟨_, (t361), (by first | rfl | (simp; done) | (simp [*]; done) | (simp [ne_nil_b]; done) | (simp [ne_nil_b, *]; done)), H', ⟨by first | omega | exact Nat.le_refl _⟩, by repeat (first | exact Drawn0.refl _ | apply Drawn0.step)⟩
      · rw [if_neg c5] at H
        exact absurd H (by simp)
    · replace c4 := Bool.eq_false_iff.mpr c4
      subst c4
      have H1 : (impl_NameOK.j0 k a0 true) = some r := by rw [if_neg (show ¬ (false = true) by decide)] at H; exact H
      clear H
      have H := H1
      clear H1
      have H' := Aside0.mk H
      clear H
      go_wp2_with (first | ((with_reducible refine gate_callee (f := 47) rfl ?_); refine goesL_ (some 6) rfl rfl Tryz.func47 (by kernel_rfl) rfl #[.int .i64 (a0.size : Int), .int .i64 1, .int .i64 40] rfl (by (try simp only [List.map_toArray, List.map_cons, List.map_nil]); first | done | rfl | (simp only [List.length_drop, List.length_take]; rfl)) ?_; (with_reducible refine (impl_within.calls (a0.size : Int) 1 40 false _ A3.out).mono ?_); rintro e w' ⟨rfl, ⟨nd, rfl⟩⟩; refine ⟨_, rfl, ?_⟩))
      go_meet
      case rel => exact ⟨_, (true), (by first | rfl | (simp; done) | (simp [*]; done) | (simp [ne_nil_b]; done) | (simp [ne_nil_b, *]; done)), H', ⟨by first | omega | exact Nat.le_refl _⟩, by repeat (first | exact Drawn0.refl _ | apply Drawn0.step)⟩
  case rest =>
    clear HC2
    try clear c1
    try clear p2
    try clear c4
    try clear c5
    try clear c5b0
    try clear c5b1
    try clear p6
    try clear q6
    try clear hx6
    try clear qi6
    try clear p6
    try clear q6
    obtain ⟨kq, x12_1, rfl, HA, HJ1, ⟨mc1, rfl⟩⟩ := hcut
    cases kq with
    | zero => exact absurd HA.out (by simp [impl_NameOK.j0])
    | succ kj1 =>
      have H := HA.out
      clear HA
      simp only [impl_NameOK.j0] at H
      by_cases c8 : x12_1 = true
      · subst c8
        have H1 : (some false) = some r := by rw [if_pos rfl] at H; exact H
        clear H
        have H := H1
        clear H1
        obtain rfl := Option.some.inj H
        go_wp2
        go_ret
        exact ⟨by first | rfl | (simp; done) | (simp [*]; done) | (simp [ne_nil_b]; done) | (simp [ne_nil_b, *]; done), by repeat (first | exact Drawn0.refl _ | apply Drawn0.step)⟩
      · replace c8 := Bool.eq_false_iff.mpr c8
        subst c8
        have H1 : (impl_NameOK.l0 kj1 a0 (a0.size : Int) 0) = some r := by rw [if_neg (show ¬ (false = true) by decide)] at H; exact H
        clear H
        have H := H1
        clear H1
        have H' := Aside0.mk H
        clear H
        go_wp2
        go_loopg [15] kj1 (fun kq v15 w' => ∃ (x15_2 : Int), v15 = .int .i64 x15_2 ∧ Aside0 (impl_NameOK.l0 kq a0 (a0.size : Int) x15_2 = some r) ∧ Aside0 (kq ≤ kj1) ∧ Drawn0 w w')
        case atStart => exact ⟨(0), (by first | rfl | (simp; done) | (simp [*]; done) | (simp [ne_nil_b]; done) | (simp [ne_nil_b, *]; done)), H', ⟨Nat.le_refl _⟩, by repeat (first | exact Drawn0.refl _ | apply Drawn0.step)⟩
        case round =>
          clear H'
          try clear c1
          try clear p2
          try clear c4
          try clear c5
          try clear c5b0
          try clear c5b1
          try clear p6
          try clear q6
          try clear hx6
          try clear qi6
          try clear c8
          try clear p2
          try clear p6
          try clear q6
          obtain ⟨x15_2, rfl, HA, HK2, ⟨m2, rfl⟩⟩ := hrel
          cases gk with
          | zero => exact absurd HA.out (by simp [impl_NameOK.l0])
          | succ k2 =>
            have H := HA.out
            clear HA
            simp only [impl_NameOK.l0] at H
            by_cases c9 : x15_2 < (a0.size : Int)
            · rw [if_pos c9] at H
              have c9b0 : decide (x15_2 < (a0.size : Int)) = true := decide_eq_true c9
              clear c9
              by_cases c10 : 0 ≤ x15_2
              · rw [if_pos c10] at H
                have c10b0 : decide (0 ≤ x15_2) = true := decide_eq_true c10
                clear c10
                by_cases c11 : x15_2 < (a0.size : Int)
                · rw [if_pos c11] at H
                  have c11b0 : decide (x15_2 < (a0.size : Int)) = true := decide_eq_true c11
                  clear c11
                  replace H := Option.bind_eq_some_iff.mp H
                  obtain ⟨t362, A130, H⟩ := H
                  replace H : (if t362 = true then (impl_NameOK.l0 k2 a0 (a0.size : Int) (wrap64 (x15_2 + 1))) else ((impl_isDigit.f (bt a0 x15_2)).bind fun t363 => (if t363 = true then (impl_NameOK.l0 k2 a0 (a0.size : Int) (wrap64 (x15_2 + 1))) else (some false)))) = some r := H
                  have A13 := Aside0.mk A130
                  clear A130
                  by_cases c14 : t362 = true
                  · subst c14
                    have H1 : (impl_NameOK.l0 k2 a0 (a0.size : Int) (wrap64 (x15_2 + 1))) = some r := by rw [if_pos rfl] at H; exact H
                    clear H
                    have H := H1
                    clear H1
                    have H' := Aside0.mk H
                    clear H
                    have p12 : 0 ≤ (x15_2 : Int) := of_decide_eq_true (by first | (with_reducible assumption) | assumption)
                    have q12 : x15_2 < (a0.size : Int) := of_decide_eq_true (by first | (with_reducible assumption) | assumption)
                    have hx12 := bt_at a0 x15_2
                    replace p12 := eq_true p12
                    replace q12 := eq_true q12
                    go_wp2_with (first | ((with_reducible refine gate_callee (f := 149) rfl ?_); refine goesL_ (some 21) rfl rfl Tryz.func149 (by kernel_rfl) rfl #[.int .u8 (bt a0 x15_2)] rfl (by (try simp only [List.map_toArray, List.map_cons, List.map_nil]); first | done | rfl | (simp only [List.length_drop, List.length_take]; rfl)) ?_; (with_reducible refine (impl_isLetter.calls (bt a0 x15_2) true _ A13.out).mono ?_); rintro e w' ⟨rfl, ⟨nd, rfl⟩⟩; refine ⟨_, rfl, ?_⟩))
                    go_roundg k2
                    case measure => have := HJ1.out; have := HK2.out; omega
                    case rel => exact ⟨(wrap64 (x15_2 + 1)), (by first | rfl | (simp; done) | (simp [*]; done) | (simp [ne_nil_b]; done) | (simp [ne_nil_b, *]; done)), H', ⟨by have := HJ1.out; have := HK2.out; omega⟩, by repeat (first | exact Drawn0.refl _ | apply Drawn0.step)⟩
                  · replace c14 := Bool.eq_false_iff.mpr c14
                    subst c14
                    have H1 : ((impl_isDigit.f (bt a0 x15_2)).bind fun t363 => (if t363 = true then (impl_NameOK.l0 k2 a0 (a0.size : Int) (wrap64 (x15_2 + 1))) else (some false))) = some r := by rw [if_neg (show ¬ (false = true) by decide)] at H; exact H
                    clear H
                    have H := H1
                    clear H1
                    replace H := Option.bind_eq_some_iff.mp H
                    obtain ⟨t363, A160, H⟩ := H
                    replace H : (if t363 = true then (impl_NameOK.l0 k2 a0 (a0.size : Int) (wrap64 (x15_2 + 1))) else (some false)) = some r := H
                    have A16 := Aside0.mk A160
                    clear A160
                    by_cases c17 : t363 = true
                    · subst c17
                      have H1 : (impl_NameOK.l0 k2 a0 (a0.size : Int) (wrap64 (x15_2 + 1))) = some r := by rw [if_pos rfl] at H; exact H
                      clear H
                      have H := H1
                      clear H1
                      have H' := Aside0.mk H
                      clear H
                      have p12 : 0 ≤ (x15_2 : Int) := of_decide_eq_true (by first | (with_reducible assumption) | assumption)
                      have q12 : x15_2 < (a0.size : Int) := of_decide_eq_true (by first | (with_reducible assumption) | assumption)
                      have hx12 := bt_at a0 x15_2
                      replace p12 := eq_true p12
                      replace q12 := eq_true q12
                      go_wp2_with (first | ((with_reducible refine gate_callee (f := 149) rfl ?_); refine goesL_ (some 21) rfl rfl Tryz.func149 (by kernel_rfl) rfl #[.int .u8 (bt a0 x15_2)] rfl (by (try simp only [List.map_toArray, List.map_cons, List.map_nil]); first | done | rfl | (simp only [List.length_drop, List.length_take]; rfl)) ?_; (with_reducible refine (impl_isLetter.calls (bt a0 x15_2) false _ A13.out).mono ?_); rintro e w' ⟨rfl, ⟨nd, rfl⟩⟩; refine ⟨_, rfl, ?_⟩; have p15 : 0 ≤ (x15_2 : Int) := of_decide_eq_true (by first | (with_reducible assumption) | assumption); have q15 : x15_2 < (a0.size : Int) := of_decide_eq_true (by first | (with_reducible assumption) | assumption); have hx15 := bt_at a0 x15_2; replace p15 := eq_true p15; replace q15 := eq_true q15) | (go_at_call 148; (with_reducible refine (impl_isDigit.calls (bt a0 x15_2) true _ A16.out).mono ?_); rintro e w' ⟨rfl, ⟨nd, rfl⟩⟩))
                      go_roundg k2
                      case measure => have := HJ1.out; have := HK2.out; omega
                      case rel => exact ⟨(wrap64 (x15_2 + 1)), (by first | rfl | (simp; done) | (simp [*]; done) | (simp [ne_nil_b]; done) | (simp [ne_nil_b, *]; done)), H', ⟨by have := HJ1.out; have := HK2.out; omega⟩, by repeat (first | exact Drawn0.refl _ | apply Drawn0.step)⟩
                    · replace c17 := Bool.eq_false_iff.mpr c17
                      subst c17
                      have H1 : (some false) = some r := by rw [if_neg (show ¬ (false = true) by decide)] at H; exact H
                      clear H
                      have H := H1
                      clear H1
                      obtain rfl := Option.some.inj H
                      have p12 : 0 ≤ (x15_2 : Int) := of_decide_eq_true (by first | (with_reducible assumption) | assumption)
                      have q12 : x15_2 < (a0.size : Int) := of_decide_eq_true (by first | (with_reducible assumption) | assumption)
                      have hx12 := bt_at a0 x15_2
                      replace p12 := eq_true p12
                      replace q12 := eq_true q12
                      go_wp2_with (first | ((with_reducible refine gate_callee (f := 149) rfl ?_); refine goesL_ (some 21) rfl rfl Tryz.func149 (by kernel_rfl) rfl #[.int .u8 (bt a0 x15_2)] rfl (by (try simp only [List.map_toArray, List.map_cons, List.map_nil]); first | done | rfl | (simp only [List.length_drop, List.length_take]; rfl)) ?_; (with_reducible refine (impl_isLetter.calls (bt a0 x15_2) false _ A13.out).mono ?_); rintro e w' ⟨rfl, ⟨nd, rfl⟩⟩; refine ⟨_, rfl, ?_⟩; have p15 : 0 ≤ (x15_2 : Int) := of_decide_eq_true (by first | (with_reducible assumption) | assumption); have q15 : x15_2 < (a0.size : Int) := of_decide_eq_true (by first | (with_reducible assumption) | assumption); have hx15 := bt_at a0 x15_2; replace p15 := eq_true p15; replace q15 := eq_true q15) | (go_at_call 148; (with_reducible refine (impl_isDigit.calls (bt a0 x15_2) false _ A16.out).mono ?_); rintro e w' ⟨rfl, ⟨nd, rfl⟩⟩))
                      go_ret
                      exact ⟨by first | rfl | (simp; done) | (simp [*]; done) | (simp [ne_nil_b]; done) | (simp [ne_nil_b, *]; done), by repeat (first | exact Drawn0.refl _ | apply Drawn0.step)⟩
                · rw [if_neg c11] at H
                  exact absurd H (by simp)
              · rw [if_neg c10] at H
                exact absurd H (by simp)
            · rw [if_neg c9] at H
              have c9b0 : decide (x15_2 < (a0.size : Int)) = false := decide_eq_false c9
              clear c9
              obtain rfl := Option.some.inj H
              go_wp2
              go_ret
              exact ⟨by first | rfl | (simp; done) | (simp [*]; done) | (simp [ne_nil_b]; done) | (simp [ne_nil_b, *]; done), by repeat (first | exact Drawn0.refl _ | apply Drawn0.step)⟩
end
section
/-! ### slices_Index_int_int: function 153 -/
def slices_Index_int_int.l0 : Nat → List Int → Int → Int → Int → Option (Int)
  | 0, _, _, _, _ => none
  | k + 1, x0, x1, x7, x8 => if x8 < x7 then (if 0 ≤ x8 then (if x8 < (x0.length : Int) then (if x1 = (rd x0 x8) then (some x8) else (slices_Index_int_int.l0 k x0 x1 x7 (wrap64 (x8 + 1)))) else (none)) else (none)) else (some (-1))
def slices_Index_int_int.f (k : Nat) (l0 : List Int) (a1 : Int) : Option (Int) := slices_Index_int_int.l0 k l0 a1 (l0.length : Int) 0
theorem slices_Index_int_int.mono_l : ∀ k, (∀ y0 y1 y2 y3, LeO (slices_Index_int_int.l0 k y0 y1 y2 y3) (slices_Index_int_int.l0 (k + 1) y0 y1 y2 y3))
  | 0 => fun _ _ _ _ r h => by simp [slices_Index_int_int.l0] at h
  | k + 1 => by
    have ih0 := slices_Index_int_int.mono_l k
    · intro y0 y1 y2 y3
      unfold slices_Index_int_int.l0
      repeat' first
      | (with_reducible exact ih0 _ _ _ _)
      | (with_reducible exact LeO.refl _)
      | (with_reducible exact LeO.none _)
      | (with_reducible refine LeO.ite ?_ ?_)
      | (with_reducible refine LeO.bind ?_ (fun _ => ?_))
      | exact ih0 _ _ _ _
      | exact LeO.none _
      | refine LeO.ite ?_ ?_
      | refine LeO.bind ?_ (fun _ => ?_)
theorem slices_Index_int_int.mono : ∀ a0 a1 k, LeO (slices_Index_int_int.f k a0 a1) (slices_Index_int_int.f (k + 1) a0 a1) := by
  intro a0 a1 k
  have ih0 := slices_Index_int_int.mono_l k
  unfold slices_Index_int_int.f
  repeat' first
      | (with_reducible exact ih0 _ _ _ _)
      | (with_reducible exact LeO.refl _)
      | (with_reducible exact LeO.none _)
      | (with_reducible refine LeO.ite ?_ ?_)
      | (with_reducible refine LeO.bind ?_ (fun _ => ?_))
      | exact ih0 _ _ _ _
      | exact LeO.none _
      | refine LeO.ite ?_ ?_
      | refine LeO.bind ?_ (fun _ => ?_)
set_option maxHeartbeats 8000000 in
set_option maxRecDepth 100000 in
theorem slices_Index_int_int.calls (k : Nat) (A0 : Option Addr) (c0 : Nat) (l0 : List Int) (a1 : Int) (r : Int) (w : World) (hr0 : Kd.C (Kd.int .i64) w A0 l0.length l0) (hc0 : l0.length ≤ c0) (h : slices_Index_int_int.f k l0 a1 = some r) :
    Calls Tryz.prog 153 #[.slice A0 l0.length c0, .int .i64 a1] w fun e w' => e = .returned (.int .i64 r) ∧ Drawn0 w w' := by
  have HR0 := Aside0.mk hr0
  have HC0 := Aside0.mk hc0
  clear hr0 hc0
  have H : (slices_Index_int_int.l0 k l0 a1 (l0.length : Int) 0) = some r := h
  clear h
  have H' := Aside0.mk H
  clear H
  go_enter Tryz.func153, Tryz.ntmps153
  go_wp2
  go_loopg [8] k (fun kq v8 w' => ∃ (x8_1 : Int), v8 = .int .i64 x8_1 ∧ Aside0 (slices_Index_int_int.l0 kq l0 a1 (l0.length : Int) x8_1 = some r) ∧ Aside0 (kq ≤ k) ∧ Drawn0 w w')
  case atStart => exact ⟨(0), (by first | rfl | (simp; done) | (simp [*]; done) | (simp [ne_nil_b]; done) | (simp [ne_nil_b, *]; done)), H', ⟨Nat.le_refl _⟩, by repeat (first | exact Drawn0.refl _ | apply Drawn0.step)⟩
  case round =>
    clear H'
    try clear c1
    try clear p2
    obtain ⟨x8_1, rfl, HA, HK1, ⟨m1, rfl⟩⟩ := hrel
    cases gk with
    | zero => exact absurd HA.out (by simp [slices_Index_int_int.l0])
    | succ k1 =>
      have H := HA.out
      clear HA
      simp only [slices_Index_int_int.l0] at H
      by_cases c3 : x8_1 < (l0.length : Int)
      · rw [if_pos c3] at H
        have c3b0 : decide (x8_1 < (l0.length : Int)) = true := decide_eq_true c3
        clear c3
        by_cases c4 : 0 ≤ x8_1
        · rw [if_pos c4] at H
          have c4b0 : decide (0 ≤ x8_1) = true := decide_eq_true c4
          clear c4
          by_cases c5 : x8_1 < (l0.length : Int)
          · rw [if_pos c5] at H
            have c5b0 : decide (x8_1 < (l0.length : Int)) = true := decide_eq_true c5
            clear c5
            by_cases c6 : a1 = (rd l0 x8_1)
            · rw [if_pos c6] at H
              have c6b0 : (a1 == (rd l0 x8_1)) = true := beq_iff_eq.mpr c6
              have c6b1 : (a1 != (rd l0 x8_1)) = false := bne_eq_false_iff_eq.mpr c6
              clear c6
              obtain rfl := Option.some.inj H
              have p365 : 0 ≤ (x8_1 : Int) := of_decide_eq_true (by first | (with_reducible assumption) | assumption)
              have q365 : x8_1 < (l0.length : Int) := of_decide_eq_true (by first | (with_reducible assumption) | assumption)
              obtain ⟨ad365, e365, hx365_0⟩ := Kd.at_int HR0.out x8_1 p365 q365
              cases e365
              replace p365 := eq_true p365
              replace q365 := eq_true q365
              go_wp2
              go_ret
              exact ⟨by first | rfl | (simp; done) | (simp [*]; done) | (simp [ne_nil_b]; done) | (simp [ne_nil_b, *]; done), by repeat (first | exact Drawn0.refl _ | apply Drawn0.step)⟩
            · rw [if_neg c6] at H
              have c6b0 : (a1 == (rd l0 x8_1)) = false := beq_eq_false_iff_ne.mpr c6
              have c6b1 : (a1 != (rd l0 x8_1)) = true := bne_iff_ne.mpr c6
              have H' := Aside0.mk H
              clear H
              have p365 : 0 ≤ (x8_1 : Int) := of_decide_eq_true (by first | (with_reducible assumption) | assumption)
              have q365 : x8_1 < (l0.length : Int) := of_decide_eq_true (by first | (with_reducible assumption) | assumption)
              obtain ⟨ad365, e365, hx365_0⟩ := Kd.at_int HR0.out x8_1 p365 q365
              cases e365
              replace p365 := eq_true p365
              replace q365 := eq_true q365
              go_wp2
              go_roundg k1
              case measure => have := HK1.out; omega
              case rel => exact ⟨(wrap64 (x8_1 + 1)), (by first | rfl | (simp; done) | (simp [*]; done) | (simp [ne_nil_b]; done) | (simp [ne_nil_b, *]; done)), H', ⟨by have := HK1.out; omega⟩, by repeat (first | exact Drawn0.refl _ | apply Drawn0.step)⟩
          · rw [if_neg c5] at H
            exact absurd H (by simp)
        · rw [if_neg c4] at H
          exact absurd H (by simp)
      · rw [if_neg c3] at H
        have c3b0 : decide (x8_1 < (l0.length : Int)) = false := decide_eq_false c3
        clear c3
        obtain rfl := Option.some.inj H
        go_wp2
        go_ret
        exact ⟨by first | rfl | (simp; done) | (simp [*]; done) | (simp [ne_nil_b]; done) | (simp [ne_nil_b, *]; done), by repeat (first | exact Drawn0.refl _ | apply Drawn0.step)⟩
end
section
/-! ### slices_Contains_int_int: function 147 -/
def slices_Contains_int_int.f (k : Nat) (l0 : List Int) (a1 : Int) : Option (Bool) := (slices_Index_int_int.f k l0 a1).bind fun t366 => (some (decide (t366 ≥ 0)))
theorem slices_Contains_int_int.mono : ∀ a0 a1 k, LeO (slices_Contains_int_int.f k a0 a1) (slices_Contains_int_int.f (k + 1) a0 a1) := by
  intro a0 a1 k
  unfold slices_Contains_int_int.f
  repeat' first
      | (with_reducible exact slices_Index_int_int.mono _ _ _)
      | (with_reducible exact LeO.refl _)
      | (with_reducible exact LeO.none _)
      | (with_reducible refine LeO.ite ?_ ?_)
      | (with_reducible refine LeO.bind ?_ (fun _ => ?_))
      | exact slices_Index_int_int.mono _ _ _
      | exact LeO.none _
      | refine LeO.ite ?_ ?_
      | refine LeO.bind ?_ (fun _ => ?_)
set_option maxHeartbeats 8000000 in
set_option maxRecDepth 100000 in
theorem slices_Contains_int_int.calls (k : Nat) (A0 : Option Addr) (c0 : Nat) (l0 : List Int) (a1 : Int) (r : Bool) (w : World) (hr0 : Kd.C (Kd.int .i64) w A0 l0.length l0) (hc0 : l0.length ≤ c0) (h : slices_Contains_int_int.f k l0 a1 = some r) :
    Calls Tryz.prog 147 #[.slice A0 l0.length c0, .int .i64 a1] w fun e w' => e = .returned (.bool r) ∧ Drawn0 w w' := by
  have HR0 := Aside0.mk hr0
  have HC0 := Aside0.mk hc0
  clear hr0 hc0
  have H : ((slices_Index_int_int.f k l0 a1).bind fun t366 => (some (decide (t366 ≥ 0)))) = some r := h
  clear h
  replace H := Option.bind_eq_some_iff.mp H
  obtain ⟨t366, A30, H⟩ := H
  replace H : (some (decide (t366 ≥ 0))) = some r := H
  have A3 := Aside0.mk A30
  clear A30
  obtain rfl := Option.some.inj H
  go_enter Tryz.func147, Tryz.ntmps147
  go_wp2_with (first | ((with_reducible refine gate_callee (f := 153) rfl ?_); refine goesL_ (some 7) rfl rfl Tryz.func153 (by kernel_rfl) rfl #[.slice A0 l0.length c0, .int .i64 a1] rfl (by (try simp only [List.map_toArray, List.map_cons, List.map_nil]); first | done | rfl | (simp only [List.length_drop, List.length_take]; rfl)) ?_; (with_reducible refine (slices_Index_int_int.calls k _ _ l0 a1 t366 _ ?side1 ?side2 A3.out).mono ?_); (case side1 => repeat (first | exact HR0.out | (with_reducible refine Kd.C_alloc ?_ _) | (with_reducible refine Kd.C_drewN ?_ _) | (with_reducible refine Kd.C_drew ?_))); (case side2 => exact HC0.out); rintro e w' ⟨rfl, ⟨nd, rfl⟩⟩; refine ⟨_, rfl, ?_⟩))
  go_ret
  exact ⟨by first | rfl | (simp; done) | (simp [*]; done) | (simp [ne_nil_b]; done) | (simp [ne_nil_b, *]; done), by repeat (first | exact Drawn0.refl _ | apply Drawn0.step)⟩
end
section
-- IMPORT Derived.Laws.BitsLemmas
-- IMPORT Derived.OpenShut
theorem wrap_id {n : Int} (h0 : -9223372036854775808 ≤ n) (h1 : n ≤ 9223372036854775807) : wrap64 n = n := by
  unfold wrap64; omega
end
section
/-! ### spec_l00Letter: function 151 -/
def spec_l00Letter.f (a0 : Int) : Option (Bool) := if a0 ≥ 97 then (if a0 ≤ 122 then (some true) else (if a0 ≥ 65 then (if a0 ≤ 90 then (some true) else (some (a0 == 95))) else (some (a0 == 95)))) else (if a0 ≥ 65 then (if a0 ≤ 90 then (some true) else (some (a0 == 95))) else (some (a0 == 95)))
set_option maxHeartbeats 8000000 in
set_option maxRecDepth 100000 in
theorem spec_l00Letter.calls (a0 : Int) (r : Bool) (w : World) (h : spec_l00Letter.f a0 = some r) :
    Calls Tryz.prog 151 #[.int .u8 a0] w fun e w' => e = .returned (.bool r) ∧ Drawn0 w w' := by
  have H : (if a0 ≥ 97 then (if a0 ≤ 122 then (some true) else (if a0 ≥ 65 then (if a0 ≤ 90 then (some true) else (some (a0 == 95))) else (some (a0 == 95)))) else (if a0 ≥ 65 then (if a0 ≤ 90 then (some true) else (some (a0 == 95))) else (some (a0 == 95)))) = some r := h
  clear h
  by_cases c2 : a0 ≥ 97
  · rw [if_pos c2] at H
    have c2b0 : decide (97 ≤ a0) = true := decide_eq_true c2
    clear c2
    by_cases c3 : a0 ≤ 122
    · rw [if_pos c3] at H
      have c3b0 : decide (a0 ≤ 122) = true := decide_eq_true c3
      clear c3
      obtain rfl := Option.some.inj H
      go_enter Tryz.func151, Tryz.ntmps151
      go_wp2
      go_ret
      exact ⟨by first | rfl | (simp; done) | (simp [*]; done) | (simp [ne_nil_b]; done) | (simp [ne_nil_b, *]; done), by repeat (first | exact Drawn0.refl _ | apply Drawn0.step)⟩
    · rw [if_neg c3] at H
      have c3b0 : decide (a0 ≤ 122) = false := decide_eq_false c3
      clear c3
      by_cases c4 : a0 ≥ 65
      · rw [if_pos c4] at H
        have c4b0 : decide (65 ≤ a0) = true := decide_eq_true c4
        clear c4
        by_cases c5 : a0 ≤ 90
        · rw [if_pos c5] at H
          have c5b0 : decide (a0 ≤ 90) = true := decide_eq_true c5
          clear c5
          obtain rfl := Option.some.inj H
          go_enter Tryz.func151, Tryz.ntmps151
          go_wp2
          go_ret
          exact ⟨by first | rfl | (simp; done) | (simp [*]; done) | (simp [ne_nil_b]; done) | (simp [ne_nil_b, *]; done), by repeat (first | exact Drawn0.refl _ | apply Drawn0.step)⟩
        · rw [if_neg c5] at H
          have c5b0 : decide (a0 ≤ 90) = false := decide_eq_false c5
          clear c5
          obtain rfl := Option.some.inj H
          go_enter Tryz.func151, Tryz.ntmps151
          go_wp2
          go_ret
          exact ⟨by first | rfl | (simp; done) | (simp [*]; done) | (simp [ne_nil_b]; done) | (simp [ne_nil_b, *]; done), by repeat (first | exact Drawn0.refl _ | apply Drawn0.step)⟩
      · rw [if_neg c4] at H
        have c4b0 : decide (65 ≤ a0) = false := decide_eq_false c4
        clear c4
        obtain rfl := Option.some.inj H
        go_enter Tryz.func151, Tryz.ntmps151
        go_wp2
        go_ret
        exact ⟨by first | rfl | (simp; done) | (simp [*]; done) | (simp [ne_nil_b]; done) | (simp [ne_nil_b, *]; done), by repeat (first | exact Drawn0.refl _ | apply Drawn0.step)⟩
  · rw [if_neg c2] at H
    have c2b0 : decide (97 ≤ a0) = false := decide_eq_false c2
    clear c2
    by_cases c6 : a0 ≥ 65
    · rw [if_pos c6] at H
      have c6b0 : decide (65 ≤ a0) = true := decide_eq_true c6
      clear c6
      by_cases c7 : a0 ≤ 90
      · rw [if_pos c7] at H
        have c7b0 : decide (a0 ≤ 90) = true := decide_eq_true c7
        clear c7
        obtain rfl := Option.some.inj H
        go_enter Tryz.func151, Tryz.ntmps151
        go_wp2
        go_ret
        exact ⟨by first | rfl | (simp; done) | (simp [*]; done) | (simp [ne_nil_b]; done) | (simp [ne_nil_b, *]; done), by repeat (first | exact Drawn0.refl _ | apply Drawn0.step)⟩
      · rw [if_neg c7] at H
        have c7b0 : decide (a0 ≤ 90) = false := decide_eq_false c7
        clear c7
        obtain rfl := Option.some.inj H
        go_enter Tryz.func151, Tryz.ntmps151
        go_wp2
        go_ret
        exact ⟨by first | rfl | (simp; done) | (simp [*]; done) | (simp [ne_nil_b]; done) | (simp [ne_nil_b, *]; done), by repeat (first | exact Drawn0.refl _ | apply Drawn0.step)⟩
    · rw [if_neg c6] at H
      have c6b0 : decide (65 ≤ a0) = false := decide_eq_false c6
      clear c6
      obtain rfl := Option.some.inj H
      go_enter Tryz.func151, Tryz.ntmps151
      go_wp2
      go_ret
      exact ⟨by first | rfl | (simp; done) | (simp [*]; done) | (simp [ne_nil_b]; done) | (simp [ne_nil_b, *]; done), by repeat (first | exact Drawn0.refl _ | apply Drawn0.step)⟩
end
section
/-! ### spec_l00Digit: function 152 -/
def spec_l00Digit.f (a0 : Int) : Option (Bool) := if a0 ≥ 48 then (some (decide (a0 ≤ 57))) else (some false)
set_option maxHeartbeats 8000000 in
set_option maxRecDepth 100000 in
theorem spec_l00Digit.calls (a0 : Int) (r : Bool) (w : World) (h : spec_l00Digit.f a0 = some r) :
    Calls Tryz.prog 152 #[.int .u8 a0] w fun e w' => e = .returned (.bool r) ∧ Drawn0 w w' := by
  have H : (if a0 ≥ 48 then (some (decide (a0 ≤ 57))) else (some false)) = some r := h
  clear h
  by_cases c2 : a0 ≥ 48
  · rw [if_pos c2] at H
    have c2b0 : decide (48 ≤ a0) = true := decide_eq_true c2
    clear c2
    obtain rfl := Option.some.inj H
    go_enter Tryz.func152, Tryz.ntmps152
    go_wp2
    go_ret
    exact ⟨by first | rfl | (simp; done) | (simp [*]; done) | (simp [ne_nil_b]; done) | (simp [ne_nil_b, *]; done), by repeat (first | exact Drawn0.refl _ | apply Drawn0.step)⟩
  · rw [if_neg c2] at H
    have c2b0 : decide (48 ≤ a0) = false := decide_eq_false c2
    clear c2
    obtain rfl := Option.some.inj H
    go_enter Tryz.func152, Tryz.ntmps152
    go_wp2
    go_ret
    exact ⟨by first | rfl | (simp; done) | (simp [*]; done) | (simp [ne_nil_b]; done) | (simp [ne_nil_b, *]; done), by repeat (first | exact Drawn0.refl _ | apply Drawn0.step)⟩
end
section
/-! ### spec_l00Word: function 144 -/
mutual
def spec_l00Word.j0 : Nat → ByteArray → Bool → Option (Bool)
  | 0, _, _ => none
  | k + 1, x0, x17 => if x17 = true then (some false) else (spec_l00Word.l0 k x0 1)
def spec_l00Word.l0 : Nat → ByteArray → Int → Option (Bool)
  | 0, _, _ => none
  | k + 1, x0, x3 => if x3 < (x0.size : Int) then (if 0 ≤ x3 then ((spec_l00Letter.f (bt x0 x3)).bind fun t131 => (if t131 = true then (spec_l00Word.l0 k x0 (wrap64 (x3 + 1))) else ((spec_l00Digit.f (bt x0 x3)).bind fun t132 => (if t132 = true then (spec_l00Word.l0 k x0 (wrap64 (x3 + 1))) else (some false))))) else (none)) else (some true)
end
def spec_l00Word.f (k : Nat) (a0 : ByteArray) : Option (Bool) := if (a0.size : Int) < 1 then (spec_l00Word.j0 k a0 true) else (if (a0.size : Int) > 40 then (spec_l00Word.j0 k a0 true) else (if 0 < (a0.size : Int) then ((spec_l00Letter.f (bt a0 0)).bind fun t130 => (spec_l00Word.j0 k a0 (!t130))) else (none)))
theorem spec_l00Word.mono_l : ∀ k, (∀ y0 y1, LeO (spec_l00Word.j0 k y0 y1) (spec_l00Word.j0 (k + 1) y0 y1)) ∧ (∀ y0 y1, LeO (spec_l00Word.l0 k y0 y1) (spec_l00Word.l0 (k + 1) y0 y1))
  | 0 => ⟨fun _ _ r h => by simp [spec_l00Word.j0] at h, fun _ _ r h => by simp [spec_l00Word.l0] at h⟩
  | k + 1 => by
    obtain ⟨ih0, ih1⟩ := spec_l00Word.mono_l k
    refine ⟨?_, ?_⟩
    · intro y0 y1
      unfold spec_l00Word.j0
      repeat' first
      | (with_reducible exact ih0 _ _)
      | (with_reducible exact ih1 _ _)
      | (with_reducible exact LeO.refl _)
      | (with_reducible exact LeO.none _)
      | (with_reducible refine LeO.ite ?_ ?_)
      | (with_reducible refine LeO.bind ?_ (fun _ => ?_))
      | exact ih0 _ _
      | exact ih1 _ _
      | exact LeO.none _
      | refine LeO.ite ?_ ?_
      | refine LeO.bind ?_ (fun _ => ?_)
    · intro y0 y1
      unfold spec_l00Word.l0
      repeat' first
      | (with_reducible exact ih0 _ _)
      | (with_reducible exact ih1 _ _)
      | (with_reducible exact LeO.refl _)
      | (with_reducible exact LeO.none _)
      | (with_reducible refine LeO.ite ?_ ?_)
      | (with_reducible refine LeO.bind ?_ (fun _ => ?_))
      | exact ih0 _ _
      | exact ih1 _ _
      | exact LeO.none _
      | refine LeO.ite ?_ ?_
      | refine LeO.bind ?_ (fun _ => ?_)
theorem spec_l00Word.mono : ∀ a0 k, LeO (spec_l00Word.f k a0) (spec_l00Word.f (k + 1) a0) := by
  intro a0 k
  obtain ⟨ih0, ih1⟩ := spec_l00Word.mono_l k
  unfold spec_l00Word.f
  repeat' first
      | (with_reducible exact ih0 _ _)
      | (with_reducible exact ih1 _ _)
      | (with_reducible exact LeO.refl _)
      | (with_reducible exact LeO.none _)
      | (with_reducible refine LeO.ite ?_ ?_)
      | (with_reducible refine LeO.bind ?_ (fun _ => ?_))
      | exact ih0 _ _
      | exact ih1 _ _
      | exact LeO.none _
      | refine LeO.ite ?_ ?_
      | refine LeO.bind ?_ (fun _ => ?_)
set_option maxHeartbeats 8000000 in
set_option maxRecDepth 100000 in
theorem spec_l00Word.calls (k : Nat) (a0 : ByteArray) (r : Bool) (w : World) (h : spec_l00Word.f k a0 = some r) :
    Calls Tryz.prog 144 #[.string a0] w fun e w' => e = .returned (.bool r) ∧ Drawn0 w w' := by
  have H : (if (a0.size : Int) < 1 then (spec_l00Word.j0 k a0 true) else (if (a0.size : Int) > 40 then (spec_l00Word.j0 k a0 true) else (if 0 < (a0.size : Int) then ((spec_l00Letter.f (bt a0 0)).bind fun t130 => (spec_l00Word.j0 k a0 (!t130))) else (none)))) = some r := h
  clear h
  have HC2 := Aside0.mk H
  clear H
  go_enter Tryz.func144, Tryz.ntmps144
  go_upto_region 1 with (fail)
  go_cut [17] (fun v17 wc => ∃ (kq : Nat) (x17_1 : Bool), v17 = .bool x17_1 ∧ Aside0 (spec_l00Word.j0 kq a0 x17_1 = some r) ∧ Aside0 (kq ≤ k) ∧ Drawn0 w wc)
  case first =>
    have H := HC2.out
    clear HC2
    by_cases c3 : (a0.size : Int) < 1
    · rw [if_pos c3] at H
      have c3b0 : decide ((a0.size : Int) < 1) = true := decide_eq_true c3
      have c3b1 : decide (a0.size < 1) = true := decide_eq_true (by omega)
      clear c3
      (first | rw [c3b0] | (simp only [i64_w, i32_w]; rw [c3b0]) | skip)
      have H' := Aside0.mk H
      clear H
      go_wp2
      go_meet
      case rel => exact ⟨_, (true), (by first | rfl | (simp; done) | (simp [*]; done) | (simp [ne_nil_b]; done) | (simp [ne_nil_b, *]; done)), H', ⟨by first | omega | exact Nat.le_refl _⟩, by repeat (first | exact Drawn0.refl _ | apply Drawn0.step)⟩
    · rw [if_neg c3] at H
      have c3b0 : decide ((a0.size : Int) < 1) = false := decide_eq_false c3
      have c3b1 : decide (a0.size < 1) = false := decide_eq_false (by omega)
      clear c3
      (first | rw [c3b0] | (simp only [i64_w, i32_w]; rw [c3b0]) | skip)
      by_cases c4 : (a0.size : Int) > 40
      · rw [if_pos c4] at H
        have c4b0 : decide (40 < (a0.size : Int)) = true := decide_eq_true c4
        have c4b1 : decide (40 < a0.size) = true := decide_eq_true (by omega)
        clear c4
        have H' := Aside0.mk H
        clear H
        go_wp2
        go_meet
        case rel => exact ⟨_, (true), (by first | rfl | (simp; done) | (simp [*]; done) | (simp [ne_nil_b]; done) | (simp [ne_nil_b, *]; done)), H', ⟨by first | omega | exact Nat.le_refl _⟩, by repeat (first | exact Drawn0.refl _ | apply Drawn0.step)⟩
      · rw [if_neg c4] at H
        have c4b0 : decide (40 < (a0.size : Int)) = false := decide_eq_false c4
        have c4b1 : decide (40 < a0.size) = false := decide_eq_false (by omega)
        clear c4
        by_cases c5 : 0 < (a0.size : Int)
        · rw [if_pos c5] at H
          have c5b0 : decide (0 < (a0.size : Int)) = true := decide_eq_true c5
          have c5b1 : decide (0 < a0.size) = true := decide_eq_true (by omega)
          clear c5
          replace H := Option.bind_eq_some_iff.mp H
          obtain ⟨t130, A70, H⟩ := H
          replace H : (spec_l00Word.j0 k a0 (!t130)) = some r := H
          have A7 := Aside0.mk A70
          clear A70
          have H' := Aside0.mk H
          clear H
          have p6 : 0 ≤ (0 : Int) := (by omega)
          have q6 : 0 < a0.size := (by have : (0 : Int) < (a0.size : Int) := of_decide_eq_true (by first | (with_reducible assumption) | assumption); omega)
          have hx6 : ∀ h : 0 < a0.size, ((a0[0]'h).toNat : Int) = bt a0 0 := bt_at a0 0
          clear p6
          have qi6 : (0 < (a0.size : Int)) = True := eq_true (of_decide_eq_true (by first | (with_reducible assumption) | assumption))
          replace q6 := eq_true q6
          go_wp2_with (first | (go_at_call 151; (with_reducible refine (spec_l00Letter.calls (bt a0 0) t130 _ A7.out).mono ?_); rintro e w' ⟨rfl, ⟨nd, rfl⟩⟩))
          go_meet
          case rel => exact ⟨_, (!t130), (by first | rfl | (simp; done) | (simp [*]; done) | (simp [ne_nil_b]; done) | (simp [ne_nil_b, *]; done)), H', ⟨by first | omega | exact Nat.le_refl _⟩, by repeat (first | exact Drawn0.refl _ | apply Drawn0.step)⟩
        · rw [if_neg c5] at H
          exact absurd H (by simp)
  case rest =>
    clear HC2
    try clear c1
    try clear p2
    try clear c3
    try clear c3b0
    try clear c3b1
    try clear c4
    try clear c4b0
    try clear c4b1
    try clear c5
    try clear c5b0
    try clear c5b1
    try clear p6
    try clear q6
    try clear hx6
    try clear qi6
    try clear p6
    try clear q6
    obtain ⟨kq, x17_1, rfl, HA, HJ1, ⟨mc1, rfl⟩⟩ := hcut
    cases kq with
    | zero => exact absurd HA.out (by simp [spec_l00Word.j0])
    | succ kj1 =>
      have H := HA.out
      clear HA
      simp only [spec_l00Word.j0] at H
      by_cases c8 : x17_1 = true
      · subst c8
        have H1 : (some false) = some r := by rw [if_pos rfl] at H; exact H
        clear H
        have H := H1
        clear H1
        obtain rfl := Option.some.inj H
        go_wp2
        go_ret
        exact ⟨by first | rfl | (simp; done) | (simp [*]; done) | (simp [ne_nil_b]; done) | (simp [ne_nil_b, *]; done), by repeat (first | exact Drawn0.refl _ | apply Drawn0.step)⟩
      · replace c8 := Bool.eq_false_iff.mpr c8
        subst c8
        have H1 : (spec_l00Word.l0 kj1 a0 1) = some r := by rw [if_neg (show ¬ (false = true) by decide)] at H; exact H
        clear H
        have H := H1
        clear H1
        have H' := Aside0.mk H
        clear H
        go_wp2
        go_loopg [3] kj1 (fun kq v3 w' => ∃ (x3_2 : Int), v3 = .int .i64 x3_2 ∧ Aside0 (spec_l00Word.l0 kq a0 x3_2 = some r) ∧ Aside0 (kq ≤ kj1) ∧ Drawn0 w w')
        case atStart => exact ⟨(1), (by first | rfl | (simp; done) | (simp [*]; done) | (simp [ne_nil_b]; done) | (simp [ne_nil_b, *]; done)), H', ⟨Nat.le_refl _⟩, by repeat (first | exact Drawn0.refl _ | apply Drawn0.step)⟩
        case round =>
          clear H'
          try clear c1
          try clear p2
          try clear c3
          try clear c3b0
          try clear c3b1
          try clear c4
          try clear c4b0
          try clear c4b1
          try clear c5
          try clear c5b0
          try clear c5b1
          try clear p6
          try clear q6
          try clear hx6
          try clear qi6
          try clear c8
          try clear p2
          try clear p6
          try clear q6
          obtain ⟨x3_2, rfl, HA, HK2, ⟨m2, rfl⟩⟩ := hrel
          cases gk with
          | zero => exact absurd HA.out (by simp [spec_l00Word.l0])
          | succ k2 =>
            have H := HA.out
            clear HA
            simp only [spec_l00Word.l0] at H
            by_cases c9 : x3_2 < (a0.size : Int)
            · rw [if_pos c9] at H
              have c9b0 : decide (x3_2 < (a0.size : Int)) = true := decide_eq_true c9
              clear c9
              by_cases c10 : 0 ≤ x3_2
              · rw [if_pos c10] at H
                have c10b0 : decide (0 ≤ x3_2) = true := decide_eq_true c10
                clear c10
                replace H := Option.bind_eq_some_iff.mp H
                obtain ⟨t131, A120, H⟩ := H
                replace H : (if t131 = true then (spec_l00Word.l0 k2 a0 (wrap64 (x3_2 + 1))) else ((spec_l00Digit.f (bt a0 x3_2)).bind fun t132 => (if t132 = true then (spec_l00Word.l0 k2 a0 (wrap64 (x3_2 + 1))) else (some false)))) = some r := H
                have A12 := Aside0.mk A120
                clear A120
                by_cases c13 : t131 = true
                · subst c13
                  have H1 : (spec_l00Word.l0 k2 a0 (wrap64 (x3_2 + 1))) = some r := by rw [if_pos rfl] at H; exact H
                  clear H
                  have H := H1
                  clear H1
                  have H' := Aside0.mk H
                  clear H
                  have p11 : 0 ≤ (x3_2 : Int) := of_decide_eq_true (by first | (with_reducible assumption) | assumption)
                  have q11 : x3_2 < (a0.size : Int) := of_decide_eq_true (by first | (with_reducible assumption) | assumption)
                  have hx11 := bt_at a0 x3_2
                  replace p11 := eq_true p11
                  replace q11 := eq_true q11
                  go_wp2_with (first | ((with_reducible refine gate_callee (f := 151) rfl ?_); refine goesL_ (some 27) rfl rfl Tryz.func151 (by kernel_rfl) rfl #[.int .u8 (bt a0 x3_2)] rfl (by (try simp only [List.map_toArray, List.map_cons, List.map_nil]); first | done | rfl | (simp only [List.length_drop, List.length_take]; rfl)) ?_; (with_reducible refine (spec_l00Letter.calls (bt a0 x3_2) true _ A12.out).mono ?_); rintro e w' ⟨rfl, ⟨nd, rfl⟩⟩; refine ⟨_, rfl, ?_⟩))
                  go_roundg k2
                  case measure => have := HJ1.out; have := HK2.out; omega
                  case rel => exact ⟨(wrap64 (x3_2 + 1)), (by first | rfl | (simp; done) | (simp [*]; done) | (simp [ne_nil_b]; done) | (simp [ne_nil_b, *]; done)), H', ⟨by have := HJ1.out; have := HK2.out; omega⟩, by repeat (first | exact Drawn0.refl _ | apply Drawn0.step)⟩
                · replace c13 := Bool.eq_false_iff.mpr c13
                  subst c13
                  have H1 : ((spec_l00Digit.f (bt a0 x3_2)).bind fun t132 => (if t132 = true then (spec_l00Word.l0 k2 a0 (wrap64 (x3_2 + 1))) else (some false))) = some r := by rw [if_neg (show ¬ (false = true) by decide)] at H; exact H
                  clear H
                  have H := H1
                  clear H1
                  replace H := Option.bind_eq_some_iff.mp H
                  obtain ⟨t132, A150, H⟩ := H
                  replace H : (if t132 = true then (spec_l00Word.l0 k2 a0 (wrap64 (x3_2 + 1))) else (some false)) = some r := H
                  have A15 := Aside0.mk A150
                  clear A150
                  by_cases c16 : t132 = true
                  · subst c16
                    have H1 : (spec_l00Word.l0 k2 a0 (wrap64 (x3_2 + 1))) = some r := by rw [if_pos rfl] at H; exact H
                    clear H
                    have H := H1
                    clear H1
                    have H' := Aside0.mk H
                    clear H
                    have p11 : 0 ≤ (x3_2 : Int) := of_decide_eq_true (by first | (with_reducible assumption) | assumption)
                    have q11 : x3_2 < (a0.size : Int) := of_decide_eq_true (by first | (with_reducible assumption) | assumption)
                    have hx11 := bt_at a0 x3_2
                    replace p11 := eq_true p11
                    replace q11 := eq_true q11
                    go_wp2_with (first | ((with_reducible refine gate_callee (f := 151) rfl ?_); refine goesL_ (some 27) rfl rfl Tryz.func151 (by kernel_rfl) rfl #[.int .u8 (bt a0 x3_2)] rfl (by (try simp only [List.map_toArray, List.map_cons, List.map_nil]); first | done | rfl | (simp only [List.length_drop, List.length_take]; rfl)) ?_; (with_reducible refine (spec_l00Letter.calls (bt a0 x3_2) false _ A12.out).mono ?_); rintro e w' ⟨rfl, ⟨nd, rfl⟩⟩; refine ⟨_, rfl, ?_⟩; have p14 : 0 ≤ (x3_2 : Int) := of_decide_eq_true (by first | (with_reducible assumption) | assumption); have q14 : x3_2 < (a0.size : Int) := of_decide_eq_true (by first | (with_reducible assumption) | assumption); have hx14 := bt_at a0 x3_2; replace p14 := eq_true p14; replace q14 := eq_true q14) | (go_at_call 152; (with_reducible refine (spec_l00Digit.calls (bt a0 x3_2) true _ A15.out).mono ?_); rintro e w' ⟨rfl, ⟨nd, rfl⟩⟩))
                    go_roundg k2
                    case measure => have := HJ1.out; have := HK2.out; omega
                    case rel => exact ⟨(wrap64 (x3_2 + 1)), (by first | rfl | (simp; done) | (simp [*]; done) | (simp [ne_nil_b]; done) | (simp [ne_nil_b, *]; done)), H', ⟨by have := HJ1.out; have := HK2.out; omega⟩, by repeat (first | exact Drawn0.refl _ | apply Drawn0.step)⟩
                  · replace c16 := Bool.eq_false_iff.mpr c16
                    subst c16
                    have H1 : (some false) = some r := by rw [if_neg (show ¬ (false = true) by decide)] at H; exact H
                    clear H
                    have H := H1
                    clear H1
                    obtain rfl := Option.some.inj H
                    have p11 : 0 ≤ (x3_2 : Int) := of_decide_eq_true (by first | (with_reducible assumption) | assumption)
                    have q11 : x3_2 < (a0.size : Int) := of_decide_eq_true (by first | (with_reducible assumption) | assumption)
                    have hx11 := bt_at a0 x3_2
                    replace p11 := eq_true p11
                    replace q11 := eq_true q11
                    go_wp2_with (first | ((with_reducible refine gate_callee (f := 151) rfl ?_); refine goesL_ (some 27) rfl rfl Tryz.func151 (by kernel_rfl) rfl #[.int .u8 (bt a0 x3_2)] rfl (by (try simp only [List.map_toArray, List.map_cons, List.map_nil]); first | done | rfl | (simp only [List.length_drop, List.length_take]; rfl)) ?_; (with_reducible refine (spec_l00Letter.calls (bt a0 x3_2) false _ A12.out).mono ?_); rintro e w' ⟨rfl, ⟨nd, rfl⟩⟩; refine ⟨_, rfl, ?_⟩; have p14 : 0 ≤ (x3_2 : Int) := of_decide_eq_true (by first | (with_reducible assumption) | assumption); have q14 : x3_2 < (a0.size : Int) := of_decide_eq_true (by first | (with_reducible assumption) | assumption); have hx14 := bt_at a0 x3_2; replace p14 := eq_true p14; replace q14 := eq_true q14) | (go_at_call 152; (with_reducible refine (spec_l00Digit.calls (bt a0 x3_2) false _ A15.out).mono ?_); rintro e w' ⟨rfl, ⟨nd, rfl⟩⟩))
                    go_ret
                    exact ⟨by first | rfl | (simp; done) | (simp [*]; done) | (simp [ne_nil_b]; done) | (simp [ne_nil_b, *]; done), by repeat (first | exact Drawn0.refl _ | apply Drawn0.step)⟩
              · rw [if_neg c10] at H
                exact absurd H (by simp)
            · rw [if_neg c9] at H
              have c9b0 : decide (x3_2 < (a0.size : Int)) = false := decide_eq_false c9
              clear c9
              obtain rfl := Option.some.inj H
              go_wp2
              go_ret
              exact ⟨by first | rfl | (simp; done) | (simp [*]; done) | (simp [ne_nil_b]; done) | (simp [ne_nil_b, *]; done), by repeat (first | exact Drawn0.refl _ | apply Drawn0.step)⟩
end
section
/-! ### spec_NameOK: function 133 -/
def spec_NameOK.f (k : Nat) (a0 : ByteArray) : Option (Bool) := (spec_l00Word.f k a0).bind fun t133 => (some t133)
theorem spec_NameOK.mono : ∀ a0 k, LeO (spec_NameOK.f k a0) (spec_NameOK.f (k + 1) a0) := by
  intro a0 k
  unfold spec_NameOK.f
  repeat' first
      | (with_reducible exact spec_l00Word.mono _ _)
      | (with_reducible exact LeO.refl _)
      | (with_reducible exact LeO.none _)
      | (with_reducible refine LeO.ite ?_ ?_)
      | (with_reducible refine LeO.bind ?_ (fun _ => ?_))
      | exact spec_l00Word.mono _ _
      | exact LeO.none _
      | refine LeO.ite ?_ ?_
      | refine LeO.bind ?_ (fun _ => ?_)
set_option maxHeartbeats 8000000 in
set_option maxRecDepth 100000 in
theorem spec_NameOK.calls (k : Nat) (a0 : ByteArray) (r : Bool) (w : World) (h : spec_NameOK.f k a0 = some r) :
    Calls Tryz.prog 133 #[.string a0] w fun e w' => e = .returned (.bool r) ∧ Drawn0 w w' := by
  have H : ((spec_l00Word.f k a0).bind fun t133 => (some t133)) = some r := h
  clear h
  replace H := Option.bind_eq_some_iff.mp H
  obtain ⟨t133, A20, H⟩ := H
  replace H : (some t133) = some r := H
  have A2 := Aside0.mk A20
  clear A20
  obtain rfl := Option.some.inj H
  go_enter Tryz.func133, Tryz.ntmps133
  go_wp2_with (first | ((with_reducible refine gate_callee (f := 144) rfl ?_); refine goesL_ (some 4) rfl rfl Tryz.func144 (by kernel_rfl) rfl #[.string a0] rfl (by (try simp only [List.map_toArray, List.map_cons, List.map_nil]); first | done | rfl | (simp only [List.length_drop, List.length_take]; rfl)) ?_; (with_reducible refine (spec_l00Word.calls k a0 t133 _ A2.out).mono ?_); rintro e w' ⟨rfl, ⟨nd, rfl⟩⟩; refine ⟨_, rfl, ?_⟩))
  go_ret
  exact ⟨by first | rfl | (simp; done) | (simp [*]; done) | (simp [ne_nil_b]; done) | (simp [ne_nil_b, *]; done), by repeat (first | exact Drawn0.refl _ | apply Drawn0.step)⟩
end
section
/-! ### spec_l01In: function 35 -/
def spec_l01In.f (a0 : Int) (a1 : Int) (a2 : Int) : Option (Bool) := if a1 ≤ a0 then (some (decide (a0 ≤ a2))) else (some false)
set_option maxHeartbeats 8000000 in
set_option maxRecDepth 100000 in
theorem spec_l01In.calls (a0 : Int) (a1 : Int) (a2 : Int) (r : Bool) (w : World) (h : spec_l01In.f a0 a1 a2 = some r) :
    Calls Tryz.prog 35 #[.int .i64 a0, .int .i64 a1, .int .i64 a2] w fun e w' => e = .returned (.bool r) ∧ Drawn0 w w' := by
  have H : (if a1 ≤ a0 then (some (decide (a0 ≤ a2))) else (some false)) = some r := h
  clear h
  by_cases c4 : a1 ≤ a0
  · rw [if_pos c4] at H
    have c4b0 : decide (a1 ≤ a0) = true := decide_eq_true c4
    clear c4
    obtain rfl := Option.some.inj H
    go_enter Tryz.func35, Tryz.ntmps35
    go_wp2
    go_ret
    exact ⟨by first | rfl | (simp; done) | (simp [*]; done) | (simp [ne_nil_b]; done) | (simp [ne_nil_b, *]; done), by repeat (first | exact Drawn0.refl _ | apply Drawn0.step)⟩
  · rw [if_neg c4] at H
    have c4b0 : decide (a1 ≤ a0) = false := decide_eq_false c4
    clear c4
    obtain rfl := Option.some.inj H
    go_enter Tryz.func35, Tryz.ntmps35
    go_wp2
    go_ret
    exact ⟨by first | rfl | (simp; done) | (simp [*]; done) | (simp [ne_nil_b]; done) | (simp [ne_nil_b, *]; done), by repeat (first | exact Drawn0.refl _ | apply Drawn0.step)⟩
end
section
-- NEEDS spec.l01In impl.within
theorem within_eq (a b c : Int) : impl_within.f a b c = some (decide (b ≤ a ∧ a ≤ c)) := by unfold impl_within.f; grind
end
section
-- NEEDS spec.l00Letter spec.l00Digit impl.isLetter impl.isDigit
def letb (c : Int) : Bool := decide (97 ≤ c ∧ c ≤ 122) || (decide (65 ≤ c ∧ c ≤ 90) || decide (c = 95))
def digb (c : Int) : Bool := decide (48 ≤ c ∧ c ≤ 57)
theorem spec_letter (c : Int) : spec_l00Letter.f c = some (letb c) := by unfold spec_l00Letter.f letb; grind
theorem spec_digit (c : Int) : spec_l00Digit.f c = some (digb c) := by unfold spec_l00Digit.f digb; grind
theorem impl_letter (c : Int) : impl_isLetter.f c = some (letb c) := by unfold impl_isLetter.f letb; grind
theorem impl_digit (c : Int) : impl_isDigit.f c = some (digb c) := by unfold impl_isDigit.f digb; grind
end
section
-- NEEDS spec.NameOK impl.NameOK
def wordFrom (a : ByteArray) : Nat → Nat → Bool
  | _, 0 => true
  | i, d + 1 => (letb (bt a i) || digb (bt a i)) && wordFrom a (i + 1) d
def nameb (a : ByteArray) : Bool := decide (1 ≤ a.size ∧ a.size ≤ 40) && (letb (bt a 0) && wordFrom a 1 (a.size - 1))
theorem spec_word_run (a : ByteArray) (hs : a.size ≤ 40) : ∀ (d i : Nat), i + d = a.size → ∀ k, d + 1 ≤ k → spec_l00Word.l0 k a (i : Int) = some (wordFrom a i d)
  | 0, i, h, k, hk => by
    obtain ⟨k, rfl⟩ : ∃ z, k = z + 1 := ⟨k - 1, by omega⟩
    rw [spec_l00Word.l0, if_neg (by omega)]; rfl
  | d + 1, i, h, k, hk => by
    obtain ⟨k, rfl⟩ : ∃ z, k = z + 1 := ⟨k - 1, by omega⟩
    have ih := spec_word_run a hs d (i + 1) (by omega) k (by omega)
    rw [spec_l00Word.l0, if_pos (by omega), if_pos (by omega), spec_letter, Option.bind_some, spec_digit, Option.bind_some, wrap_id (by omega) (by omega), show (i : Int) + 1 = ((i + 1 : Nat) : Int) by omega, ih, wordFrom]
    cases letb (bt a i) <;> cases digb (bt a i) <;> simp
theorem impl_word_run (a : ByteArray) (hs : a.size ≤ 40) : ∀ (d i : Nat), i + d = a.size → ∀ k, d + 1 ≤ k → impl_NameOK.l0 k a (a.size : Int) (i : Int) = some (wordFrom a i d)
  | 0, i, h, k, hk => by
    obtain ⟨k, rfl⟩ : ∃ z, k = z + 1 := ⟨k - 1, by omega⟩
    rw [impl_NameOK.l0, if_neg (by omega)]; rfl
  | d + 1, i, h, k, hk => by
    obtain ⟨k, rfl⟩ : ∃ z, k = z + 1 := ⟨k - 1, by omega⟩
    have ih := impl_word_run a hs d (i + 1) (by omega) k (by omega)
    rw [impl_NameOK.l0, if_pos (by omega), if_pos (by omega), if_pos (by omega), impl_letter, Option.bind_some, impl_digit, Option.bind_some, wrap_id (by omega) (by omega), show (i : Int) + 1 = ((i + 1 : Nat) : Int) by omega, ih, wordFrom]
    cases letb (bt a i) <;> cases digb (bt a i) <;> simp
theorem spec_Name_ev (a : ByteArray) (k : Nat) (hk : a.size + 2 ≤ k) : spec_NameOK.f k a = some (nameb a) := by
  obtain ⟨k, rfl⟩ : ∃ z, k = z + 1 := ⟨k - 1, by omega⟩
  unfold spec_NameOK.f spec_l00Word.f nameb
  by_cases h1 : (a.size : Int) < 1
  · rw [if_pos h1, decide_eq_false (by omega)]; simp [spec_l00Word.j0]
  · by_cases h2 : (a.size : Int) > 40
    · rw [if_neg h1, if_pos h2, decide_eq_false (by omega)]; simp [spec_l00Word.j0]
    · have e := spec_word_run a (by omega) (a.size - 1) 1 (by omega) k (by omega)
      rw [if_neg h1, if_neg h2, if_pos (by omega), decide_eq_true (by omega), spec_letter, Option.bind_some, spec_l00Word.j0]
      rw [show ((1 : Nat) : Int) = 1 from rfl] at e
      rw [e]
      cases letb (bt a 0) <;> simp
theorem letb_digb {c : Int} (h : digb c = true) : letb c = false := by
  simp only [digb, decide_eq_true_eq] at h
  simp only [letb]
  rw [decide_eq_false (by omega), decide_eq_false (by omega), decide_eq_false (by omega)]; rfl
theorem impl_Name_ev (a : ByteArray) (k : Nat) (hk : a.size + 2 ≤ k) : impl_NameOK.f k a = some (nameb a) := by
  obtain ⟨k, rfl⟩ : ∃ z, k = z + 1 := ⟨k - 1, by omega⟩
  unfold impl_NameOK.f nameb
  rw [within_eq, Option.bind_some]
  by_cases h1 : 1 ≤ a.size ∧ a.size ≤ 40
  · have e := impl_word_run a (by omega) a.size 0 (by omega) k (by omega)
    have ew : wordFrom a 0 a.size = ((letb (bt a 0) || digb (bt a 0)) && wordFrom a 1 (a.size - 1)) := by
      obtain ⟨n, hn⟩ : ∃ n, a.size = n + 1 := ⟨a.size - 1, by omega⟩
      rw [hn]; rfl
    rw [decide_eq_true (by omega), if_pos rfl, if_pos (by omega), impl_digit, Option.bind_some, impl_NameOK.j0, decide_eq_true h1]
    rw [show ((0 : Nat) : Int) = 0 from rfl] at e
    rw [e, ew]
    cases hd : digb (bt a 0)
    · simp
    · simp [letb_digb hd]
  · rw [decide_eq_false (by omega), if_neg (by decide), decide_eq_false h1]; simp [impl_NameOK.j0]
end
section
/-! ### spec_l01Mac: function 36 -/
def spec_l01Mac.f (a0 : ByteArray) : Option (Bool) := some ((a0.size : Int) == 6)
set_option maxHeartbeats 8000000 in
set_option maxRecDepth 100000 in
theorem spec_l01Mac.calls (a0 : ByteArray) (r : Bool) (w : World) (h : spec_l01Mac.f a0 = some r) :
    Calls Tryz.prog 36 #[.string a0] w fun e w' => e = .returned (.bool r) ∧ Drawn0 w w' := by
  have H : (some ((a0.size : Int) == 6)) = some r := h
  clear h
  obtain rfl := Option.some.inj H
  go_enter Tryz.func36, Tryz.ntmps36
  go_wp2
  go_ret
  exact ⟨by first | rfl | (simp; done) | (simp [*]; done) | (simp [ne_nil_b]; done) | (simp [ne_nil_b, *]; done), by repeat (first | exact Drawn0.refl _ | apply Drawn0.step)⟩
end
section
-- NEEDS spec.ConfigOK laws.eqConfig
section
variable {P : Program} {ops : Array Oper} {Q : Exit → Act → World → Prop} {md : Region.Mode} {S : World → Prop} {ds : List Nat}
theorem qP (i n : Nat) {oi : Oper} {v : Value} {fuel : Nat} {l : Array Bool} {a a' : Act} {w : World} (h : wpAnyLast P md ops Q S ds fuel (l.setIfInBounds i true) a' w) (hc : anyB md ops l (l.setIfInBounds i true) i = true := by kernel_rfl) (hi : ops[i]? = some oi := by rfl) (hN : oi.dst = some n := by rfl)
    (hQ : ∀ c a w, Q (.panic c) (a.put oi.dst v) w → Q (.panic c) a w := by exact fun _ _ _ h => h) (hy : Yields P ops oi v a := by exact Or.inl ⟨by kernel_rfl, by intro w'; go_simp; with_reducible rfl⟩) (ha : a.put (some n) v = a' := by simp only [Act.put, List.setIfInBounds_toArray, List.set_cons_zero, List.set_cons_succ, i64_w, i32_w]; rfl) : wpAnyLast P md ops Q S ds (fuel + 1) l a w := pure_ _ hi hN hc hQ hy ha h
theorem qU (i n : Nat) {oi : Oper} {fuel : Nat} {l : Array Bool} {a a' : Act} {w : World} (h : wpAnyLast P md ops Q S ds fuel (l.setIfInBounds i true) a' w) (hc : anyB md ops l (l.setIfInBounds i true) i = true := by kernel_rfl) (hi : ops[i]? = some oi := by rfl) (hN : oi.dst = some n := by rfl)
    (hQ : ∀ c a w, Q (.panic c) (a.put oi.dst undef) w → Q (.panic c) a w := by exact fun _ _ _ h => h) (hw : Region.wanted oi (yielded ops a.tmps) = false := by kernel_rfl) (ha : a.put (some n) undef = a' := by simp only [Act.put, List.setIfInBounds_toArray, List.set_cons_zero, List.set_cons_succ, i64_w, i32_w]; rfl) : wpAnyLast P md ops Q S ds (fuel + 1) l a w := pure_ _ hi hN hc hQ (Or.inr ⟨hw, rfl⟩) ha h
theorem qT (i n : Nat) {oi : Oper} {v : Value} {fuel : Nat} {l : Array Bool} {a a' : Act} {w : World} (hS : S w) (h : wpAnyLast P md ops Q S ds fuel (l.setIfInBounds i true) a' w) (hc : takeB md ops ds l (l.setIfInBounds i true) i = true := by kernel_rfl) (hi : ops[i]? = some oi := by rfl) (hN : oi.dst = some n := by rfl)
    (hQ : ∀ c a w, Q (.panic c) (a.put oi.dst v) w → Q (.panic c) a w := by exact fun _ _ _ h => h) (hy : YieldsIf P ops S oi v a := by exact Or.inl ⟨by kernel_rfl, by intro w' hs; go_simp; with_reducible rfl⟩) (ha : a.put (some n) v = a' := by simp only [Act.put, List.setIfInBounds_toArray, List.set_cons_zero, List.set_cons_succ, i64_w, i32_w]; rfl) : wpAnyLast P md ops Q S ds (fuel + 1) l a w := take_ _ hi hN hc hQ hy hS ha h
theorem q1 (i n : Nat) {oi : Oper} {fuel : Nat} {l : Array Bool} {a : Act} {w : World}
    (h : ∀ K : Act → World → Prop, Shut (∀ a' w', S w' → (S w' → wpAnyLast P md ops Q S ds fuel (l.setIfInBounds i true) a' w') → K a' w') → if Region.wanted oi (yielded ops a.tmps) = true then Oper.wp P oi a w K Q else K (a.put (some n) undef) w)
    (hc : readyB md ops l (l.setIfInBounds i true) i = true := by kernel_rfl) (hi : ops[i]? = some oi := by rfl) (hN : oi.dst = some n := by rfl) (hd : i ∉ ds := by decide) : wpAnyLast P md ops Q S ds (fuel + 1) l a w := one_ _ hi hN hc hd h
theorem qC {oi : Oper} {N : Option Tmp} {a : Act} {w : World} {K : Act → World → Prop} {f : FuncId} {fn : Func} {as0 : Array Operand} {ts : Array TypeId} (hf : P.funcs[f]? = some fn) (args : Array Value)
    (h : Calls P f args w fun e w' => ∃ v, e = .returned v ∧ K (a.put N v) w') (hname : (fn.name == "runtime.NumGoroutine") = false := by kernel_rfl) (hb : fn.body.isSome = true := by rfl)
    (hw : Region.wanted oi (yielded ops a.tmps) = true := by kernel_rfl) (hN : oi.dst = N := by rfl) (hop : oi.op = .call { callee := .value (.func f), args := as0, argTypes := ts } := by rfl) (hargs : as0.map a.eval = args := by (try simp only [List.map_toArray, List.map_cons, List.map_nil]); first | done | rfl | (simp only [List.length_drop, List.length_take]; rfl)) :
    if Region.wanted oi (yielded ops a.tmps) = true then Oper.wp P oi a w K Q else K (a.put N undef) w := goes_ hf hname hb args hw hN hop hargs h
theorem qN {fuel : Nat} {l : Array Bool} {a a' : Act} {w : World} (h : wpAnyLast P md ops Q S ds fuel l a' w) (ha : a = a' := by simp only [Act.put, List.setIfInBounds_toArray, List.set_cons_zero, List.set_cons_succ, i64_w, i32_w]; rfl) : wpAnyLast P md ops Q S ds fuel l a w := norm_ ha h
theorem qD {l : Array Bool} {a : Act} {w : World} {n : Nat} (h : Q .normal a w) (hr : (Region.ready md ops l == []) = true := by kernel_rfl) : wpAnyLast P md ops Q S ds n l a w := done_ hr h
theorem qS {id : Nat} {a : Act} {w : World} (S : World → Prop) (n : Nat) (hS : S w.drew) (h : S w.drew → wpAnyLast P .any ops Q S [] n (Array.replicate n false) a w.drew) (hm : P.follows .mixedOrders = true := by kernel_rfl) (hn : ops.size = n := by rfl) : (Code.region id ops true).wp P Q a w := start_ _ hm hn rfl hS h
end
def IsB (P : Prop) (w : World) (e : Ending) (w' : World) : Prop := (e = .returned (.bool true) ∧ P ∧ Below w.heap.size w w') ∨ (e = .returned (.bool false) ∧ ¬ P ∧ Below w.heap.size w w')
theorem IsB.of {P : Prop} {w w' : World} {e : Ending} {r : Bool} (he : e = .returned (.bool r)) (hr : r = true ↔ P) (hb : Below w.heap.size w w') : IsB P w e w' := by
  cases r
  · exact .inr ⟨he, fun h => absurd (hr.2 h) (by decide), hb⟩
  · exact .inl ⟨he, hr.1 rfl, hb⟩
theorem IsB.imp {P Q : Prop} {w w' : World} {e : Ending} (h : IsB P w e w') (hq : P ↔ Q) : IsB Q w e w' := by
  rcases h with ⟨h1, h2, h3⟩ | ⟨h1, h2, h3⟩
  · exact .inl ⟨h1, hq.1 h2, h3⟩
  · exact .inr ⟨h1, fun h => h2 (hq.2 h), h3⟩
theorem dec_em (p : Prop) [Decidable p] : (p ∧ decide p = true) ∨ (¬ p ∧ decide p = false) := by
  by_cases h : p
  · exact .inl ⟨h, decide_eq_true h⟩
  · exact .inr ⟨h, decide_eq_false h⟩
theorem beq_em (a b : Int) : ((a == b) = true ∧ Aside0 (a = b)) ∨ ((a == b) = false ∧ Aside0 (a ≠ b)) := by
  by_cases h : a = b
  · exact .inl ⟨beq_iff_eq.2 h, ⟨h⟩⟩
  · exact .inr ⟨beq_eq_false_iff_ne.2 h, ⟨h⟩⟩
theorem drawn_below {w w' : World} (h : Drawn0 w w') : Below w.heap.size w w' := by
  obtain ⟨n, rfl⟩ := h.out
  exact pw_below_drewN (Below.refl _ _) n
theorem rdmem {α : Type} {l : List α} {z : α} {i : Int} (h0 : 0 ≤ i) (h : i < l.length) : l.getD i.toNat z ∈ l := by
  rw [List.getD_eq_getElem?_getD, List.getElem?_eq_getElem (show i.toNat < l.length by omega)]
  exact List.getElem_mem _
theorem all_of {α : Type} {l : List α} {z : α} {P : α → Prop} {n : Int} (hn : n = l.length) (h : ∀ j : Int, 0 ≤ j → j < n → P (l.getD j.toNat z)) : ∀ x ∈ l, P x := by
  intro x hx
  obtain ⟨j, hj, rfl⟩ := List.mem_iff_getElem.1 hx
  have h_ := h (j : Int) (by omega) (by omega)
  rwa [List.getD_eq_getElem?_getD, Int.toNat_natCast, List.getElem?_eq_getElem hj] at h_
def NetP (ip b : Int) : Prop := (0 ≤ ip ∧ ip ≤ 4294967295) ∧ (0 ≤ b ∧ b ≤ 32) ∧ (Go.bits .and .i64 ip (wrap64 (wrap64 (2 ^ (32 - b).toNat) - 1))) = 0
theorem NetP.bits {ip b : Int} (h : NetP ip b) : 0 ≤ b ∧ b ≤ 32 := h.2.1
def HasP (ip b a : Int) : Prop := ip / 2 ^ (32 - b).toNat = a / 2 ^ (32 - b).toNat
def RangeP (lo hi : Int) : Prop := (0 ≤ lo ∧ lo ≤ 65535) ∧ (lo ≤ hi ∧ hi ≤ 65535)
def RuleP (x : S183) : Prop := (x.f0 = 0 ∨ x.f0 = 1 ∨ x.f0 = 6 ∨ x.f0 = 17) ∧ NetP x.f1.f0 x.f1.f1 ∧ RangeP x.f2.f0 x.f2.f1
def NameP (a : ByteArray) : Prop := nameb a = true
def RoleP (x : S145) : Prop := NameP x.f0 ∧ x.f0.size ≤ 8 ∧ x.f1.length ≤ 8 ∧ (1 ≤ x.f2 ∧ x.f2 ≤ 1000000) ∧ (1 ≤ x.f3 ∧ x.f3 ≤ 1000) ∧ (1 ≤ x.f4 ∧ x.f4 ≤ 1000) ∧ ∀ r ∈ x.f1, RuleP r
set_option maxHeartbeats 8000000 in
set_option maxRecDepth 100000 in
theorem sIn1 (a b c : Int) (w : World) : Calls Tryz.prog 35 #[.int .i64 a, .int .i64 b, .int .i64 c] w (IsB (b ≤ a ∧ a ≤ c) w) := by
  by_cases h1 : b ≤ a
  · by_cases h2 : a ≤ c
    · go_enter Tryz.func35, Tryz.ntmps35
      go_wp2
      go_ret
      exact .inl ⟨rfl, ⟨h1, h2⟩, Below.refl _ _⟩
    · go_enter Tryz.func35, Tryz.ntmps35
      go_wp2
      go_ret
      exact .inr ⟨rfl, fun h => by omega, Below.refl _ _⟩
  · go_enter Tryz.func35, Tryz.ntmps35
    go_wp2
    go_ret
    exact .inr ⟨rfl, fun h => by omega, Below.refl _ _⟩
set_option maxHeartbeats 8000000 in
set_option maxRecDepth 100000 in
theorem sIp1 (a : Int) (w : World) : Calls Tryz.prog 38 #[.int .i64 a] w (IsB (0 ≤ a ∧ a ≤ 4294967295) w) := by
  have HB := Aside0.mk (Below.refl w.heap.size w)
  have HP := Aside0.mk True.intro
  go_enter Tryz.func38, Tryz.ntmps38
  go_wp2_with (first
    | (go_at_call 35; refine (sIn1 _ _ _ _).mono ?_; rintro e w2 (⟨rfl, hr, hb⟩ | ⟨rfl, hr, hb⟩) <;> (have n_ := Aside0.mk (And.intro hr HP.out); clear HP hr; have HP := n_; clear n_; have n_ := Aside0.mk (below_step (w := w) (by repeat' (with_reducible first | exact HB.out | apply below_alloc | apply below_drew1 | refine below_set ?_ (by omega))) hb); clear HB; have HB := n_; clear n_; clear hb)))
  · go_ret
    exact .inl ⟨rfl, HP.out.1, HB.out⟩
  · go_ret
    exact .inr ⟨rfl, HP.out.1, HB.out⟩
theorem sMac1 (a : ByteArray) (w : World) : Calls Tryz.prog 36 #[.string a] w (IsB (a.size = 6) w) := (spec_l01Mac.calls a _ w rfl).mono fun e w' h => IsB.of h.1 (by rw [beq_iff_eq]; omega) (drawn_below h.2)
theorem sName1 (a : ByteArray) (w : World) : Calls Tryz.prog 133 #[.string a] w (IsB (NameP a) w) := (spec_NameOK.calls (a.size + 2) a (nameb a) w (spec_Name_ev a _ (Nat.le_refl _))).mono fun e w' h => IsB.of h.1 Iff.rfl (drawn_below h.2)
set_option maxHeartbeats 8000000 in
set_option maxRecDepth 100000 in
theorem sNet1 (ip b : Int) (w : World) : Calls Tryz.prog 89 #[.agg #[.int .i64 ip, .int .i64 b]] w (IsB (NetP ip b) w) := by
  have hu := Tryz.underlying37
  have HB := Aside0.mk (Below.refl w.heap.size w)
  have HP := Aside0.mk True.intro
  go_enter Tryz.func89, Tryz.ntmps89
  go_wp2_with (first
    | (go_at_call 38; refine (sIp1 _ _).mono ?_; rintro e w2 (⟨rfl, hr, hb⟩ | ⟨rfl, hr, hb⟩) <;> (have n_ := Aside0.mk (And.intro hr HP.out); clear HP hr; have HP := n_; clear n_; have n_ := Aside0.mk (below_step (w := w) (by repeat' (with_reducible first | exact HB.out | apply below_alloc | apply below_drew1 | refine below_set ?_ (by omega))) hb); clear HB; have HB := n_; clear n_; have n_ := Aside0.mk (blk_below (g := w.heap.size) (o := .cells #[.int .i64 ip, .int .i64 b] 37 (0, 0)) (by repeat' (with_reducible first | exact HX.out | exact blk_new _ _ | refine blk_alloc ?_ _ | refine blk_drew ?_ | refine blk_far ?_ (by dsimp only; omega) _)) hb); (try clear HX); have HX := n_; clear n_; obtain ⟨hc, hf⟩ := bcell hb; have hz : w.heap.size < w2.heap.size := blk_lt HX.out; clear hb))
    | (go_at_call 35; refine (sIn1 _ _ _ _).mono ?_; rintro e w2 (⟨rfl, hr, hb⟩ | ⟨rfl, hr, hb⟩); (obtain ⟨hk0, hk1⟩ := hr; have hr := And.intro hk0 hk1); all_goals (have n_ := Aside0.mk (And.intro hr HP.out); clear HP hr; have HP := n_; clear n_; have n_ := Aside0.mk (below_step (w := w) (by repeat' (with_reducible first | exact HB.out | apply below_alloc | apply below_drew1 | refine below_set ?_ (by omega))) hb); clear HB; have HB := n_; clear n_; have n_ := Aside0.mk (blk_below (g := w.heap.size) (o := .cells #[.int .i64 ip, .int .i64 b] 37 (0, 0)) (by repeat' (with_reducible first | exact HX.out | exact blk_new _ _ | refine blk_alloc ?_ _ | refine blk_drew ?_ | refine blk_far ?_ (by dsimp only; omega) _)) hb); (try clear HX); have HX := n_; clear n_; obtain ⟨hc, hf⟩ := bcell hb; have hz : w.heap.size < w2.heap.size := blk_lt HX.out; clear hb)))
  all_goals go_ret
  · exact IsB.of rfl (by rw [beq_iff_eq]; exact ⟨fun h => ⟨HP.out.2.1, HP.out.1, h⟩, fun h => h.2.2⟩) HB.out
  · exact .inr ⟨rfl, fun h => HP.out.1 h.2.1, HB.out⟩
  · exact .inr ⟨rfl, fun h => HP.out.1 h.1, HB.out⟩
set_option maxHeartbeats 8000000 in
set_option maxRecDepth 100000 in
theorem sHas1 (ip b a : Int) (w : World) (k0 : 0 ≤ b) (k1 : b ≤ 32) : Calls Tryz.prog 37 #[.agg #[.int .i64 ip, .int .i64 b], .int .i64 a] w (IsB (HasP ip b a) w) := by
  have hu := Tryz.underlying37
  go_enter Tryz.func37, Tryz.ntmps37
  go_wp2
  go_ret
  exact IsB.of rfl (by rw [beq_iff_eq]; exact Iff.rfl) (below_alloc (Below.refl _ _) _)
set_option maxHeartbeats 8000000 in
set_option maxRecDepth 100000 in
theorem sRange1 (a b : Int) (w : World) : Calls Tryz.prog 90 #[.agg #[.int .i64 a, .int .i64 b]] w (IsB (RangeP a b) w) := by
  have hu := Tryz.underlying138
  have HB := Aside0.mk (Below.refl w.heap.size w)
  have HP := Aside0.mk True.intro
  go_enter Tryz.func90, Tryz.ntmps90
  go_wp2_with (first
    | (go_at_call 35; refine (sIn1 _ _ _ _).mono ?_; rintro e w2 (⟨rfl, hr, hb⟩ | ⟨rfl, hr, hb⟩) <;> (have n_ := Aside0.mk (And.intro hr HP.out); clear HP hr; have HP := n_; clear n_; have n_ := Aside0.mk (below_step (w := w) (by repeat' (with_reducible first | exact HB.out | apply below_alloc | apply below_drew1 | refine below_set ?_ (by omega))) hb); clear HB; have HB := n_; clear n_; have n_ := Aside0.mk (blk_below (g := w.heap.size) (o := .cells #[.int .i64 a, .int .i64 b] 138 (0, 0)) (by repeat' (with_reducible first | exact HX.out | exact blk_new _ _ | refine blk_alloc ?_ _ | refine blk_drew ?_ | refine blk_far ?_ (by dsimp only; omega) _)) hb); (try clear HX); have HX := n_; clear n_; obtain ⟨hc, hf⟩ := bcell hb; have hz : w.heap.size < w2.heap.size := blk_lt HX.out; clear hb)))
  all_goals go_ret
  · exact .inl ⟨rfl, ⟨HP.out.2.1, HP.out.1⟩, HB.out⟩
  · exact .inr ⟨rfl, fun h => HP.out.1 h.2, HB.out⟩
  · exact .inr ⟨rfl, fun h => HP.out.1 h.1, HB.out⟩
set_option maxHeartbeats 8000000 in
set_option maxRecDepth 100000 in
theorem sRule1 (x : S183) (w : World) : Calls Tryz.prog 134 #[.agg #[.int .i64 x.f0, .int .i64 x.f1.f0, .int .i64 x.f1.f1, .int .i64 x.f2.f0, .int .i64 x.f2.f1, .bool x.f3]] w (IsB (RuleP x) w) := by
  have hu := Tryz.underlying183
  have HB := Aside0.mk (Below.refl w.heap.size w)
  have HP := Aside0.mk True.intro
  rcases beq_em x.f0 0 with ⟨b0, k0⟩ | ⟨b0, k0⟩
  rotate_left
  rcases beq_em x.f0 1 with ⟨b1, k1⟩ | ⟨b1, k1⟩
  rotate_left
  rcases beq_em x.f0 6 with ⟨b2, k2⟩ | ⟨b2, k2⟩
  rotate_left
  rcases beq_em x.f0 17 with ⟨b3, k3⟩ | ⟨b3, k3⟩
  all_goals go_enter Tryz.func134, Tryz.ntmps134
  all_goals go_wp2_with (first
   | (go_at_call 89; refine (sNet1 _ _ _).mono ?_; rintro e w2 (⟨rfl, hr, hb⟩ | ⟨rfl, hr, hb⟩) <;> (have n_ := Aside0.mk (And.intro hr HP.out); clear HP hr; have HP := n_; clear n_; have n_ := Aside0.mk (below_step (w := w) (by repeat' (with_reducible first | exact HB.out | apply below_alloc | apply below_drew1 | refine below_set ?_ (by omega))) hb); clear HB; have HB := n_; clear n_; have n_ := Aside0.mk (blk_below (g := w.heap.size) (o := .cells #[.int .i64 x.f0, .int .i64 x.f1.f0, .int .i64 x.f1.f1, .int .i64 x.f2.f0, .int .i64 x.f2.f1, .bool x.f3] 183 (0, 0)) (by repeat' (with_reducible first | exact HX.out | exact blk_new _ _ | refine blk_alloc ?_ _ | refine blk_drew ?_ | refine blk_far ?_ (by dsimp only; omega) _)) hb); (try clear HX); have HX := n_; clear n_; obtain ⟨hc, hf⟩ := bcell hb; have hz : w.heap.size < w2.heap.size := blk_lt HX.out; clear hb))
   | (go_at_call 90; refine (sRange1 _ _ _).mono ?_; rintro e w2 (⟨rfl, hr, hb⟩ | ⟨rfl, hr, hb⟩) <;> (have n_ := Aside0.mk (And.intro hr HP.out); clear HP hr; have HP := n_; clear n_; have n_ := Aside0.mk (below_step (w := w) (by repeat' (with_reducible first | exact HB.out | apply below_alloc | apply below_drew1 | refine below_set ?_ (by omega))) hb); clear HB; have HB := n_; clear n_; have n_ := Aside0.mk (blk_below (g := w.heap.size) (o := .cells #[.int .i64 x.f0, .int .i64 x.f1.f0, .int .i64 x.f1.f1, .int .i64 x.f2.f0, .int .i64 x.f2.f1, .bool x.f3] 183 (0, 0)) (by repeat' (with_reducible first | exact HX.out | exact blk_new _ _ | refine blk_alloc ?_ _ | refine blk_drew ?_ | refine blk_far ?_ (by dsimp only; omega) _)) hb); (try clear HX); have HX := n_; clear n_; obtain ⟨hc, hf⟩ := bcell hb; have hz : w.heap.size < w2.heap.size := blk_lt HX.out; clear hb)))
  all_goals go_ret
  all_goals first
    | exact .inr ⟨rfl, fun h => HP.out.1 h.2.2, HB.out⟩
    | exact .inr ⟨rfl, fun h => HP.out.1 h.2.1, HB.out⟩
    | exact .inr ⟨rfl, fun h => by have := k0.out; have := k1.out; have := k2.out; have := k3.out; have := h.1; omega, below_alloc HB.out _⟩
    | exact .inl ⟨rfl, ⟨by first | (have := k0.out; omega) | (have := k1.out; omega) | (have := k2.out; omega) | (have := k3.out; omega), HP.out.2.1, HP.out.1⟩, HB.out⟩
set_option maxHeartbeats 8000000 in
set_option maxRecDepth 100000 in
theorem sRole1 (x0 : ByteArray) (A1 : Option Addr) (c1 : Nat) (l : List S183) (q m z : Int) (w : World) (h : Kd.C k183 w A1 l.length l) (zl : l.length ≤ 1152921504606846976) (z0 : x0.size ≤ 1152921504606846976) : Calls Tryz.prog 91 #[.agg #[.string x0, .slice A1 l.length c1, .int .i64 q, .int .i64 m, .int .i64 z]] w (IsB (RoleP ⟨x0, l, q, m, z⟩) w) := by
  have hu := Tryz.underlying145
  have H0 := Aside0.mk h
  clear h
  have HB := Aside0.mk (Below.refl w.heap.size w)
  have HP := Aside0.mk True.intro
  rcases dec_em (8 < (x0.size : Int)) with ⟨k1, b1⟩ | ⟨k1, b1⟩ <;> rcases dec_em (8 < (l.length : Int)) with ⟨k2, b2⟩ | ⟨k2, b2⟩
  all_goals go_enter Tryz.func91, Tryz.ntmps91
  all_goals go_wp2_with (first
   | (go_at_call 133; refine (sName1 _ _).mono ?_; rintro e w2 (⟨rfl, hr, hb⟩ | ⟨rfl, hr, hb⟩) <;> (have n_ := Aside0.mk (And.intro hr HP.out); clear HP hr; have HP := n_; clear n_; have n_ := Aside0.mk (below_step (w := w) (by repeat' (with_reducible first | exact HB.out | apply below_alloc | apply below_drew1 | refine below_set ?_ (by omega))) hb); clear HB; have HB := n_; clear n_; have n_ := Aside0.mk (blk_below (g := w.heap.size) (o := .cells #[.string x0, .slice A1 l.length c1, .int .i64 q, .int .i64 m, .int .i64 z] 145 (0, 0)) (by repeat' (with_reducible first | exact HX.out | exact blk_new _ _ | refine blk_alloc ?_ _ | refine blk_drew ?_ | refine blk_far ?_ (by dsimp only; omega) _)) hb); (try clear HX); have HX := n_; clear n_; obtain ⟨hc, hf⟩ := bcell hb; have hz : w.heap.size < w2.heap.size := blk_lt HX.out; clear hb))
   | (go_at_call 35; refine (sIn1 _ _ _ _).mono ?_; rintro e w2 (⟨rfl, hr, hb⟩ | ⟨rfl, hr, hb⟩) <;> (have n_ := Aside0.mk (And.intro hr HP.out); clear HP hr; have HP := n_; clear n_; have n_ := Aside0.mk (below_step (w := w) (by repeat' (with_reducible first | exact HB.out | apply below_alloc | apply below_drew1 | refine below_set ?_ (by omega))) hb); clear HB; have HB := n_; clear n_; have n_ := Aside0.mk (blk_below (g := w.heap.size) (o := .cells #[.string x0, .slice A1 l.length c1, .int .i64 q, .int .i64 m, .int .i64 z] 145 (0, 0)) (by repeat' (with_reducible first | exact HX.out | exact blk_new _ _ | refine blk_alloc ?_ _ | refine blk_drew ?_ | refine blk_far ?_ (by dsimp only; omega) _)) hb); (try clear HX); have HX := n_; clear n_; obtain ⟨hc, hf⟩ := bcell hb; have hz : w.heap.size < w2.heap.size := blk_lt HX.out; clear hb)))
  all_goals try (go_ret; exact .inr ⟨rfl, by rintro ⟨p1, p2, p3, p4, p5, p6, p7⟩; dsimp only at *; first | exact HP.out.1 p1 | exact HP.out.1 p4 | exact HP.out.1 p5 | exact HP.out.1 p6 | omega, HB.out⟩; done)
  (try clear hc hf hz)
  have HQ := HP
  clear HP
  go_loopg [3] l.length (fun gg v w' => ∃ i : Int, v = .int .i64 i ∧ 0 ≤ i ∧ i ≤ l.length ∧ l.length - i ≤ gg ∧ Aside0 (Below w.heap.size w w') ∧ Aside0 (w'.heap[w.heap.size]? = some (.cells #[.string x0, .slice A1 l.length c1, .int .i64 q, .int .i64 m, .int .i64 z] 145 (0, 0))) ∧ Aside0 (∀ j : Int, 0 ≤ j → j < i → RuleP (l.getD j.toNat z183)))
  case atStart => exact ⟨0, rfl, Int.le_refl _, by omega, by omega, HB, HX, ⟨fun j h0 h1 => by omega⟩⟩
  case round =>
    clear HB HX
    obtain ⟨i, rfl, hi0, hi, hgg, HB, HX, HA⟩ := hrel
    have hx := blk_cell HX.out
    have hzr := blk_lt HX.out
    have HP := Aside0.mk True.intro
    by_cases hlt : i < l.length
    · obtain ⟨ad, eA, hrow⟩ := at_T183 (Kd.C_below H0.out HB.out) i hi0 hlt
      subst eA
      go_wp2_with (first
        | (go_at_call 134; refine (sRule1 (rd_T183 l i) _).mono ?_; rintro e w2 (⟨rfl, hr, hb⟩ | ⟨rfl, hr, hb⟩) <;> (have n_ := Aside0.mk (And.intro hr HP.out); clear HP hr; have HP := n_; clear n_; have n_ := Aside0.mk (below_step (w := w) (by repeat' (with_reducible first | exact HB.out | apply below_alloc | apply below_drew1 | refine below_set ?_ (by omega))) hb); clear HB; have HB := n_; clear n_; have n_ := Aside0.mk (blk_below (g := w.heap.size) (o := .cells #[.string x0, .slice (some ad) l.length c1, .int .i64 q, .int .i64 m, .int .i64 z] 145 (0, 0)) (by repeat' (with_reducible first | exact HX.out | exact blk_new _ _ | refine blk_alloc ?_ _ | refine blk_drew ?_ | refine blk_far ?_ (by dsimp only; omega) _)) hb); (try clear HX); have HX := n_; clear n_; obtain ⟨hc, hf⟩ := bcell hb; have hz : w.heap.size < w2.heap.size := blk_lt HX.out; clear hb)))
      rotate_left
      · go_ret
        exact .inr ⟨rfl, fun h => HP.out.1 (h.2.2.2.2.2.2 _ (rdmem hi0 hlt)), HB.out⟩
      · (try clear hx)
        go_roundg (l.length - (i + 1)).toNat
        case measure => omega
        case rel => exact ⟨i + 1, rfl, by omega, by omega, by omega, HB, HX, ⟨fun j h0 h1 => by
          by_cases hj : j < i
          · exact HA.out j h0 hj
          · obtain rfl : j = i := by omega
            exact HP.out.1⟩⟩
    · obtain rfl : i = l.length := by omega
      go_wp2
      go_ret
      exact .inl ⟨rfl, ⟨HQ.out.2.2.2.1, by dsimp only; omega, by dsimp only; omega, HQ.out.2.2.1, HQ.out.2.1, HQ.out.1, all_of rfl HA.out⟩, HB.out⟩
end
section
theorem str_geq (t : TypeId) (a b : ByteArray) (w : World) : (Sem.run Tryz.prog (binOp BinOp.geq t (Value.string a) (Value.string b)) w) = .ok (.bool (!Op.bytesLess a.toList b.toList)) w := by
  simp [binOp, Op.stringOp]
theorem str_lss (t : TypeId) (a b : ByteArray) (w : World) : (Sem.run Tryz.prog (binOp BinOp.lss t (Value.string a) (Value.string b)) w) = .ok (.bool (Op.bytesLess a.toList b.toList)) w := by
  simp [binOp, Op.stringOp]
end
section
-- NEEDS spec.ConfigOK laws.eqConfig
attribute [local go_sem] str_geq str_lss
def PlaceP (x : S140) : Prop := NetP x.f0.f0 x.f0.f1 ∧ RangeP x.f1.f0 x.f1.f1
def RisesP (l : List S145) (i : Int) : Prop := 0 < i → Op.bytesLess (rd_T145 l (i - 1)).f0.toList (rd_T145 l i).f0.toList = true
def ConfigP (ip b gate : Int) (gm wm : ByteArray) (res : Int) (g : List S140) (l : List S145) : Prop := NetP ip b ∧ (0 ≤ gate ∧ gate ≤ 4294967295) ∧ HasP ip b gate ∧ gm.size = 6 ∧ wm.size = 6 ∧ (0 ≤ res ∧ res ≤ 4294967295) ∧ ¬ HasP ip b res ∧ g.length ≤ 8 ∧ (1 ≤ (l.length : Int) ∧ (l.length : Int) ≤ 4) ∧ (∀ x ∈ g, PlaceP x) ∧ (∀ x ∈ l, RoleP x) ∧ (∀ i : Int, 0 ≤ i → i < l.length → RisesP l i)
theorem bool_em (b : Bool) : b = true ∨ b = false := by cases b <;> simp
theorem i64id {n : Int} (h0 : -9223372036854775808 ≤ n) (h1 : n ≤ 9223372036854775807) : IntKind.i64.wrap n = n := by rw [IntKind.wrap_i64]; omega
theorem IsB.yes {P : Prop} {w w' : World} {e : Ending} (h : IsB P w e w') (hp : P) : e = .returned (.bool true) ∧ Below w.heap.size w w' := by
  rcases h with ⟨h1, h2, h3⟩ | ⟨h1, h2, h3⟩
  · exact ⟨h1, h3⟩
  · exact absurd hp h2
theorem IsB.no {P : Prop} {w w' : World} {e : Ending} (h : IsB P w e w') (hp : ¬ P) : e = .returned (.bool false) ∧ Below w.heap.size w w' := by
  rcases h with ⟨h1, h2, h3⟩ | ⟨h1, h2, h3⟩
  · exact absurd h2 hp
  · exact ⟨h1, h3⟩
set_option maxHeartbeats 8000000 in
set_option maxRecDepth 100000 in
theorem sConfig1 (ip b gate : Int) (gm wm : ByteArray) (res : Int) (A6 : Option Addr) (c6 : Nat) (g : List S140) (A7 : Option Addr) (c7 : Nat) (l : List S145) (w : World) (hg : Kd.C k140 w A6 g.length g) (hl : Kd.C k145 w A7 l.length l) (zg : g.length ≤ 1152921504606846976) (zl : l.length ≤ 1152921504606846976) (zr : ∀ x ∈ l, x.f1.length ≤ 1152921504606846976 ∧ x.f0.size ≤ 1152921504606846976) (zm : gm.size ≤ 1152921504606846976) (zw : wm.size ≤ 1152921504606846976) :
    Calls Tryz.prog 33 #[.agg #[.int .i64 ip, .int .i64 b, .int .i64 gate, .string gm, .string wm, .int .i64 res, .slice A6 g.length c6, .slice A7 l.length c7]] w (IsB (ConfigP ip b gate gm wm res g l) w) := by
  have hu := Tryz.underlying41
  have H0 := Aside0.mk (And.intro hg hl)
  have HZ := Aside0.mk zr
  clear hg hl zr
  have HB := Aside0.mk (Below.refl w.heap.size w)
  have HP := Aside0.mk True.intro
  rcases dec_em (8 < (g.length : Int)) with ⟨k1, b1⟩ | ⟨k1, b1⟩
  all_goals go_enter Tryz.func33, Tryz.ntmps33
  all_goals go_wp2_with (first
   | (go_at_call 89; refine (sNet1 _ _ _).mono ?_; rintro e w2 (⟨rfl, hr, hb⟩ | ⟨rfl, hr, hb⟩); (obtain ⟨hk0, hk1⟩ := NetP.bits hr); all_goals (have n_ := Aside0.mk (And.intro hr HP.out); clear HP hr; have HP := n_; clear n_; have n_ := Aside0.mk (below_step (w := w) (by repeat' (with_reducible first | exact HB.out | apply below_alloc | apply below_drew1 | refine below_set ?_ (by omega))) hb); clear HB; have HB := n_; clear n_; have n_ := Aside0.mk (blk_below (g := w.heap.size) (o := .cells #[.int .i64 ip, .int .i64 b, .int .i64 gate, .string gm, .string wm, .int .i64 res, .slice A6 g.length c6, .slice A7 l.length c7] 41 (0, 0)) (by repeat' (with_reducible first | exact HX.out | exact blk_new _ _ | refine blk_alloc ?_ _ | refine blk_drew ?_ | refine blk_far ?_ (by dsimp only; omega) _)) hb); (try clear HX); have HX := n_; clear n_; obtain ⟨hc, hf⟩ := bcell hb; have hz : w.heap.size < w2.heap.size := blk_lt HX.out; clear hb))
   | (go_at_call 38; refine (sIp1 _ _).mono ?_; rintro e w2 (⟨rfl, hr, hb⟩ | ⟨rfl, hr, hb⟩) <;> (have n_ := Aside0.mk (And.intro hr HP.out); clear HP hr; have HP := n_; clear n_; have n_ := Aside0.mk (below_step (w := w) (by repeat' (with_reducible first | exact HB.out | apply below_alloc | apply below_drew1 | refine below_set ?_ (by omega))) hb); clear HB; have HB := n_; clear n_; have n_ := Aside0.mk (blk_below (g := w.heap.size) (o := .cells #[.int .i64 ip, .int .i64 b, .int .i64 gate, .string gm, .string wm, .int .i64 res, .slice A6 g.length c6, .slice A7 l.length c7] 41 (0, 0)) (by repeat' (with_reducible first | exact HX.out | exact blk_new _ _ | refine blk_alloc ?_ _ | refine blk_drew ?_ | refine blk_far ?_ (by dsimp only; omega) _)) hb); (try clear HX); have HX := n_; clear n_; obtain ⟨hc, hf⟩ := bcell hb; have hz : w.heap.size < w2.heap.size := blk_lt HX.out; clear hb))
   | (go_at_call 37; refine (sHas1 _ _ _ _ hk0 hk1).mono ?_; rintro e w2 (⟨rfl, hr, hb⟩ | ⟨rfl, hr, hb⟩) <;> (have n_ := Aside0.mk (And.intro hr HP.out); clear HP hr; have HP := n_; clear n_; have n_ := Aside0.mk (below_step (w := w) (by repeat' (with_reducible first | exact HB.out | apply below_alloc | apply below_drew1 | refine below_set ?_ (by omega))) hb); clear HB; have HB := n_; clear n_; have n_ := Aside0.mk (blk_below (g := w.heap.size) (o := .cells #[.int .i64 ip, .int .i64 b, .int .i64 gate, .string gm, .string wm, .int .i64 res, .slice A6 g.length c6, .slice A7 l.length c7] 41 (0, 0)) (by repeat' (with_reducible first | exact HX.out | exact blk_new _ _ | refine blk_alloc ?_ _ | refine blk_drew ?_ | refine blk_far ?_ (by dsimp only; omega) _)) hb); (try clear HX); have HX := n_; clear n_; obtain ⟨hc, hf⟩ := bcell hb; have hz : w.heap.size < w2.heap.size := blk_lt HX.out; clear hb))
   | (go_at_call 36; refine (sMac1 _ _).mono ?_; rintro e w2 (⟨rfl, hr, hb⟩ | ⟨rfl, hr, hb⟩) <;> (have n_ := Aside0.mk (And.intro hr HP.out); clear HP hr; have HP := n_; clear n_; have n_ := Aside0.mk (below_step (w := w) (by repeat' (with_reducible first | exact HB.out | apply below_alloc | apply below_drew1 | refine below_set ?_ (by omega))) hb); clear HB; have HB := n_; clear n_; have n_ := Aside0.mk (blk_below (g := w.heap.size) (o := .cells #[.int .i64 ip, .int .i64 b, .int .i64 gate, .string gm, .string wm, .int .i64 res, .slice A6 g.length c6, .slice A7 l.length c7] 41 (0, 0)) (by repeat' (with_reducible first | exact HX.out | exact blk_new _ _ | refine blk_alloc ?_ _ | refine blk_drew ?_ | refine blk_far ?_ (by dsimp only; omega) _)) hb); (try clear HX); have HX := n_; clear n_; obtain ⟨hc, hf⟩ := bcell hb; have hz : w.heap.size < w2.heap.size := blk_lt HX.out; clear hb))
   | (go_at_call 35; refine (sIn1 _ _ _ _).mono ?_; rintro e w2 (⟨rfl, hr, hb⟩ | ⟨rfl, hr, hb⟩) <;> (have n_ := Aside0.mk (And.intro hr HP.out); clear HP hr; have HP := n_; clear n_; have n_ := Aside0.mk (below_step (w := w) (by repeat' (with_reducible first | exact HB.out | apply below_alloc | apply below_drew1 | refine below_set ?_ (by omega))) hb); clear HB; have HB := n_; clear n_; have n_ := Aside0.mk (blk_below (g := w.heap.size) (o := .cells #[.int .i64 ip, .int .i64 b, .int .i64 gate, .string gm, .string wm, .int .i64 res, .slice A6 g.length c6, .slice A7 l.length c7] 41 (0, 0)) (by repeat' (with_reducible first | exact HX.out | exact blk_new _ _ | refine blk_alloc ?_ _ | refine blk_drew ?_ | refine blk_far ?_ (by dsimp only; omega) _)) hb); (try clear HX); have HX := n_; clear n_; obtain ⟨hc, hf⟩ := bcell hb; have hz : w.heap.size < w2.heap.size := blk_lt HX.out; clear hb)))
  all_goals try (go_ret; exact .inr ⟨rfl, by rintro ⟨p1, p2, p3, p4, p5, p6, p7, p8, p9, p10, p11, p12⟩; first | exact HP.out.1 p1 | exact HP.out.1 p2 | exact HP.out.1 p3 | exact HP.out.1 p4 | exact HP.out.1 p5 | exact HP.out.1 p6 | exact p7 HP.out.1 | exact HP.out.1 p9 | omega, HB.out⟩; done)
  (try clear hc hf hz)
  have HQ := HP
  clear HP
  go_loopg [3] g.length (fun gg v w' => ∃ i : Int, v = .int .i64 i ∧ 0 ≤ i ∧ i ≤ g.length ∧ g.length - i ≤ gg ∧ Aside0 (Below w.heap.size w w') ∧ Aside0 (w'.heap[w.heap.size]? = some (.cells #[.int .i64 ip, .int .i64 b, .int .i64 gate, .string gm, .string wm, .int .i64 res, .slice A6 g.length c6, .slice A7 l.length c7] 41 (0, 0))) ∧ Aside0 (∀ j : Int, 0 ≤ j → j < i → PlaceP (g.getD j.toNat z140)))
  case atStart => exact ⟨0, rfl, Int.le_refl _, by omega, by omega, HB, HX, ⟨fun j h0 h1 => by omega⟩⟩
  case round =>
    clear HB HX
    obtain ⟨i, rfl, hi0, hi, hgg, HB, HX, HA⟩ := hrel
    have hx := blk_cell HX.out
    have hzr := blk_lt HX.out
    have HP := Aside0.mk True.intro
    by_cases hlt : i < g.length
    · obtain ⟨ad, eA, hrow⟩ := at_T140 (Kd.C_below H0.out.1 HB.out) i hi0 hlt
      subst eA
      go_wp2_with (first
        | (go_at_call 89; refine (sNet1 _ _ _).mono ?_; rintro e w2 (⟨rfl, hr, hb⟩ | ⟨rfl, hr, hb⟩) <;> (have n_ := Aside0.mk (And.intro hr HP.out); clear HP hr; have HP := n_; clear n_; have n_ := Aside0.mk (below_step (w := w) (by repeat' (with_reducible first | exact HB.out | apply below_alloc | apply below_drew1 | refine below_set ?_ (by omega))) hb); clear HB; have HB := n_; clear n_; have n_ := Aside0.mk (blk_below (g := w.heap.size) (o := .cells #[.int .i64 ip, .int .i64 b, .int .i64 gate, .string gm, .string wm, .int .i64 res, .slice (some ad) g.length c6, .slice A7 l.length c7] 41 (0, 0)) (by repeat' (with_reducible first | exact HX.out | exact blk_new _ _ | refine blk_alloc ?_ _ | refine blk_drew ?_ | refine blk_far ?_ (by dsimp only; omega) _)) hb); (try clear HX); have HX := n_; clear n_; obtain ⟨hc, hf⟩ := bcell hb; have hz : w.heap.size < w2.heap.size := blk_lt HX.out; obtain ⟨ad2, e2, hrow⟩ := at_T140 (Kd.C_below H0.out.1 HB.out) i hi0 hlt; obtain rfl := Option.some.inj e2; clear hb))
        | (go_at_call 90; refine (sRange1 _ _ _).mono ?_; rintro e w2 (⟨rfl, hr, hb⟩ | ⟨rfl, hr, hb⟩) <;> (have n_ := Aside0.mk (And.intro hr HP.out); clear HP hr; have HP := n_; clear n_; have n_ := Aside0.mk (below_step (w := w) (by repeat' (with_reducible first | exact HB.out | apply below_alloc | apply below_drew1 | refine below_set ?_ (by omega))) hb); clear HB; have HB := n_; clear n_; have n_ := Aside0.mk (blk_below (g := w.heap.size) (o := .cells #[.int .i64 ip, .int .i64 b, .int .i64 gate, .string gm, .string wm, .int .i64 res, .slice (some ad) g.length c6, .slice A7 l.length c7] 41 (0, 0)) (by repeat' (with_reducible first | exact HX.out | exact blk_new _ _ | refine blk_alloc ?_ _ | refine blk_drew ?_ | refine blk_far ?_ (by dsimp only; omega) _)) hb); (try clear HX); have HX := n_; clear n_; obtain ⟨hc, hf⟩ := bcell hb; have hz : w.heap.size < w2.heap.size := blk_lt HX.out; clear hb)))
      rotate_left
      · go_ret
        exact .inr ⟨rfl, fun h => HP.out.1 (h.2.2.2.2.2.2.2.2.2.1 _ (rdmem hi0 hlt)).2, HB.out⟩
      · go_ret
        exact .inr ⟨rfl, fun h => HP.out.1 (h.2.2.2.2.2.2.2.2.2.1 _ (rdmem hi0 hlt)).1, HB.out⟩
      · (try clear hx)
        go_roundg (g.length - (i + 1)).toNat
        case measure => omega
        case rel => exact ⟨i + 1, rfl, by omega, by omega, by omega, HB, HX, ⟨fun j h0 h1 => by
          by_cases hj : j < i
          · exact HA.out j h0 hj
          · obtain rfl : j = i := by omega
            exact ⟨HP.out.2.1, HP.out.1⟩⟩⟩
    · obtain rfl : i = g.length := by omega
      go_wp2
      obtain ⟨wo, rfl⟩ : ∃ wo : World, wo = wr := ⟨_, rfl⟩
      have HG := HA
      clear HA hi0 hi hgg hlt hx hzr HP
      go_loopg [4] l.length (fun gg v w' => ∃ i : Int, v = .int .i64 i ∧ 0 ≤ i ∧ i ≤ l.length ∧ l.length - i ≤ gg ∧ Aside0 (Below w.heap.size w w') ∧ Aside0 (w'.heap[w.heap.size]? = some (.cells #[.int .i64 ip, .int .i64 b, .int .i64 gate, .string gm, .string wm, .int .i64 res, .slice A6 g.length c6, .slice A7 l.length c7] 41 (0, 0))) ∧ Aside0 (∀ j : Int, 0 ≤ j → j < i → RoleP (l.getD j.toNat z145)) ∧ Aside0 (∀ j : Int, 0 ≤ j → j < i → RisesP l j))
      case atStart => exact ⟨0, rfl, Int.le_refl _, by omega, by omega, HB, HX, ⟨fun j h0 h1 => by omega⟩, ⟨fun j h0 h1 => by omega⟩⟩
      case round =>
        clear HB HX
        obtain ⟨i, rfl, hi0, hi, hgg, HB, HX, HA, HS⟩ := hrel
        have hx := blk_cell HX.out
        have hzr := blk_lt HX.out
        by_cases hlt : i < l.length
        · obtain ⟨ad, aA, aC, eA, r0, r1, r2, r3, r4, al, ak⟩ := at_T145 (Kd.C_below H0.out.2 HB.out) i hi0 hlt
          have HK := Aside0.mk ak
          have HM := Aside0.mk (HZ.out _ (rdmem (z := z145) hi0 hlt))
          have hcR : c145 wr (ad.add (i.toNat * 5)) (rd_T145 l i) aA aC := ⟨r0, r1, r2, r3, r4⟩
          clear r0 r1 r2 r3 r4 al ak
          have hb7 : wr.cell? ⟨w.heap.size, 7, none⟩ = some (.slice (some ad) l.length c7) := by rw [← eA]; exact hx 7
          rcases Classical.em (RoleP (rd_T145 l i)) with k1 | k1
          rotate_left
          · have K1 := Aside0.mk k1
            clear k1
            subst eA
            go_wp2
            refine qS (fun w' => w'.cell? ⟨w.heap.size, 7, none⟩ = some (.slice (some ad) l.length c7) ∧ c145 w' (ad.add (i.toNat * 5)) (rd_T145 l i) aA aC) 27 ⟨hb7, hcR⟩ (fun hs => ?_)
            refine qP 0 93 ?_
            refine qP 2 95 ?_
            refine qT 1 94 hs ?_
            refine qP 3 96 ?_
            refine qT 4 97 hs ?_
            refine q1 5 98 (fun K hK => ?_)
            refine qC Tryz.func91 _ ?_
            refine (sRole1 _ _ _ _ _ _ _ _ (Kd.C_below HK.out (below_drew1 (Below.refl _ _))) HM.out.1 HM.out.2).mono ?_
            intro e w2 h2
            obtain ⟨rfl, hb⟩ := h2.no K1.out
            refine ⟨_, rfl, hK.out _ _ ⟨pw_cell_below hb hb7, c145_below hb hcR⟩ (fun hs => ?_)⟩
            clear hK K
            refine qN ?_
            refine qP 6 99 ?_
            refine qP 7 100 ?_
            refine qU 8 101 ?_
            refine qU 9 102 ?_
            refine qU 10 103 ?_
            refine qU 11 104 ?_
            refine qU 12 105 ?_
            refine qU 13 106 ?_
            refine qU 14 107 ?_
            refine qU 15 108 ?_
            refine qU 16 109 ?_
            refine qU 17 110 ?_
            refine qU 18 111 ?_
            refine qU 19 112 ?_
            refine qU 20 113 ?_
            refine qU 21 114 ?_
            refine qU 22 115 ?_
            refine qU 23 116 ?_
            refine qU 24 117 ?_
            refine qU 25 118 ?_
            refine qP 26 119 ?_
            refine qD ?_
            have HB2 := Aside0.mk (below_step (below_drew1 HB.out) hb)
            clear hb
            go_wp2
            go_ret
            exact .inr ⟨rfl, fun h => K1.out (h.2.2.2.2.2.2.2.2.2.2.1 _ (rdmem hi0 hlt)), HB2.out⟩
          · have K1 := Aside0.mk k1
            clear k1
            rcases dec_em (0 < i) with ⟨k2, b2⟩ | ⟨k2, b2⟩
            rotate_left
            · subst eA
              go_wp2
              refine qS (fun w' => w'.cell? ⟨w.heap.size, 7, none⟩ = some (.slice (some ad) l.length c7) ∧ c145 w' (ad.add (i.toNat * 5)) (rd_T145 l i) aA aC) 27 ⟨hb7, hcR⟩ (fun hs => ?_)
              refine qP 0 93 ?_
              refine qP 2 95 ?_
              refine qT 1 94 hs ?_
              refine qP 3 96 ?_
              refine qT 4 97 hs ?_
              refine q1 5 98 (fun K hK => ?_)
              refine qC Tryz.func91 _ ?_
              refine (sRole1 _ _ _ _ _ _ _ _ (Kd.C_below HK.out (below_drew1 (Below.refl _ _))) HM.out.1 HM.out.2).mono ?_
              intro e w2 h2
              obtain ⟨rfl, hb⟩ := h2.yes K1.out
              refine ⟨_, rfl, hK.out _ _ ⟨pw_cell_below hb hb7, c145_below hb hcR⟩ (fun hs => ?_)⟩
              clear hK K
              refine qN ?_
              refine qP 6 99 ?_
              refine qP 7 100 ?_
              refine qP 8 101 ?_
              refine qP 9 102 ?_
              refine qP 10 103 ?_
              refine qU 11 104 ?_
              refine qU 12 105 ?_
              refine qU 13 106 ?_
              refine qU 14 107 ?_
              refine qU 15 108 ?_
              refine qU 16 109 ?_
              refine qU 17 110 ?_
              refine qU 18 111 ?_
              refine qU 19 112 ?_
              refine qU 20 113 ?_
              refine qU 21 114 ?_
              refine qU 22 115 ?_
              refine qU 23 116 ?_
              refine qU 24 117 ?_
              refine qP 25 118 ?_
              refine qP 26 119 ?_
              refine qD ?_
              have HX2 := Aside0.mk (blk_below (blk_drew HX.out) hb)
              have HB2 := Aside0.mk (below_step (below_drew1 HB.out) hb)
              clear hb hx
              go_wp2
              go_roundg (l.length - (i + 1)).toNat
              case measure => omega
              case rel => exact ⟨i + 1, rfl, by omega, by omega, by omega, HB2, HX2, ⟨fun j h0 h1 => by
                by_cases hj : j < i
                · exact HA.out j h0 hj
                · obtain rfl : j = i := by omega
                  exact K1.out⟩, ⟨fun j h0 h1 => by
                by_cases hj : j < i
                · exact HS.out j h0 hj
                · intro h2; omega⟩⟩
            · obtain ⟨pd, pA, pC, eP, q0, _⟩ := at_T145 (Kd.C_below H0.out.2 HB.out) (i - 1) (by omega) (by omega)
              obtain rfl : ad = pd := Option.some.inj (eA.symm.trans eP)
              have hwr : IntKind.i64.wrap (i - 1) = i - 1 := i64id (by omega) (by omega)
              have h1m : 1 ≤ i := by omega
              have h2m : i - 1 < (l.length : Int) := by omega
              rw [show (i - 1).toNat = i.toNat - 1 by omega] at q0
              subst eA
              clear eP
              rcases bool_em (Op.bytesLess (rd_T145 l (i - 1)).f0.toList (rd_T145 l i).f0.toList) with k3 | k3
              all_goals
                go_wp2
                refine qS (fun w' => w'.cell? ⟨w.heap.size, 7, none⟩ = some (.slice (some ad) l.length c7) ∧ c145 w' (ad.add (i.toNat * 5)) (rd_T145 l i) aA aC ∧ w'.cell? (ad.add ((i.toNat - 1) * 5)) = some (.string (rd_T145 l (i - 1)).f0)) 27 ⟨hb7, hcR, q0⟩ (fun hs => ?_)
                refine qP 0 93 ?_
                refine qP 2 95 ?_
                refine qT 1 94 hs ?_
                refine qP 3 96 ?_
                refine qT 4 97 hs ?_
                refine q1 5 98 (fun K hK => ?_)
                refine qC Tryz.func91 _ ?_
                refine (sRole1 _ _ _ _ _ _ _ _ (Kd.C_below HK.out (below_drew1 (Below.refl _ _))) HM.out.1 HM.out.2).mono ?_
                intro e w2 h2
                obtain ⟨rfl, hb⟩ := h2.yes K1.out
                refine ⟨_, rfl, hK.out _ _ ⟨pw_cell_below hb hb7, c145_below hb hcR, pw_cell_below hb q0⟩ (fun hs => ?_)⟩
                clear hK K
                refine qN ?_
                refine qP 6 99 ?_
                refine qP 7 100 ?_
                refine qP 8 101 ?_
                refine qP 9 102 ?_
                refine qP 10 103 ?_
                refine qP 11 104 ?_
                refine qP 13 106 ?_
                refine qP 14 107 ?_
                refine qP 18 111 ?_
                refine qP 20 113 ?_
                refine qT 12 105 hs ?_
                refine qP 15 108 ?_
                refine qP 16 109 ?_
                refine qT 17 110 hs ?_
                refine qT 19 112 hs ?_
                refine qP 21 114 ?_
                refine qP 22 115 ?_
                refine qT 23 116 hs ?_
                refine qP 24 117 ?_
                refine qP 25 118 ?_
                refine qP 26 119 ?_
                refine qD ?_
                have HX2 := Aside0.mk (blk_below (blk_drew HX.out) hb)
                have HB2 := Aside0.mk (below_step (below_drew1 HB.out) hb)
                clear hb hx hs hb7 hcR q0 hwr h1m h2m
                go_wp2
              · have K3 := Aside0.mk k3
                clear k3
                go_roundg (l.length - (i + 1)).toNat
                case measure => omega
                case rel => exact ⟨i + 1, rfl, by omega, by omega, by omega, HB2, HX2, ⟨fun j h0 h1 => by
                  by_cases hj : j < i
                  · exact HA.out j h0 hj
                  · obtain rfl : j = i := by omega
                    exact K1.out⟩, ⟨fun j h0 h1 => by
                  by_cases hj : j < i
                  · exact HS.out j h0 hj
                  · obtain rfl : j = i := by omega
                    exact fun _ => K3.out⟩⟩
              · go_ret
                exact .inr ⟨rfl, fun h => absurd (h.2.2.2.2.2.2.2.2.2.2.2 i hi0 hlt k2) (by rw [k3]; decide), HB2.out⟩
        · obtain rfl : i = l.length := by omega
          go_wp2
          go_ret
          exact .inl ⟨rfl, ⟨HQ.out.2.2.2.2.2.2.2.1, HQ.out.2.2.2.2.2.2.1, HQ.out.2.2.2.2.2.1, HQ.out.2.2.2.2.1, HQ.out.2.2.2.1, HQ.out.2.2.1, HQ.out.2.1, by omega, HQ.out.1, all_of rfl HG.out, all_of rfl HA.out, HS.out⟩, HB.out⟩
end
section
-- NEEDS impl.ConfigOK laws.eqConfig spec.ConfigOK
def IsI {α : Type} (P : α → Prop) (l : List α) (z : α) (w : World) (e : Ending) (w' : World) : Prop := ∃ r : Int, e = .returned (.int .i64 r) ∧ Below w.heap.size w w' ∧ ((r = -1 ∧ ∀ x ∈ l, ¬ P x) ∨ (0 ≤ r ∧ r < l.length ∧ P (l.getD r.toNat z) ∧ ∀ j : Int, 0 ≤ j → j < r → ¬ P (l.getD j.toNat z)))
set_option maxHeartbeats 8000000 in
set_option maxRecDepth 100000 in
theorem indexPlace (g : FuncId) (lb : Array Value) (eg : ∀ args w, (callFunc g args).run Tryz.prog w = .ok (.enter g args) w) (P : S140 → Prop) (A0 : Option Addr) (c0 : Nat) (l : List S140) (w : World) (zl : l.length ≤ 1152921504606846976)
    (hp : ∀ (W : World) (x : S140), x ∈ l → Below w.heap.size w W → Calls Tryz.prog g (#[.agg #[.int .i64 x.f0.f0, .int .i64 x.f0.f1, .int .i64 x.f1.f0, .int .i64 x.f1.f1]] ++ lb) W (IsB (P x) W)) (hr0 : Kd.C k140 w A0 l.length l) :
    Calls Tryz.prog 137 #[.slice A0 l.length c0, .func (.func g) #[] lb] w (IsI P l z140 w) := by
  have hu := Tryz.underlying140
  have H0 := Aside0.mk hr0
  have H1 := Aside0.mk hp
  clear hr0 hp
  have HB := Aside0.mk (Below.refl w.heap.size w)
  go_enter Tryz.func137, Tryz.ntmps137
  go_wp2
  go_loopg [5, 8] l.length (fun gg _ v w' => ∃ i : Int, v = .int .i64 i ∧ 0 ≤ i ∧ i ≤ l.length ∧ l.length - i ≤ gg ∧ Aside0 (Below w.heap.size w w') ∧ Aside0 (∀ j : Int, 0 ≤ j → j < i → ¬ P (l.getD j.toNat z140)))
  case atStart => exact ⟨0, rfl, Int.le_refl _, by omega, by omega, HB, ⟨fun j h0 h1 => by omega⟩⟩
  case round =>
    clear HB
    obtain ⟨i, rfl, hi0, hi, hgg, HB, HA⟩ := hrel
    by_cases hlt : i < l.length
    · obtain ⟨ad, eA, hrow⟩ := at_T140 (Kd.C_below H0.out HB.out) i hi0 hlt
      subst eA
      have HC := Aside0.mk (H1.out wr (rd_T140 l i) (rdmem hi0 hlt) HB.out)
      go_wp2_with (refine HC.out.mono ?_; rintro e w2 (⟨rfl, hr, hb⟩ | ⟨rfl, hr, hb⟩) <;> (have HP := Aside0.mk hr; clear hr; have HB2 := Aside0.mk (below_step HB.out hb); clear hb))
      · go_ret
        exact ⟨i, rfl, HB2.out, .inr ⟨hi0, hlt, HP.out, HA.out⟩⟩
      · go_roundg (l.length - (i + 1)).toNat
        case measure => omega
        case rel => exact ⟨i + 1, rfl, by omega, by omega, by omega, HB2, ⟨fun j h0 h1 => by
          by_cases hj : j < i
          · exact HA.out j h0 hj
          · obtain rfl : j = i := by omega
            exact HP.out⟩⟩
    · obtain rfl : i = l.length := by omega
      go_wp2
      go_ret
      exact ⟨-1, rfl, HB.out, .inl ⟨rfl, all_of rfl HA.out⟩⟩
set_option maxHeartbeats 8000000 in
set_option maxRecDepth 100000 in
theorem containsPlace (g : FuncId) (lb : Array Value) (eg : ∀ args w, (callFunc g args).run Tryz.prog w = .ok (.enter g args) w) (P : S140 → Prop) (A0 : Option Addr) (c0 : Nat) (l : List S140) (w : World) (zl : l.length ≤ 1152921504606846976)
    (hp : ∀ (W : World) (x : S140), x ∈ l → Below w.heap.size w W → Calls Tryz.prog g (#[.agg #[.int .i64 x.f0.f0, .int .i64 x.f0.f1, .int .i64 x.f1.f0, .int .i64 x.f1.f1]] ++ lb) W (IsB (P x) W)) (hr0 : Kd.C k140 w A0 l.length l) :
    Calls Tryz.prog 104 #[.slice A0 l.length c0, .func (.func g) #[] lb] w (IsB (∃ x ∈ l, P x) w) := by
  have HC := indexPlace g lb eg P A0 c0 l w zl hp hr0
  clear hp hr0
  have ei := enters_ Tryz.func137 (by kernel_rfl) rfl
  go_enter Tryz.func104, Tryz.ntmps104
  go_wp2_with (refine HC.mono ?_; rintro e w6 ⟨r, rfl, hb, hr⟩; have HR := Aside0.mk hr; have HB := Aside0.mk hb; clear hr hb)
  go_ret
  refine IsB.of rfl ?_ HB.out
  rcases HR.out with ⟨h1, h2⟩ | ⟨h1, h2, h3, _⟩
  · exact ⟨fun h => absurd (of_decide_eq_true h) (by omega), fun ⟨x, hx, hp⟩ => absurd hp (h2 x hx)⟩
  · exact ⟨fun _ => ⟨_, rdmem h1 h2, h3⟩, fun _ => decide_eq_true h1⟩
set_option maxHeartbeats 8000000 in
set_option maxRecDepth 100000 in
theorem indexRule (g : FuncId) (lb : Array Value) (eg : ∀ args w, (callFunc g args).run Tryz.prog w = .ok (.enter g args) w) (P : S183 → Prop) (A0 : Option Addr) (c0 : Nat) (l : List S183) (w : World) (zl : l.length ≤ 1152921504606846976)
    (hp : ∀ (W : World) (x : S183), x ∈ l → Below w.heap.size w W → Calls Tryz.prog g (#[.agg #[.int .i64 x.f0, .int .i64 x.f1.f0, .int .i64 x.f1.f1, .int .i64 x.f2.f0, .int .i64 x.f2.f1, .bool x.f3]] ++ lb) W (IsB (P x) W)) (hr0 : Kd.C k183 w A0 l.length l) :
    Calls Tryz.prog 146 #[.slice A0 l.length c0, .func (.func g) #[] lb] w (IsI P l z183 w) := by
  have hu := Tryz.underlying183
  have H0 := Aside0.mk hr0
  have H1 := Aside0.mk hp
  clear hr0 hp
  have HB := Aside0.mk (Below.refl w.heap.size w)
  go_enter Tryz.func146, Tryz.ntmps146
  go_wp2
  go_loopg [5, 8] l.length (fun gg _ v w' => ∃ i : Int, v = .int .i64 i ∧ 0 ≤ i ∧ i ≤ l.length ∧ l.length - i ≤ gg ∧ Aside0 (Below w.heap.size w w') ∧ Aside0 (∀ j : Int, 0 ≤ j → j < i → ¬ P (l.getD j.toNat z183)))
  case atStart => exact ⟨0, rfl, Int.le_refl _, by omega, by omega, HB, ⟨fun j h0 h1 => by omega⟩⟩
  case round =>
    clear HB
    obtain ⟨i, rfl, hi0, hi, hgg, HB, HA⟩ := hrel
    by_cases hlt : i < l.length
    · obtain ⟨ad, eA, hrow⟩ := at_T183 (Kd.C_below H0.out HB.out) i hi0 hlt
      subst eA
      have HC := Aside0.mk (H1.out wr (rd_T183 l i) (rdmem hi0 hlt) HB.out)
      go_wp2_with (refine HC.out.mono ?_; rintro e w2 (⟨rfl, hr, hb⟩ | ⟨rfl, hr, hb⟩) <;> (have HP := Aside0.mk hr; clear hr; have HB2 := Aside0.mk (below_step HB.out hb); clear hb))
      · go_ret
        exact ⟨i, rfl, HB2.out, .inr ⟨hi0, hlt, HP.out, HA.out⟩⟩
      · go_roundg (l.length - (i + 1)).toNat
        case measure => omega
        case rel => exact ⟨i + 1, rfl, by omega, by omega, by omega, HB2, ⟨fun j h0 h1 => by
          by_cases hj : j < i
          · exact HA.out j h0 hj
          · obtain rfl : j = i := by omega
            exact HP.out⟩⟩
    · obtain rfl : i = l.length := by omega
      go_wp2
      go_ret
      exact ⟨-1, rfl, HB.out, .inl ⟨rfl, all_of rfl HA.out⟩⟩
set_option maxHeartbeats 8000000 in
set_option maxRecDepth 100000 in
theorem containsRule (g : FuncId) (lb : Array Value) (eg : ∀ args w, (callFunc g args).run Tryz.prog w = .ok (.enter g args) w) (P : S183 → Prop) (A0 : Option Addr) (c0 : Nat) (l : List S183) (w : World) (zl : l.length ≤ 1152921504606846976)
    (hp : ∀ (W : World) (x : S183), x ∈ l → Below w.heap.size w W → Calls Tryz.prog g (#[.agg #[.int .i64 x.f0, .int .i64 x.f1.f0, .int .i64 x.f1.f1, .int .i64 x.f2.f0, .int .i64 x.f2.f1, .bool x.f3]] ++ lb) W (IsB (P x) W)) (hr0 : Kd.C k183 w A0 l.length l) :
    Calls Tryz.prog 138 #[.slice A0 l.length c0, .func (.func g) #[] lb] w (IsB (∃ x ∈ l, P x) w) := by
  have HC := indexRule g lb eg P A0 c0 l w zl hp hr0
  clear hp hr0
  have ei := enters_ Tryz.func146 (by kernel_rfl) rfl
  go_enter Tryz.func138, Tryz.ntmps138
  go_wp2_with (refine HC.mono ?_; rintro e w6 ⟨r, rfl, hb, hr⟩; have HR := Aside0.mk hr; have HB := Aside0.mk hb; clear hr hb)
  go_ret
  refine IsB.of rfl ?_ HB.out
  rcases HR.out with ⟨h1, h2⟩ | ⟨h1, h2, h3, _⟩
  · exact ⟨fun h => absurd (of_decide_eq_true h) (by omega), fun ⟨x, hx, hp⟩ => absurd hp (h2 x hx)⟩
  · exact ⟨fun _ => ⟨_, rdmem h1 h2, h3⟩, fun _ => decide_eq_true h1⟩
set_option maxHeartbeats 8000000 in
set_option maxRecDepth 100000 in
theorem indexSession (g : FuncId) (lb : Array Value) (eg : ∀ args w, (callFunc g args).run Tryz.prog w = .ok (.enter g args) w) (P : S76 → Prop) (A0 : Option Addr) (c0 : Nat) (l : List S76) (w : World) (zl : l.length ≤ 1152921504606846976)
    (hp : ∀ (W : World) (x : S76), x ∈ l → Below w.heap.size w W → Calls Tryz.prog g (#[.agg #[.int .i64 x.f0, .int .i64 x.f1, .string x.f2, .int .i64 x.f3, .int .i64 x.f4, .int .i64 x.f5, .int .i64 x.f6, .int .i64 x.f7, .int .i64 x.f8, .int .i64 x.f9]] ++ lb) W (IsB (P x) W)) (hr0 : Kd.C k76 w A0 l.length l) :
    Calls Tryz.prog 112 #[.slice A0 l.length c0, .func (.func g) #[] lb] w (IsI P l z76 w) := by
  have hu := Tryz.underlying76
  have H0 := Aside0.mk hr0
  have H1 := Aside0.mk hp
  clear hr0 hp
  have HB := Aside0.mk (Below.refl w.heap.size w)
  go_enter Tryz.func112, Tryz.ntmps112
  go_wp2
  go_loopg [5, 8] l.length (fun gg _ v w' => ∃ i : Int, v = .int .i64 i ∧ 0 ≤ i ∧ i ≤ l.length ∧ l.length - i ≤ gg ∧ Aside0 (Below w.heap.size w w') ∧ Aside0 (∀ j : Int, 0 ≤ j → j < i → ¬ P (l.getD j.toNat z76)))
  case atStart => exact ⟨0, rfl, Int.le_refl _, by omega, by omega, HB, ⟨fun j h0 h1 => by omega⟩⟩
  case round =>
    clear HB
    obtain ⟨i, rfl, hi0, hi, hgg, HB, HA⟩ := hrel
    by_cases hlt : i < l.length
    · obtain ⟨ad, eA, hrow⟩ := at_T76 (Kd.C_below H0.out HB.out) i hi0 hlt
      subst eA
      have HC := Aside0.mk (H1.out wr (rd_T76 l i) (rdmem hi0 hlt) HB.out)
      go_wp2_with (refine HC.out.mono ?_; rintro e w2 (⟨rfl, hr, hb⟩ | ⟨rfl, hr, hb⟩) <;> (have HP := Aside0.mk hr; clear hr; have HB2 := Aside0.mk (below_step HB.out hb); clear hb))
      · go_ret
        exact ⟨i, rfl, HB2.out, .inr ⟨hi0, hlt, HP.out, HA.out⟩⟩
      · go_roundg (l.length - (i + 1)).toNat
        case measure => omega
        case rel => exact ⟨i + 1, rfl, by omega, by omega, by omega, HB2, ⟨fun j h0 h1 => by
          by_cases hj : j < i
          · exact HA.out j h0 hj
          · obtain rfl : j = i := by omega
            exact HP.out⟩⟩
    · obtain rfl : i = l.length := by omega
      go_wp2
      go_ret
      exact ⟨-1, rfl, HB.out, .inl ⟨rfl, all_of rfl HA.out⟩⟩
set_option maxHeartbeats 8000000 in
set_option maxRecDepth 100000 in
theorem containsSession (g : FuncId) (lb : Array Value) (eg : ∀ args w, (callFunc g args).run Tryz.prog w = .ok (.enter g args) w) (P : S76 → Prop) (A0 : Option Addr) (c0 : Nat) (l : List S76) (w : World) (zl : l.length ≤ 1152921504606846976)
    (hp : ∀ (W : World) (x : S76), x ∈ l → Below w.heap.size w W → Calls Tryz.prog g (#[.agg #[.int .i64 x.f0, .int .i64 x.f1, .string x.f2, .int .i64 x.f3, .int .i64 x.f4, .int .i64 x.f5, .int .i64 x.f6, .int .i64 x.f7, .int .i64 x.f8, .int .i64 x.f9]] ++ lb) W (IsB (P x) W)) (hr0 : Kd.C k76 w A0 l.length l) :
    Calls Tryz.prog 49 #[.slice A0 l.length c0, .func (.func g) #[] lb] w (IsB (∃ x ∈ l, P x) w) := by
  have HC := indexSession g lb eg P A0 c0 l w zl hp hr0
  clear hp hr0
  have ei := enters_ Tryz.func112 (by kernel_rfl) rfl
  go_enter Tryz.func49, Tryz.ntmps49
  go_wp2_with (refine HC.mono ?_; rintro e w6 ⟨r, rfl, hb, hr⟩; have HR := Aside0.mk hr; have HB := Aside0.mk hb; clear hr hb)
  go_ret
  refine IsB.of rfl ?_ HB.out
  rcases HR.out with ⟨h1, h2⟩ | ⟨h1, h2, h3, _⟩
  · exact ⟨fun h => absurd (of_decide_eq_true h) (by omega), fun ⟨x, hx, hp⟩ => absurd hp (h2 x hx)⟩
  · exact ⟨fun _ => ⟨_, rdmem h1 h2, h3⟩, fun _ => decide_eq_true h1⟩
set_option maxHeartbeats 8000000 in
set_option maxRecDepth 100000 in
theorem indexRecord (g : FuncId) (lb : Array Value) (eg : ∀ args w, (callFunc g args).run Tryz.prog w = .ok (.enter g args) w) (P : S83 → Prop) (A0 : Option Addr) (c0 : Nat) (l : List S83) (w : World) (zl : l.length ≤ 1152921504606846976)
    (hp : ∀ (W : World) (x : S83), x ∈ l → Below w.heap.size w W → Calls Tryz.prog g (#[.agg #[.int .i64 x.f0, .int .i64 x.f1, .int .i64 x.f2, .int .i64 x.f3, .bool x.f4]] ++ lb) W (IsB (P x) W)) (hr0 : Kd.C k83 w A0 l.length l) :
    Calls Tryz.prog 114 #[.slice A0 l.length c0, .func (.func g) #[] lb] w (IsI P l z83 w) := by
  have hu := Tryz.underlying83
  have H0 := Aside0.mk hr0
  have H1 := Aside0.mk hp
  clear hr0 hp
  have HB := Aside0.mk (Below.refl w.heap.size w)
  go_enter Tryz.func114, Tryz.ntmps114
  go_wp2
  go_loopg [5, 8] l.length (fun gg _ v w' => ∃ i : Int, v = .int .i64 i ∧ 0 ≤ i ∧ i ≤ l.length ∧ l.length - i ≤ gg ∧ Aside0 (Below w.heap.size w w') ∧ Aside0 (∀ j : Int, 0 ≤ j → j < i → ¬ P (l.getD j.toNat z83)))
  case atStart => exact ⟨0, rfl, Int.le_refl _, by omega, by omega, HB, ⟨fun j h0 h1 => by omega⟩⟩
  case round =>
    clear HB
    obtain ⟨i, rfl, hi0, hi, hgg, HB, HA⟩ := hrel
    by_cases hlt : i < l.length
    · obtain ⟨ad, eA, hrow⟩ := at_T83 (Kd.C_below H0.out HB.out) i hi0 hlt
      subst eA
      have HC := Aside0.mk (H1.out wr (rd_T83 l i) (rdmem hi0 hlt) HB.out)
      go_wp2_with (refine HC.out.mono ?_; rintro e w2 (⟨rfl, hr, hb⟩ | ⟨rfl, hr, hb⟩) <;> (have HP := Aside0.mk hr; clear hr; have HB2 := Aside0.mk (below_step HB.out hb); clear hb))
      · go_ret
        exact ⟨i, rfl, HB2.out, .inr ⟨hi0, hlt, HP.out, HA.out⟩⟩
      · go_roundg (l.length - (i + 1)).toNat
        case measure => omega
        case rel => exact ⟨i + 1, rfl, by omega, by omega, by omega, HB2, ⟨fun j h0 h1 => by
          by_cases hj : j < i
          · exact HA.out j h0 hj
          · obtain rfl : j = i := by omega
            exact HP.out⟩⟩
    · obtain rfl : i = l.length := by omega
      go_wp2
      go_ret
      exact ⟨-1, rfl, HB.out, .inl ⟨rfl, all_of rfl HA.out⟩⟩
set_option maxHeartbeats 8000000 in
set_option maxRecDepth 100000 in
theorem containsRecord (g : FuncId) (lb : Array Value) (eg : ∀ args w, (callFunc g args).run Tryz.prog w = .ok (.enter g args) w) (P : S83 → Prop) (A0 : Option Addr) (c0 : Nat) (l : List S83) (w : World) (zl : l.length ≤ 1152921504606846976)
    (hp : ∀ (W : World) (x : S83), x ∈ l → Below w.heap.size w W → Calls Tryz.prog g (#[.agg #[.int .i64 x.f0, .int .i64 x.f1, .int .i64 x.f2, .int .i64 x.f3, .bool x.f4]] ++ lb) W (IsB (P x) W)) (hr0 : Kd.C k83 w A0 l.length l) :
    Calls Tryz.prog 53 #[.slice A0 l.length c0, .func (.func g) #[] lb] w (IsB (∃ x ∈ l, P x) w) := by
  have HC := indexRecord g lb eg P A0 c0 l w zl hp hr0
  clear hp hr0
  have ei := enters_ Tryz.func114 (by kernel_rfl) rfl
  go_enter Tryz.func53, Tryz.ntmps53
  go_wp2_with (refine HC.mono ?_; rintro e w6 ⟨r, rfl, hb, hr⟩; have HR := Aside0.mk hr; have HB := Aside0.mk hb; clear hr hb)
  go_ret
  refine IsB.of rfl ?_ HB.out
  rcases HR.out with ⟨h1, h2⟩ | ⟨h1, h2, h3, _⟩
  · exact ⟨fun h => absurd (of_decide_eq_true h) (by omega), fun ⟨x, hx, hp⟩ => absurd hp (h2 x hx)⟩
  · exact ⟨fun _ => ⟨_, rdmem h1 h2, h3⟩, fun _ => decide_eq_true h1⟩
set_option maxHeartbeats 8000000 in
set_option maxRecDepth 100000 in
theorem iInY (a b c : Int) (w : World) (h1 : b ≤ a) (h2 : a ≤ c) : Calls Tryz.prog 47 #[.int .i64 a, .int .i64 b, .int .i64 c] w fun e w' => e = .returned (.bool true) ∧ w' = w := by
  have b1 : decide (b ≤ a) = true := decide_eq_true h1
  go_enter Tryz.func47, Tryz.ntmps47
  go_wp2
  go_ret
  exact ⟨by simp [h2], rfl⟩
set_option maxHeartbeats 8000000 in
set_option maxRecDepth 100000 in
theorem iInN (a b c : Int) (w : World) (h : ¬ (b ≤ a ∧ a ≤ c)) : Calls Tryz.prog 47 #[.int .i64 a, .int .i64 b, .int .i64 c] w fun e w' => e = .returned (.bool false) ∧ w' = w := by
  rcases dec_em (b ≤ a) with ⟨k1, b1⟩ | ⟨k1, b1⟩
  · have b2 : decide (a ≤ c) = false := decide_eq_false (by omega)
    have b3 : ¬ a ≤ c := by omega
    clear h
    go_enter Tryz.func47, Tryz.ntmps47
    go_wp2
    go_ret
    exact ⟨by simp [b3], rfl⟩
  · clear h
    go_enter Tryz.func47, Tryz.ntmps47
    go_wp2
    go_ret
    exact ⟨rfl, rfl⟩
theorem IsB.ofQ {P : Prop} {f : FuncId} {args : Array Value} {w : World} (hy : P → Calls Tryz.prog f args w fun e w' => e = .returned (.bool true) ∧ w' = w) (hn : ¬ P → Calls Tryz.prog f args w fun e w' => e = .returned (.bool false) ∧ w' = w) : Calls Tryz.prog f args w (IsB P w) := by
  rcases Classical.em P with k | k
  · exact (hy k).mono fun e w' h => .inl ⟨h.1, k, by rw [h.2]; exact Below.refl _ _⟩
  · exact (hn k).mono fun e w' h => .inr ⟨h.1, k, by rw [h.2]; exact Below.refl _ _⟩
theorem iIn1 (a b c : Int) (w : World) : Calls Tryz.prog 47 #[.int .i64 a, .int .i64 b, .int .i64 c] w (IsB (b ≤ a ∧ a ≤ c) w) := IsB.ofQ (fun h => iInY _ _ _ _ h.1 h.2) (fun h => iInN _ _ _ _ h)
set_option maxHeartbeats 8000000 in
set_option maxRecDepth 100000 in
theorem iIpY (a : Int) (w : World) (h : 0 ≤ a ∧ a ≤ 4294967295) : Calls Tryz.prog 101 #[.int .i64 a] w fun e w' => e = .returned (.bool true) ∧ w' = w := by
  have H := Aside0.mk h
  clear h
  go_enter Tryz.func101, Tryz.ntmps101
  go_wp2_with (go_at_call 47; refine (iInY _ _ _ _ H.out.1 H.out.2).mono ?_; rintro e w2 ⟨rfl, rfl⟩)
  go_ret
  exact ⟨rfl, rfl⟩
set_option maxHeartbeats 8000000 in
set_option maxRecDepth 100000 in
theorem iIpN (a : Int) (w : World) (h : ¬ (0 ≤ a ∧ a ≤ 4294967295)) : Calls Tryz.prog 101 #[.int .i64 a] w fun e w' => e = .returned (.bool false) ∧ w' = w := by
  have H := Aside0.mk h
  clear h
  go_enter Tryz.func101, Tryz.ntmps101
  go_wp2_with (go_at_call 47; refine (iInN _ _ _ _ H.out).mono ?_; rintro e w2 ⟨rfl, rfl⟩)
  go_ret
  exact ⟨rfl, rfl⟩
theorem iIp1 (a : Int) (w : World) : Calls Tryz.prog 101 #[.int .i64 a] w (IsB (0 ≤ a ∧ a ≤ 4294967295) w) := IsB.ofQ (iIpY _ _) (iIpN _ _)
set_option maxHeartbeats 8000000 in
set_option maxRecDepth 100000 in
theorem iMac1 (a : ByteArray) (w : World) (z : a.size ≤ 1152921504606846976) : Calls Tryz.prog 103 #[.string a] w (IsB (a.size = 6) w) := by
  go_enter Tryz.func103, Tryz.ntmps103
  go_wp2
  go_ret
  exact IsB.of rfl (by rw [beq_iff_eq]; omega) (Below.refl _ _)
theorem iName1 (a : ByteArray) (w : World) : Calls Tryz.prog 141 #[.string a] w (IsB (NameP a) w) := (impl_NameOK.calls (a.size + 2) a (nameb a) w (impl_Name_ev a _ (Nat.le_refl _))).mono fun e w' h => IsB.of h.1 Iff.rfl (drawn_below h.2)
set_option maxHeartbeats 8000000 in
set_option maxRecDepth 100000 in
theorem iNet1 (ip b : Int) (w : World) : Calls Tryz.prog 100 #[.agg #[.int .i64 ip, .int .i64 b]] w (IsB (NetP ip b) w) := by
  have hu := Tryz.underlying37
  rcases Classical.em (0 ≤ ip ∧ ip ≤ 4294967295) with k1 | k1
  · have K1 := Aside0.mk k1
    clear k1
    rcases Classical.em (0 ≤ b ∧ b ≤ 32) with k2 | k2
    · obtain ⟨k3, k4⟩ := k2
      have hw := i64id (n := 32 - b) (by omega) (by omega)
      go_enter Tryz.func100, Tryz.ntmps100
      go_wp2
      go_quiet ((first | (go_at_call 101; exact Calls.quiet_of_same (iIpY _ _ K1.out)) | (go_at_call 47; exact Calls.quiet_of_same (iInY _ _ _ _ k3 k4))))
      go_wp2
      go_ret
      exact IsB.of rfl (by rw [beq_iff_eq]; exact ⟨fun h => ⟨K1.out, ⟨k3, k4⟩, h⟩, fun h => h.2.2⟩) (pw_below_drewN (below_alloc (Below.refl _ _) _) _)
    · have K2 := Aside0.mk k2
      clear k2
      go_enter Tryz.func100, Tryz.ntmps100
      go_wp2
      go_quiet ((first | (go_at_call 101; exact Calls.quiet_of_same (iIpY _ _ K1.out)) | (go_at_call 47; exact Calls.quiet_of_same (iInN _ _ _ _ K2.out))))
      go_wp2
      go_ret
      exact .inr ⟨rfl, fun h => K2.out h.2.1, pw_below_drewN (below_alloc (Below.refl _ _) _) _⟩
  · have K1 := Aside0.mk k1
    clear k1
    go_enter Tryz.func100, Tryz.ntmps100
    go_wp2
    go_quiet ((first | (go_at_call 101; exact Calls.quiet_of_same (iIpN _ _ K1.out))))
    go_wp2
    go_ret
    exact .inr ⟨rfl, fun h => K1.out h.1, pw_below_drewN (below_alloc (Below.refl _ _) _) _⟩
set_option maxHeartbeats 8000000 in
set_option maxRecDepth 100000 in
theorem iHas1 (ip b a : Int) (w : World) (k0 : 0 ≤ b) (k1 : b ≤ 32) : Calls Tryz.prog 102 #[.agg #[.int .i64 ip, .int .i64 b], .int .i64 a] w (IsB (HasP ip b a) w) := by
  have hu := Tryz.underlying37
  have hw := i64id (n := 32 - b) (by omega) (by omega)
  go_enter Tryz.func102, Tryz.ntmps102
  go_wp2
  go_quiet (fail)
  go_wp2
  go_ret
  exact IsB.of rfl (by rw [beq_iff_eq]; exact Iff.rfl) (pw_below_drewN (below_alloc (Below.refl _ _) _) _)
set_option maxHeartbeats 8000000 in
set_option maxRecDepth 100000 in
theorem iRange1 (a b : Int) (w : World) : Calls Tryz.prog 106 #[.agg #[.int .i64 a, .int .i64 b]] w (IsB (RangeP a b) w) := by
  have hu := Tryz.underlying138
  have HB := Aside0.mk (Below.refl w.heap.size w)
  have HP := Aside0.mk True.intro
  go_enter Tryz.func106, Tryz.ntmps106
  go_wp2_with (first
    | (go_at_call 47; refine (iIn1 _ _ _ _).mono ?_; rintro e w2 (⟨rfl, hr, hb⟩ | ⟨rfl, hr, hb⟩) <;> (have n_ := Aside0.mk (And.intro hr HP.out); clear HP hr; have HP := n_; clear n_; have n_ := Aside0.mk (below_step (w := w) (by repeat' (with_reducible first | exact HB.out | apply below_alloc | apply below_drew1 | refine below_set ?_ (by omega))) hb); clear HB; have HB := n_; clear n_; have n_ := Aside0.mk (blk_below (g := w.heap.size) (o := .cells #[.int .i64 a, .int .i64 b] 138 (0, 0)) (by repeat' (with_reducible first | exact HX.out | exact blk_new _ _ | refine blk_alloc ?_ _ | refine blk_drew ?_ | refine blk_far ?_ (by dsimp only; omega) _)) hb); (try clear HX); have HX := n_; clear n_; obtain ⟨hc, hf⟩ := bcell hb; have hz : w.heap.size < w2.heap.size := blk_lt HX.out; clear hb)))
  all_goals go_ret
  · have h1 := HP.out.1
    refine IsB.of rfl ?_ HB.out
    unfold RangeP
    simp only [decide_eq_true_eq]
    omega
  · exact .inr ⟨rfl, fun h => HP.out.1 (by unfold RangeP at h; omega), HB.out⟩
theorem contains4b (k : Nat) (p : Int) : slices_Contains_int_int.f (k + 5) [0, 1, 6, 17] p = some (decide (p = 0 ∨ p = 1 ∨ p = 6 ∨ p = 17)) := by
  have w1 : wrap64 (0 + 1) = 1 := by rw [wrap_id (by omega) (by omega)]; rfl
  have w2 : wrap64 (1 + 1) = 2 := by rw [wrap_id (by omega) (by omega)]; rfl
  have w3 : wrap64 (2 + 1) = 3 := by rw [wrap_id (by omega) (by omega)]; rfl
  have w4 : wrap64 (3 + 1) = 4 := by rw [wrap_id (by omega) (by omega)]; rfl
  have r0 : rd [0, 1, 6, 17] 0 = 0 := by decide
  have r1 : rd [0, 1, 6, 17] 1 = 1 := by decide
  have r2 : rd [0, 1, 6, 17] 2 = 6 := by decide
  have r3 : rd [0, 1, 6, 17] 3 = 17 := by decide
  have l : ((([0, 1, 6, 17] : List Int).length : Nat) : Int) = 4 := by decide
  simp only [slices_Contains_int_int.f, slices_Index_int_int.f, slices_Index_int_int.l0, l, w1, w2, w3, w4, r0, r1, r2, r3]
  by_cases h0 : p = 0
  · simp [h0]
  by_cases h1 : p = 1
  · simp [h1]
  by_cases h2 : p = 6
  · simp [h2]
  by_cases h3 : p = 17
  · simp [h3]
  simp [h0, h1, h2, h3]
theorem iProto1 (p : Int) (w : World) (g : Nat) (h : w.heap[g]? = some (.cells #[.int .i64 0, .int .i64 1, .int .i64 6, .int .i64 17] 3 (0, 0))) : Calls Tryz.prog 147 #[.slice (some ⟨g, 0, none⟩) 4 4, .int .i64 p] w (IsB (p = 0 ∨ p = 1 ∨ p = 6 ∨ p = 17) w) := by
  refine (slices_Contains_int_int.calls 5 (some ⟨g, 0, none⟩) 4 [0, 1, 6, 17] p _ w ⟨rfl, by decide, fun _ => ⟨_, rfl, fun j q hq => ⟨[.int .i64 q], rfl, rfl, fun i u hu => ?_⟩⟩⟩ (by decide) (contains4b 0 p)).mono fun e w' h => IsB.of h.1 (by rw [decide_eq_true_eq]) (drawn_below h.2)
  have hi : i = 0 := by
    have := (List.getElem?_eq_some_iff.1 hu).1
    simp at this
    exact this
  subst hi
  have hu' : Value.int .i64 q = u := by simpa using hu
  subst hu'
  rw [show (Kd.int .i64).sz = 1 from rfl, Nat.add_zero, Nat.mul_one]
  rw [add_plain, blk_cell h]
  match j, hq with
  | 0, hq => cases hq; rfl
  | 1, hq => cases hq; rfl
  | 2, hq => cases hq; rfl
  | 3, hq => cases hq; rfl
  | j + 4, hq => simp at hq
theorem blk_new1 (w : World) (a b : Obj) : ((w.alloc a).alloc b).heap[w.heap.size + 1]? = some b := by
  have h := blk_new (w.alloc a) b
  rwa [show (w.alloc a).heap.size = w.heap.size + 1 from Array.size_push ..] at h
set_option maxHeartbeats 8000000 in
set_option maxRecDepth 100000 in
theorem iRule1 (x : S183) (w : World) : Calls Tryz.prog 140 #[.agg #[.int .i64 x.f0, .int .i64 x.f1.f0, .int .i64 x.f1.f1, .int .i64 x.f2.f0, .int .i64 x.f2.f1, .bool x.f3]] w (IsB (RuleP x) w) := by
  have hu := Tryz.underlying183
  have HB := Aside0.mk (Below.refl w.heap.size w)
  have HP := Aside0.mk True.intro
  go_enter Tryz.func140, Tryz.ntmps140
  go_wp2_with (first
    | (go_at_call 147; refine (iProto1 _ _ _ (blk_new1 _ _ _)).mono ?_; rintro e w2 (⟨rfl, hr, hb⟩ | ⟨rfl, hr, hb⟩) <;> (have n_ := Aside0.mk (And.intro hr HP.out); clear HP hr; have HP := n_; clear n_; have n_ := Aside0.mk (below_step (w := w) (by repeat' (with_reducible first | exact HB.out | apply below_alloc | apply below_drew1 | refine below_set ?_ (by omega))) hb); clear HB; have HB := n_; clear n_; have n_ := Aside0.mk (blk_below (g := w.heap.size) (o := .cells #[.int .i64 x.f0, .int .i64 x.f1.f0, .int .i64 x.f1.f1, .int .i64 x.f2.f0, .int .i64 x.f2.f1, .bool x.f3] 183 (0, 0)) (by repeat' (with_reducible first | exact HX.out | exact blk_new _ _ | refine blk_alloc ?_ _ | refine blk_drew ?_ | refine blk_far ?_ (by dsimp only; omega) _)) hb); (try clear HX); have HX := n_; clear n_; obtain ⟨hc, hf⟩ := bcell hb; have hz : w.heap.size < w2.heap.size := blk_lt HX.out; clear hb))
    | (go_at_call 100; refine (iNet1 _ _ _).mono ?_; rintro e w2 (⟨rfl, hr, hb⟩ | ⟨rfl, hr, hb⟩) <;> (have n_ := Aside0.mk (And.intro hr HP.out); clear HP hr; have HP := n_; clear n_; have n_ := Aside0.mk (below_step (w := w) (by repeat' (with_reducible first | exact HB.out | apply below_alloc | apply below_drew1 | refine below_set ?_ (by omega))) hb); clear HB; have HB := n_; clear n_; have n_ := Aside0.mk (blk_below (g := w.heap.size) (o := .cells #[.int .i64 x.f0, .int .i64 x.f1.f0, .int .i64 x.f1.f1, .int .i64 x.f2.f0, .int .i64 x.f2.f1, .bool x.f3] 183 (0, 0)) (by repeat' (with_reducible first | exact HX.out | exact blk_new _ _ | refine blk_alloc ?_ _ | refine blk_drew ?_ | refine blk_far ?_ (by dsimp only; omega) _)) hb); (try clear HX); have HX := n_; clear n_; obtain ⟨hc, hf⟩ := bcell hb; have hz : w.heap.size < w2.heap.size := blk_lt HX.out; clear hb))
    | (go_at_call 106; refine (iRange1 _ _ _).mono ?_; rintro e w2 (⟨rfl, hr, hb⟩ | ⟨rfl, hr, hb⟩) <;> (have n_ := Aside0.mk (And.intro hr HP.out); clear HP hr; have HP := n_; clear n_; have n_ := Aside0.mk (below_step (w := w) (by repeat' (with_reducible first | exact HB.out | apply below_alloc | apply below_drew1 | refine below_set ?_ (by omega))) hb); clear HB; have HB := n_; clear n_; have n_ := Aside0.mk (blk_below (g := w.heap.size) (o := .cells #[.int .i64 x.f0, .int .i64 x.f1.f0, .int .i64 x.f1.f1, .int .i64 x.f2.f0, .int .i64 x.f2.f1, .bool x.f3] 183 (0, 0)) (by repeat' (with_reducible first | exact HX.out | exact blk_new _ _ | refine blk_alloc ?_ _ | refine blk_drew ?_ | refine blk_far ?_ (by dsimp only; omega) _)) hb); (try clear HX); have HX := n_; clear n_; obtain ⟨hc, hf⟩ := bcell hb; have hz : w.heap.size < w2.heap.size := blk_lt HX.out; clear hb)))
  all_goals go_ret
  all_goals first
    | exact .inl ⟨rfl, ⟨HP.out.2.2.1, HP.out.2.1, HP.out.1⟩, HB.out⟩
    | exact .inr ⟨rfl, fun h => HP.out.1 h.2.2, HB.out⟩
    | exact .inr ⟨rfl, fun h => HP.out.1 h.2.1, HB.out⟩
    | exact .inr ⟨rfl, fun h => HP.out.1 h.1, HB.out⟩
set_option maxHeartbeats 8000000 in
set_option maxRecDepth 100000 in
theorem iShort1 (a : ByteArray) (w : World) (z : a.size ≤ 1152921504606846976) : Calls Tryz.prog 108 #[.string a] w (IsB (NameP a ∧ a.size ≤ 8) w) := by
  have HB := Aside0.mk (Below.refl w.heap.size w)
  have HP := Aside0.mk True.intro
  go_enter Tryz.func108, Tryz.ntmps108
  go_wp2_with (first
    | (go_at_call 141; refine (iName1 _ _).mono ?_; rintro e w2 (⟨rfl, hr, hb⟩ | ⟨rfl, hr, hb⟩) <;> (have n_ := Aside0.mk (And.intro hr HP.out); clear HP hr; have HP := n_; clear n_; have n_ := Aside0.mk (below_step (w := w) (by repeat' (with_reducible first | exact HB.out | apply below_alloc | apply below_drew1 | refine below_set ?_ (by omega))) hb); clear HB; have HB := n_; clear n_; clear hb)))
  · go_ret
    refine IsB.of rfl ?_ HB.out
    have h1 := HP.out.1
    simp only [decide_eq_true_eq]
    exact ⟨fun h => ⟨h1, by omega⟩, fun h => by omega⟩
  · go_ret
    exact .inr ⟨rfl, fun h => HP.out.1 h.1, HB.out⟩
set_option maxHeartbeats 8000000 in
set_option maxRecDepth 100000 in
theorem iRuleN (x : S183) (w : World) : Calls Tryz.prog 139 #[.agg #[.int .i64 x.f0, .int .i64 x.f1.f0, .int .i64 x.f1.f1, .int .i64 x.f2.f0, .int .i64 x.f2.f1, .bool x.f3]] w (IsB (¬ RuleP x) w) := by
  have hu := Tryz.underlying183
  have HB := Aside0.mk (Below.refl w.heap.size w)
  have HP := Aside0.mk True.intro
  go_enter Tryz.func139, Tryz.ntmps139
  go_wp2_with (first
    | (go_at_call 140; refine (iRule1 x _).mono ?_; rintro e w2 (⟨rfl, hr, hb⟩ | ⟨rfl, hr, hb⟩) <;> (have n_ := Aside0.mk (And.intro hr HP.out); clear HP hr; have HP := n_; clear n_; have n_ := Aside0.mk (below_step (w := w) (by repeat' (with_reducible first | exact HB.out | apply below_alloc | apply below_drew1 | refine below_set ?_ (by omega))) hb); clear HB; have HB := n_; clear n_; have n_ := Aside0.mk (blk_below (g := w.heap.size) (o := .cells #[.int .i64 x.f0, .int .i64 x.f1.f0, .int .i64 x.f1.f1, .int .i64 x.f2.f0, .int .i64 x.f2.f1, .bool x.f3] 183 (0, 0)) (by repeat' (with_reducible first | exact HX.out | exact blk_new _ _ | refine blk_alloc ?_ _ | refine blk_drew ?_ | refine blk_far ?_ (by dsimp only; omega) _)) hb); (try clear HX); have HX := n_; clear n_; obtain ⟨hc, hf⟩ := bcell hb; have hz : w.heap.size < w2.heap.size := blk_lt HX.out; clear hb)))
  · go_ret
    exact .inr ⟨rfl, fun h => h HP.out.1, HB.out⟩
  · go_ret
    exact .inl ⟨rfl, HP.out.1, HB.out⟩
set_option maxHeartbeats 8000000 in
set_option maxRecDepth 100000 in
theorem iPlaceN (x : S140) (w : World) : Calls Tryz.prog 105 #[.agg #[.int .i64 x.f0.f0, .int .i64 x.f0.f1, .int .i64 x.f1.f0, .int .i64 x.f1.f1]] w (IsB (¬ PlaceP x) w) := by
  have hu := Tryz.underlying140
  have HB := Aside0.mk (Below.refl w.heap.size w)
  have HP := Aside0.mk True.intro
  go_enter Tryz.func105, Tryz.ntmps105
  go_wp2_with (first
    | (go_at_call 100; refine (iNet1 _ _ _).mono ?_; rintro e w2 (⟨rfl, hr, hb⟩ | ⟨rfl, hr, hb⟩) <;> (have n_ := Aside0.mk (And.intro hr HP.out); clear HP hr; have HP := n_; clear n_; have n_ := Aside0.mk (below_step (w := w) (by repeat' (with_reducible first | exact HB.out | apply below_alloc | apply below_drew1 | refine below_set ?_ (by omega))) hb); clear HB; have HB := n_; clear n_; have n_ := Aside0.mk (blk_below (g := w.heap.size) (o := .cells #[.int .i64 x.f0.f0, .int .i64 x.f0.f1, .int .i64 x.f1.f0, .int .i64 x.f1.f1] 140 (0, 0)) (by repeat' (with_reducible first | exact HX.out | exact blk_new _ _ | refine blk_alloc ?_ _ | refine blk_drew ?_ | refine blk_far ?_ (by dsimp only; omega) _)) hb); (try clear HX); have HX := n_; clear n_; obtain ⟨hc, hf⟩ := bcell hb; have hz : w.heap.size < w2.heap.size := blk_lt HX.out; clear hb))
    | (go_at_call 106; refine (iRange1 _ _ _).mono ?_; rintro e w2 (⟨rfl, hr, hb⟩ | ⟨rfl, hr, hb⟩) <;> (have n_ := Aside0.mk (And.intro hr HP.out); clear HP hr; have HP := n_; clear n_; have n_ := Aside0.mk (below_step (w := w) (by repeat' (with_reducible first | exact HB.out | apply below_alloc | apply below_drew1 | refine below_set ?_ (by omega))) hb); clear HB; have HB := n_; clear n_; have n_ := Aside0.mk (blk_below (g := w.heap.size) (o := .cells #[.int .i64 x.f0.f0, .int .i64 x.f0.f1, .int .i64 x.f1.f0, .int .i64 x.f1.f1] 140 (0, 0)) (by repeat' (with_reducible first | exact HX.out | exact blk_new _ _ | refine blk_alloc ?_ _ | refine blk_drew ?_ | refine blk_far ?_ (by dsimp only; omega) _)) hb); (try clear HX); have HX := n_; clear n_; obtain ⟨hc, hf⟩ := bcell hb; have hz : w.heap.size < w2.heap.size := blk_lt HX.out; clear hb)))
  all_goals go_ret
  all_goals first
    | exact .inr ⟨rfl, fun h => h ⟨HP.out.2.1, HP.out.1⟩, HB.out⟩
    | exact .inl ⟨rfl, fun h => HP.out.1 h.2, HB.out⟩
    | exact .inl ⟨rfl, fun h => HP.out.1 h.1, HB.out⟩
set_option maxHeartbeats 8000000 in
set_option maxRecDepth 100000 in
theorem iRole1 (x0 : ByteArray) (A1 : Option Addr) (c1 : Nat) (l : List S183) (q m z : Int) (w : World) (h : Kd.C k183 w A1 l.length l) (zl : l.length ≤ 1152921504606846976) (z0 : x0.size ≤ 1152921504606846976) : Calls Tryz.prog 107 #[.agg #[.string x0, .slice A1 l.length c1, .int .i64 q, .int .i64 m, .int .i64 z]] w (IsB (RoleP ⟨x0, l, q, m, z⟩) w) := by
  have hu := Tryz.underlying145
  have H0 := Aside0.mk h
  clear h
  have eg := enters_ Tryz.func139 (by kernel_rfl) rfl
  have HB := Aside0.mk (Below.refl w.heap.size w)
  have HP := Aside0.mk True.intro
  rcases dec_em (8 < (l.length : Int)) with ⟨k2, b2⟩ | ⟨k2, b2⟩
  all_goals go_enter Tryz.func107, Tryz.ntmps107
  all_goals go_wp2_with (first
   | (go_at_call 108; refine (iShort1 _ _ z0).mono ?_; rintro e w2 (⟨rfl, hr, hb⟩ | ⟨rfl, hr, hb⟩) <;> (have n_ := Aside0.mk (And.intro hr HP.out); clear HP hr; have HP := n_; clear n_; have n_ := Aside0.mk (below_step (w := w) (by repeat' (with_reducible first | exact HB.out | apply below_alloc | apply below_drew1 | refine below_set ?_ (by omega))) hb); clear HB; have HB := n_; clear n_; have n_ := Aside0.mk (blk_below (g := w.heap.size) (o := .cells #[.string x0, .slice A1 l.length c1, .int .i64 q, .int .i64 m, .int .i64 z] 145 (0, 0)) (by repeat' (with_reducible first | exact HX.out | exact blk_new _ _ | refine blk_alloc ?_ _ | refine blk_drew ?_ | refine blk_far ?_ (by dsimp only; omega) _)) hb); (try clear HX); have HX := n_; clear n_; obtain ⟨hc, hf⟩ := bcell hb; have hz : w.heap.size < w2.heap.size := blk_lt HX.out; clear hb))
   | (go_at_call 47; refine (iIn1 _ _ _ _).mono ?_; rintro e w2 (⟨rfl, hr, hb⟩ | ⟨rfl, hr, hb⟩) <;> (have n_ := Aside0.mk (And.intro hr HP.out); clear HP hr; have HP := n_; clear n_; have n_ := Aside0.mk (below_step (w := w) (by repeat' (with_reducible first | exact HB.out | apply below_alloc | apply below_drew1 | refine below_set ?_ (by omega))) hb); clear HB; have HB := n_; clear n_; have n_ := Aside0.mk (blk_below (g := w.heap.size) (o := .cells #[.string x0, .slice A1 l.length c1, .int .i64 q, .int .i64 m, .int .i64 z] 145 (0, 0)) (by repeat' (with_reducible first | exact HX.out | exact blk_new _ _ | refine blk_alloc ?_ _ | refine blk_drew ?_ | refine blk_far ?_ (by dsimp only; omega) _)) hb); (try clear HX); have HX := n_; clear n_; obtain ⟨hc, hf⟩ := bcell hb; have hz : w.heap.size < w2.heap.size := blk_lt HX.out; clear hb))
   | (go_at_call 138; refine (containsRule 139 #[] eg (fun r => ¬ RuleP r) A1 c1 l _ zl (fun W x _ _ => iRuleN x W) (Kd.C_below H0.out (by repeat' (with_reducible first | exact HB.out | apply below_alloc | apply below_drew1 | refine below_set ?_ (by omega))))).mono ?_; rintro e w2 (⟨rfl, hr, hb⟩ | ⟨rfl, hr, hb⟩) <;> (have n_ := Aside0.mk (And.intro hr HP.out); clear HP hr; have HP := n_; clear n_; have n_ := Aside0.mk (below_step (w := w) (by repeat' (with_reducible first | exact HB.out | apply below_alloc | apply below_drew1 | refine below_set ?_ (by omega))) hb); clear HB; have HB := n_; clear n_; have n_ := Aside0.mk (blk_below (g := w.heap.size) (o := .cells #[.string x0, .slice A1 l.length c1, .int .i64 q, .int .i64 m, .int .i64 z] 145 (0, 0)) (by repeat' (with_reducible first | exact HX.out | exact blk_new _ _ | refine blk_alloc ?_ _ | refine blk_drew ?_ | refine blk_far ?_ (by dsimp only; omega) _)) hb); (try clear HX); have HX := n_; clear n_; obtain ⟨hc, hf⟩ := bcell hb; have hz : w.heap.size < w2.heap.size := blk_lt HX.out; clear hb)))
  all_goals go_ret
  all_goals first
    | exact .inl ⟨rfl, ⟨HP.out.2.2.2.2.1.1, HP.out.2.2.2.2.1.2, by dsimp only; omega, HP.out.2.2.1, HP.out.2.1, HP.out.1, fun r hr => Classical.byContradiction fun hn => HP.out.2.2.2.1 ⟨r, hr, hn⟩⟩, HB.out⟩
    | exact .inr ⟨rfl, by rintro ⟨p1, p2, p3, p4, p5, p6, p7⟩; dsimp only at *; first | exact HP.out.1 ⟨p1, p2⟩ | exact HP.out.1 p4 | exact HP.out.1 p5 | exact HP.out.1 p6 | omega | (obtain ⟨r, hr, hn⟩ := HP.out.1; exact hn (p7 r hr)), HB.out⟩
end
section
-- NEEDS laws.eqConfig
attribute [local go_sem] str_geq str_lss
theorem beq_emS (a b : ByteArray) : ((a.toList == b.toList) = true ∧ Aside0 (a.toList = b.toList)) ∨ ((a.toList == b.toList) = false ∧ Aside0 (a.toList ≠ b.toList)) := by
  by_cases h : a.toList = b.toList
  · exact .inl ⟨beq_iff_eq.2 h, ⟨h⟩⟩
  · exact .inr ⟨beq_eq_false_iff_ne.2 h, ⟨h⟩⟩
def HasRole (l : List S145) (nm : ByteArray) (x : S145) : Prop := x.f0.toList = nm.toList
def UserP (l : List S145) (u : S92) : Prop := (NameP u.f0 ∧ u.f0.size ≤ 8) ∧ u.f1.size ≤ 40 ∧ u.f2.size = 32 ∧ (∃ r ∈ l, HasRole l u.f3 r) ∧ (0 ≤ u.f4 ∧ u.f4 ≤ 1000000) ∧ (0 ≤ u.f5 ∧ u.f5 ≤ 1000)
def UpP (us : List S92) (i : Int) : Prop := 0 < i → Op.bytesLess (rd_T92 us (i - 1)).f0.toList (rd_T92 us i).f0.toList = true
def UsersP (l : List S145) (us : List S92) : Prop := us.length ≤ 6 ∧ (∀ x ∈ us, UserP l x) ∧ (∀ i : Int, 0 ≤ i → i < us.length → UpP us i)
set_option maxHeartbeats 8000000 in
set_option maxRecDepth 100000 in
theorem sName8 (a : ByteArray) (w : World) (z : a.size ≤ 1152921504606846976) : Calls Tryz.prog 92 #[.string a] w (IsB (NameP a ∧ a.size ≤ 8) w) := by
  have HB := Aside0.mk (Below.refl w.heap.size w)
  have HP := Aside0.mk True.intro
  go_enter Tryz.func92, Tryz.ntmps92
  go_wp2_with (first
    | (go_at_call 133; refine (sName1 _ _).mono ?_; rintro e w2 (⟨rfl, hr, hb⟩ | ⟨rfl, hr, hb⟩) <;> (have n_ := Aside0.mk (And.intro hr HP.out); clear HP hr; have HP := n_; clear n_; have n_ := Aside0.mk (below_step (w := w) (by repeat' (with_reducible first | exact HB.out | apply below_alloc | apply below_drew1 | refine below_set ?_ (by omega))) hb); clear HB; have HB := n_; clear n_; clear hb)))
  · go_ret
    refine IsB.of rfl ?_ HB.out
    have h1 := HP.out.1
    simp only [decide_eq_true_eq]
    exact ⟨fun h => ⟨h1, by omega⟩, fun h => by omega⟩
  · go_ret
    exact .inr ⟨rfl, fun h => HP.out.1 h.1, HB.out⟩
set_option maxHeartbeats 8000000 in
set_option maxRecDepth 100000 in
theorem sRoleIx (ip b gate : Int) (gm wm : ByteArray) (res : Int) (A6 : Option Addr) (c6 : Nat) (g : List S140) (A7 : Option Addr) (c7 : Nat) (l : List S145) (nm : ByteArray) (w : World) (hl : Kd.C k145 w A7 l.length l) (zl : l.length ≤ 1152921504606846976) : Calls Tryz.prog 93 #[.agg #[.int .i64 ip, .int .i64 b, .int .i64 gate, .string gm, .string wm, .int .i64 res, .slice A6 g.length c6, .slice A7 l.length c7], .string nm] w (IsI (HasRole l nm) l z145 w) := by
  have hu := Tryz.underlying41
  have H0 := Aside0.mk hl
  clear hl
  go_enter Tryz.func93, Tryz.ntmps93
  go_wp2
  go_loopg [5] l.length (fun gg v w' => ∃ i : Int, v = .int .i64 i ∧ 0 ≤ i ∧ i ≤ l.length ∧ l.length - i ≤ gg ∧ Aside0 (Below w.heap.size w w') ∧ Aside0 (w'.heap[w.heap.size]? = some (.cells #[.int .i64 ip, .int .i64 b, .int .i64 gate, .string gm, .string wm, .int .i64 res, .slice A6 g.length c6, .slice A7 l.length c7] 41 (0, 0))) ∧ Aside0 (∀ j : Int, 0 ≤ j → j < i → ¬ HasRole l nm (l.getD j.toNat z145)))
  case atStart => exact ⟨0, rfl, Int.le_refl _, by omega, by omega, ⟨below_alloc (Below.refl _ _) _⟩, ⟨blk_new _ _⟩, ⟨fun j h0 h1 => by omega⟩⟩
  case round =>
    obtain ⟨i, rfl, hi0, hi, hgg, HB, HX, HA⟩ := hrel
    have hx := blk_cell HX.out
    by_cases hlt : i < l.length
    · obtain ⟨ad, aA, aC, eA, r0, _⟩ := at_T145 (Kd.C_below H0.out HB.out) i hi0 hlt
      subst eA
      rcases beq_emS (rd_T145 l i).f0 nm with ⟨b0, k0⟩ | ⟨b0, k0⟩
      · go_wp2
        go_ret
        exact ⟨i, rfl, HB.out, .inr ⟨hi0, hlt, k0.out, HA.out⟩⟩
      · go_wp2
        clear hx
        go_roundg (l.length - (i + 1)).toNat
        case measure => omega
        case rel => exact ⟨i + 1, rfl, by omega, by omega, by omega, HB, HX, ⟨fun j h0 h1 => by
          by_cases hj : j < i
          · exact HA.out j h0 hj
          · obtain rfl : j = i := by omega
            exact k0.out⟩⟩
    · obtain rfl : i = l.length := by omega
      go_wp2
      go_ret
      exact ⟨-1, rfl, HB.out, .inl ⟨rfl, all_of rfl HA.out⟩⟩
end
section
-- NEEDS laws.eqConfig
def NoRole (l : List S145) (nm : ByteArray) : Prop := ∀ x ∈ l, ¬ HasRole l nm x
set_option maxHeartbeats 8000000 in
set_option maxRecDepth 100000 in
theorem iRolePtr (ip b gate : Int) (gm wm : ByteArray) (res : Int) (A6 : Option Addr) (c6 : Nat) (g : List S140) (A7 : Option Addr) (c7 : Nat) (l : List S145) (gc : Nat) (nm : ByteArray) (w : World) (hx : w.heap[gc]? = some (.cells #[.int .i64 ip, .int .i64 b, .int .i64 gate, .string gm, .string wm, .int .i64 res, .slice A6 g.length c6, .slice A7 l.length c7] 41 (0, 0))) (hl : Kd.C k145 w A7 l.length l) (zl : l.length ≤ 1152921504606846976) : Calls Tryz.prog 110 #[.pointer (some ⟨gc, 0, none⟩), .string nm] w fun e w' => ∃ p, e = .returned (.pointer p) ∧ Below w.heap.size w w' ∧ ((p = none ∧ NoRole l nm) ∨ ∃ ad r, A7 = some ad ∧ 0 ≤ r ∧ r < (l.length : Int) ∧ p = some (ad.add (r.toNat * 5)) ∧ HasRole l nm (rd_T145 l r) ∧ ∀ j : Int, 0 ≤ j → j < r → ¬ HasRole l nm (rd_T145 l j)) := by
  have hu := Tryz.underlying41
  have hc := blk_cell hx
  have H0 := Aside0.mk (And.intro hl hx)
  clear hl hx
  go_enter Tryz.func110, Tryz.ntmps110
  go_wp2
  clear hc
  go_loopg [11] l.length (fun gg v w' => ∃ i : Int, v = .int .i64 i ∧ 0 ≤ i ∧ i ≤ l.length ∧ l.length - i ≤ gg ∧ Aside0 (Below w.heap.size w w') ∧ Aside0 (∀ j : Int, 0 ≤ j → j < i → ¬ HasRole l nm (rd_T145 l j)))
  case atStart => exact ⟨0, rfl, Int.le_refl _, by omega, by omega, ⟨Below.refl _ _⟩, ⟨fun j h0 h1 => by omega⟩⟩
  case round =>
    obtain ⟨i, rfl, hi0, hi, hgg, HB, HA⟩ := hrel
    have hx := blk_cell ((HB.out.block gc (blk_lt H0.out.2)).trans H0.out.2)
    by_cases hlt : i < l.length
    · obtain ⟨ad, aA, aC, eA, r0, _⟩ := at_T145 (Kd.C_below H0.out.1 HB.out) i hi0 hlt
      subst eA
      rcases beq_emS (rd_T145 l i).f0 nm with ⟨b0, k0⟩ | ⟨b0, k0⟩
      · go_wp2
        go_ret
        exact ⟨_, rfl, HB.out, .inr ⟨ad, i, rfl, hi0, hlt, rfl, k0.out, HA.out⟩⟩
      · go_wp2
        clear hx
        go_roundg (l.length - (i + 1)).toNat
        case measure => omega
        case rel => exact ⟨i + 1, rfl, by omega, by omega, by omega, HB, ⟨fun j h0 h1 => by
          by_cases hj : j < i
          · exact HA.out j h0 hj
          · obtain rfl : j = i := by omega
            exact k0.out⟩⟩
    · obtain rfl : i = l.length := by omega
      go_wp2
      go_ret
      have hno : NoRole l nm := fun x hx => (all_of (P := fun x => ¬ HasRole l nm x) (z := z145) rfl HA.out) x hx
      exact ⟨none, rfl, HB.out, .inl ⟨rfl, hno⟩⟩
set_option maxHeartbeats 8000000 in
set_option maxRecDepth 100000 in
theorem iHash1 (a : ByteArray) (w : World) (z : a.size ≤ 1152921504606846976) : Calls Tryz.prog 109 #[.string a] w (IsB (a.size = 32) w) := by
  go_enter Tryz.func109, Tryz.ntmps109
  go_wp2
  go_ret
  exact IsB.of rfl (by rw [beq_iff_eq]; omega) (Below.refl _ _)
set_option maxHeartbeats 8000000 in
set_option maxRecDepth 100000 in
theorem iUNum1 (a b : Int) (w : World) : Calls Tryz.prog 111 #[.int .i64 a, .int .i64 b] w (IsB ((0 ≤ a ∧ a ≤ 1000000) ∧ (0 ≤ b ∧ b ≤ 1000)) w) := by
  have HB := Aside0.mk (Below.refl w.heap.size w)
  have HP := Aside0.mk True.intro
  go_enter Tryz.func111, Tryz.ntmps111
  go_wp2_with (first
    | (go_at_call 47; refine (iIn1 _ _ _ _).mono ?_; rintro e w2 (⟨rfl, hr, hb⟩ | ⟨rfl, hr, hb⟩) <;> (have n_ := Aside0.mk (And.intro hr HP.out); clear HP hr; have HP := n_; clear n_; have n_ := Aside0.mk (below_step (w := w) (by repeat' (with_reducible first | exact HB.out | apply below_alloc | apply below_drew1 | refine below_set ?_ (by omega))) hb); clear HB; have HB := n_; clear n_; clear hb)))
  all_goals go_ret
  · exact .inl ⟨rfl, ⟨HP.out.2.1, HP.out.1⟩, HB.out⟩
  · exact .inr ⟨rfl, fun h => HP.out.1 h.2, HB.out⟩
  · exact .inr ⟨rfl, fun h => HP.out.1 h.1, HB.out⟩
set_option maxHeartbeats 8000000 in
set_option maxRecDepth 100000 in
theorem iTime1 (a : Int) (w : World) : Calls Tryz.prog 113 #[.int .i64 a] w (IsB (0 ≤ a ∧ a ≤ 100000) w) := by
  have HB := Aside0.mk (Below.refl w.heap.size w)
  have HP := Aside0.mk True.intro
  go_enter Tryz.func113, Tryz.ntmps113
  go_wp2_with (first
    | (go_at_call 47; refine (iIn1 _ _ _ _).mono ?_; rintro e w2 (⟨rfl, hr, hb⟩ | ⟨rfl, hr, hb⟩) <;> (have n_ := Aside0.mk (And.intro hr HP.out); clear HP hr; have HP := n_; clear n_; have n_ := Aside0.mk (below_step (w := w) (by repeat' (with_reducible first | exact HB.out | apply below_alloc | apply below_drew1 | refine below_set ?_ (by omega))) hb); clear HB; have HB := n_; clear n_; clear hb)))
  · go_ret
    exact .inl ⟨rfl, HP.out.1, HB.out⟩
  · go_ret
    exact .inr ⟨rfl, HP.out.1, HB.out⟩
def FailP (x : S81) : Prop := x.f0.size = 6 ∧ (0 ≤ x.f1 ∧ x.f1 ≤ 2) ∧ (0 ≤ x.f2 ∧ x.f2 ≤ 100010)
set_option maxHeartbeats 8000000 in
set_option maxRecDepth 100000 in
theorem iFail1 (x : S81) (w : World) (z : x.f0.size ≤ 1152921504606846976) : Calls Tryz.prog 52 #[.agg #[.string x.f0, .int .i64 x.f1, .int .i64 x.f2]] w (IsB (FailP x) w) := by
  have hu := Tryz.underlying81
  have HB := Aside0.mk (Below.refl w.heap.size w)
  have HP := Aside0.mk True.intro
  go_enter Tryz.func52, Tryz.ntmps52
  go_wp2_with (first
    | (go_at_call 103; refine (iMac1 _ _ z).mono ?_; rintro e w2 (⟨rfl, hr, hb⟩ | ⟨rfl, hr, hb⟩) <;> (have n_ := Aside0.mk (And.intro hr HP.out); clear HP hr; have HP := n_; clear n_; have n_ := Aside0.mk (below_step (w := w) (by repeat' (with_reducible first | exact HB.out | apply below_alloc | apply below_drew1 | refine below_set ?_ (by omega))) hb); clear HB; have HB := n_; clear n_; have n_ := Aside0.mk (blk_below (g := w.heap.size) (o := .cells #[.string x.f0, .int .i64 x.f1, .int .i64 x.f2] 81 (0, 0)) (by repeat' (with_reducible first | exact HX.out | exact blk_new _ _ | refine blk_alloc ?_ _ | refine blk_drew ?_ | refine blk_far ?_ (by dsimp only; omega) _)) hb); (try clear HX); have HX := n_; clear n_; obtain ⟨hc, hf⟩ := bcell hb; have hz : w.heap.size < w2.heap.size := blk_lt HX.out; clear hb))
    | (go_at_call 47; refine (iIn1 _ _ _ _).mono ?_; rintro e w2 (⟨rfl, hr, hb⟩ | ⟨rfl, hr, hb⟩) <;> (have n_ := Aside0.mk (And.intro hr HP.out); clear HP hr; have HP := n_; clear n_; have n_ := Aside0.mk (below_step (w := w) (by repeat' (with_reducible first | exact HB.out | apply below_alloc | apply below_drew1 | refine below_set ?_ (by omega))) hb); clear HB; have HB := n_; clear n_; have n_ := Aside0.mk (blk_below (g := w.heap.size) (o := .cells #[.string x.f0, .int .i64 x.f1, .int .i64 x.f2] 81 (0, 0)) (by repeat' (with_reducible first | exact HX.out | exact blk_new _ _ | refine blk_alloc ?_ _ | refine blk_drew ?_ | refine blk_far ?_ (by dsimp only; omega) _)) hb); (try clear HX); have HX := n_; clear n_; obtain ⟨hc, hf⟩ := bcell hb; have hz : w.heap.size < w2.heap.size := blk_lt HX.out; clear hb)))
  all_goals go_ret
  all_goals first
    | exact .inl ⟨rfl, ⟨HP.out.2.2.1, HP.out.2.1, HP.out.1⟩, HB.out⟩
    | exact .inr ⟨rfl, fun h => HP.out.1 h.2.2, HB.out⟩
    | exact .inr ⟨rfl, fun h => HP.out.1 h.2.1, HB.out⟩
    | exact .inr ⟨rfl, fun h => HP.out.1 h.1, HB.out⟩
set_option maxHeartbeats 8000000 in
set_option maxRecDepth 100000 in
theorem iUser1 (ip b gate : Int) (gm wm : ByteArray) (res : Int) (A6 : Option Addr) (c6 : Nat) (g : List S140) (A7 : Option Addr) (c7 : Nat) (l : List S145) (gc : Nat) (u : S92) (w : World) (hx : w.heap[gc]? = some (.cells #[.int .i64 ip, .int .i64 b, .int .i64 gate, .string gm, .string wm, .int .i64 res, .slice A6 g.length c6, .slice A7 l.length c7] 41 (0, 0))) (hl : Kd.C k145 w A7 l.length l) (zl : l.length ≤ 1152921504606846976) (z0 : u.f0.size ≤ 1152921504606846976) (z1 : u.f1.size ≤ 1152921504606846976) (z2 : u.f2.size ≤ 1152921504606846976) : Calls Tryz.prog 48 #[.pointer (some ⟨gc, 0, none⟩), .agg #[.string u.f0, .string u.f1, .string u.f2, .string u.f3, .int .i64 u.f4, .int .i64 u.f5]] w (IsB (UserP l u) w) := by
  have hu := Tryz.underlying92
  have H0 := Aside0.mk (And.intro hl hx)
  clear hl hx
  have HB := Aside0.mk (Below.refl w.heap.size w)
  have HP := Aside0.mk True.intro
  rcases dec_em ((u.f1.size : Int) ≤ 40) with ⟨k1, b1⟩ | ⟨k1, b1⟩
  all_goals go_enter Tryz.func48, Tryz.ntmps48
  all_goals go_wp2_with (first
   | (go_at_call 108; refine (iShort1 _ _ z0).mono ?_; rintro e w2 (⟨rfl, hr, hb⟩ | ⟨rfl, hr, hb⟩) <;> (have n_ := Aside0.mk (And.intro hr HP.out); clear HP hr; have HP := n_; clear n_; have n_ := Aside0.mk (below_step (w := w) (by repeat' (with_reducible first | exact HB.out | apply below_alloc | apply below_drew1 | refine below_set ?_ (by omega))) hb); clear HB; have HB := n_; clear n_; have n_ := Aside0.mk (blk_below (g := w.heap.size) (o := .cells #[.string u.f0, .string u.f1, .string u.f2, .string u.f3, .int .i64 u.f4, .int .i64 u.f5] 92 (0, 0)) (by repeat' (with_reducible first | exact HX.out | exact blk_new _ _ | refine blk_alloc ?_ _ | refine blk_drew ?_ | refine blk_far ?_ (by dsimp only; omega) _)) hb); (try clear HX); have HX := n_; clear n_; obtain ⟨hc, hf⟩ := bcell hb; have hz : w.heap.size < w2.heap.size := blk_lt HX.out; clear hb))
   | (go_at_call 109; refine (iHash1 _ _ z2).mono ?_; rintro e w2 (⟨rfl, hr, hb⟩ | ⟨rfl, hr, hb⟩) <;> (have n_ := Aside0.mk (And.intro hr HP.out); clear HP hr; have HP := n_; clear n_; have n_ := Aside0.mk (below_step (w := w) (by repeat' (with_reducible first | exact HB.out | apply below_alloc | apply below_drew1 | refine below_set ?_ (by omega))) hb); clear HB; have HB := n_; clear n_; have n_ := Aside0.mk (blk_below (g := w.heap.size) (o := .cells #[.string u.f0, .string u.f1, .string u.f2, .string u.f3, .int .i64 u.f4, .int .i64 u.f5] 92 (0, 0)) (by repeat' (with_reducible first | exact HX.out | exact blk_new _ _ | refine blk_alloc ?_ _ | refine blk_drew ?_ | refine blk_far ?_ (by dsimp only; omega) _)) hb); (try clear HX); have HX := n_; clear n_; obtain ⟨hc, hf⟩ := bcell hb; have hz : w.heap.size < w2.heap.size := blk_lt HX.out; clear hb))
   | (go_at_call 110; refine (iRolePtr ip b gate gm wm res A6 c6 g A7 c7 l gc u.f3 _ ((Below.block (w := w) (by repeat' (with_reducible first | exact HB.out | apply below_alloc | apply below_drew1 | refine below_set ?_ (by omega))) gc (blk_lt H0.out.2)).trans H0.out.2) (Kd.C_below H0.out.1 (by repeat' (with_reducible first | exact HB.out | apply below_alloc | apply below_drew1 | refine below_set ?_ (by omega)))) zl).mono ?_; rintro e w2 ⟨p, rfl, hb, ⟨rfl, hr0⟩ | ⟨ad2, r2, hA2, h02, h12, rfl, hp2, hq2⟩⟩; (have hr : ¬ ∃ x ∈ l, HasRole l u.f3 x := fun h => by obtain ⟨x, h1, h2⟩ := h; exact hr0 x h1 h2); rotate_left; (have hr : ∃ x ∈ l, HasRole l u.f3 x := ⟨_, rdmem h02 h12, hp2⟩; clear hA2 h02 h12 hp2 hq2); all_goals (have n_ := Aside0.mk (And.intro hr HP.out); clear HP hr; have HP := n_; clear n_; have n_ := Aside0.mk (below_step (w := w) (by repeat' (with_reducible first | exact HB.out | apply below_alloc | apply below_drew1 | refine below_set ?_ (by omega))) hb); clear HB; have HB := n_; clear n_; have n_ := Aside0.mk (blk_below (g := w.heap.size) (o := .cells #[.string u.f0, .string u.f1, .string u.f2, .string u.f3, .int .i64 u.f4, .int .i64 u.f5] 92 (0, 0)) (by repeat' (with_reducible first | exact HX.out | exact blk_new _ _ | refine blk_alloc ?_ _ | refine blk_drew ?_ | refine blk_far ?_ (by dsimp only; omega) _)) hb); (try clear HX); have HX := n_; clear n_; obtain ⟨hc, hf⟩ := bcell hb; have hz : w.heap.size < w2.heap.size := blk_lt HX.out; clear hb))
   | (go_at_call 111; refine (iUNum1 _ _ _).mono ?_; rintro e w2 (⟨rfl, hr, hb⟩ | ⟨rfl, hr, hb⟩) <;> (have n_ := Aside0.mk (And.intro hr HP.out); clear HP hr; have HP := n_; clear n_; have n_ := Aside0.mk (below_step (w := w) (by repeat' (with_reducible first | exact HB.out | apply below_alloc | apply below_drew1 | refine below_set ?_ (by omega))) hb); clear HB; have HB := n_; clear n_; have n_ := Aside0.mk (blk_below (g := w.heap.size) (o := .cells #[.string u.f0, .string u.f1, .string u.f2, .string u.f3, .int .i64 u.f4, .int .i64 u.f5] 92 (0, 0)) (by repeat' (with_reducible first | exact HX.out | exact blk_new _ _ | refine blk_alloc ?_ _ | refine blk_drew ?_ | refine blk_far ?_ (by dsimp only; omega) _)) hb); (try clear HX); have HX := n_; clear n_; obtain ⟨hc, hf⟩ := bcell hb; have hz : w.heap.size < w2.heap.size := blk_lt HX.out; clear hb)))
  all_goals go_ret
  all_goals first
    | exact .inl ⟨rfl, ⟨HP.out.2.2.2.1, by omega, HP.out.2.2.1, HP.out.2.1, HP.out.1.1, HP.out.1.2⟩, HB.out⟩
    | exact .inr ⟨rfl, fun h => HP.out.1 h.1, HB.out⟩
    | exact .inr ⟨rfl, fun h => HP.out.1 h.2.2.1, HB.out⟩
    | exact .inr ⟨rfl, fun h => HP.out.1 h.2.2.2.1, HB.out⟩
    | exact .inr ⟨rfl, fun h => HP.out.1 h.2.2.2.2, HB.out⟩
    | exact .inr ⟨rfl, fun h => by have := h.2.1; omega, HB.out⟩
end
section
-- NEEDS laws.eqConfig
def SessionP (ip b nx : Int) (nu : Nat) (s : S76) : Prop := (1 ≤ s.f0 ∧ s.f0 ≤ nx - 1) ∧ (0 ≤ s.f1 ∧ s.f1 ≤ (nu : Int) - 1) ∧ s.f2.size = 6 ∧ (0 ≤ s.f3 ∧ s.f3 ≤ 4294967295) ∧ HasP ip b s.f3 ∧ (0 ≤ s.f4 ∧ s.f4 ≤ 100000) ∧ (s.f4 ≤ s.f5 ∧ s.f5 ≤ 100000) ∧ (1 ≤ s.f7 ∧ s.f7 ≤ 1000000) ∧ (0 ≤ s.f6 ∧ s.f6 ≤ s.f7) ∧ (s.f4 ≤ s.f8 ∧ s.f8 ≤ 101000) ∧ (1 ≤ s.f9 ∧ s.f9 ≤ 1000)
def RecordP (nx : Int) (r : S83) : Prop := (1 ≤ r.f0 ∧ r.f0 ≤ nx - 1) ∧ (0 ≤ r.f1 ∧ r.f1 ≤ 100000) ∧ (0 ≤ r.f3 ∧ r.f3 ≤ 1000000) ∧ (r.f4 = true → 1 ≤ r.f2 ∧ r.f2 ≤ 6) ∧ (r.f4 = false → r.f2 = 0 ∧ r.f3 = 0)
set_option maxHeartbeats 8000000 in
set_option maxRecDepth 100000 in
theorem iSession1 (ip b gate : Int) (gm wm : ByteArray) (res : Int) (A6 : Option Addr) (c6 : Nat) (g : List S140) (A7 : Option Addr) (c7 : Nat) (l : List S145) (B0 B1 B2 B3 : Option Addr) (d0 d1 d2 d3 : Nat) (us : List S92) (ss : List S76) (fs : List S81) (rs : List S83) (nx : Int) (gc gg : Nat) (s : S76) (w : World) (hx : w.heap[gc]? = some (.cells #[.int .i64 ip, .int .i64 b, .int .i64 gate, .string gm, .string wm, .int .i64 res, .slice A6 g.length c6, .slice A7 l.length c7] 41 (0, 0))) (hy : w.heap[gg]? = some (.cells #[.slice B0 us.length d0, .slice B1 ss.length d1, .slice B2 fs.length d2, .slice B3 rs.length d3, .int .i64 nx] 48 (0, 0))) (n0 : 1 ≤ nx) (n1 : nx ≤ 10000) (zu : us.length ≤ 1152921504606846976) (kb0 : 0 ≤ b) (kb1 : b ≤ 32) (z2 : s.f2.size ≤ 1152921504606846976) : Calls Tryz.prog 51 #[.pointer (some ⟨gc, 0, none⟩), .pointer (some ⟨gg, 0, none⟩), .agg #[.int .i64 s.f0, .int .i64 s.f1, .string s.f2, .int .i64 s.f3, .int .i64 s.f4, .int .i64 s.f5, .int .i64 s.f6, .int .i64 s.f7, .int .i64 s.f8, .int .i64 s.f9]] w (IsB (SessionP ip b nx us.length s) w) := by
  have hu := Tryz.underlying76
  have hu2 := Tryz.underlying41
  have hu3 := Tryz.underlying48
  have H0 := Aside0.mk (And.intro hx hy)
  clear hx hy
  have hw1 : IntKind.i64.wrap (nx - 1) = nx - 1 := i64id (by omega) (by omega)
  have hw2 : IntKind.i64.wrap ((us.length : Int) - 1) = (us.length : Int) - 1 := i64id (by omega) (by omega)
  go_enter Tryz.func51, Tryz.ntmps51
  go_wp2
  have HB := Aside0.mk (below_alloc (Below.refl w.heap.size w) (.cells #[.int .i64 s.f0, .int .i64 s.f1, .string s.f2, .int .i64 s.f3, .int .i64 s.f4, .int .i64 s.f5, .int .i64 s.f6, .int .i64 s.f7, .int .i64 s.f8, .int .i64 s.f9] 76 (0, 0)))
  have HX := Aside0.mk (blk_new w (.cells #[.int .i64 s.f0, .int .i64 s.f1, .string s.f2, .int .i64 s.f3, .int .i64 s.f4, .int .i64 s.f5, .int .i64 s.f6, .int .i64 s.f7, .int .i64 s.f8, .int .i64 s.f9] 76 (0, 0)))
  have hg2 := blk_below H0.out.2 HB.out
  have hc2 := blk_below H0.out.1 HB.out
  generalize hW : w.alloc (.cells #[.int .i64 s.f0, .int .i64 s.f1, .string s.f2, .int .i64 s.f3, .int .i64 s.f4, .int .i64 s.f5, .int .i64 s.f6, .int .i64 s.f7, .int .i64 s.f8, .int .i64 s.f9] 76 (0, 0)) = W0 at *
  clear hW
  rcases Classical.em (1 ≤ s.f0 ∧ s.f0 ≤ nx - 1) with k1 | k1 <;> (have K1 := Aside0.mk k1; clear k1)
  rotate_left
  · refine qS (fun w' => w'.cell? ⟨w.heap.size, 0, none⟩ = some (.int .i64 s.f0) ∧ w'.cell? ⟨w.heap.size, 1, none⟩ = some (.int .i64 s.f1) ∧ w'.cell? ⟨w.heap.size, 2, none⟩ = some (.string s.f2) ∧ w'.cell? ⟨w.heap.size, 3, none⟩ = some (.int .i64 s.f3) ∧ w'.cell? ⟨w.heap.size, 4, none⟩ = some (.int .i64 s.f4) ∧ w'.cell? ⟨w.heap.size, 5, none⟩ = some (.int .i64 s.f5) ∧ w'.cell? ⟨w.heap.size, 6, none⟩ = some (.int .i64 s.f6) ∧ w'.cell? ⟨w.heap.size, 7, none⟩ = some (.int .i64 s.f7) ∧ w'.cell? ⟨w.heap.size, 8, none⟩ = some (.int .i64 s.f8) ∧ w'.cell? ⟨w.heap.size, 9, none⟩ = some (.int .i64 s.f9) ∧ w'.cell? ⟨gg, 0, none⟩ = some (.slice B0 us.length d0) ∧ w'.cell? ⟨gg, 4, none⟩ = some (.int .i64 nx) ∧ w'.cell? ⟨gc, 0, none⟩ = some (.int .i64 ip) ∧ w'.cell? ⟨gc, 1, none⟩ = some (.int .i64 b)) 39 ⟨blk_cell HX.out 0, blk_cell HX.out 1, blk_cell HX.out 2, blk_cell HX.out 3, blk_cell HX.out 4, blk_cell HX.out 5, blk_cell HX.out 6, blk_cell HX.out 7, blk_cell HX.out 8, blk_cell HX.out 9, blk_cell hg2 0, blk_cell hg2 4, blk_cell hc2 0, blk_cell hc2 1⟩ (fun hs => ?_)
    have n_ := Aside0.mk (below_drew1 HB.out)
    clear HB
    have HB := n_
    clear n_
    have n_ := Aside0.mk (blk_drew HX.out)
    clear HX
    have HX := n_
    clear n_
    refine qP 0 8 ?_
    refine qP 2 10 ?_
    refine qP 3 11 ?_
    refine qP 4 12 ?_
    refine qT 1 9 hs ?_
    refine qT 5 13 hs ?_
    refine qP 6 14 ?_
    refine q1 7 15 (fun K hK => ?_)
    refine qC Tryz.func47 _ ?_
    refine (iIn1 _ _ _ _).mono ?_
    intro e w2 h2
    obtain ⟨rfl, hb⟩ := h2.no K1.out
    have n_ := Aside0.mk (below_step HB.out hb)
    clear HB
    have HB := n_
    clear n_
    have n_ := Aside0.mk (blk_below HX.out hb)
    clear HX
    have HX := n_
    clear n_
    refine ⟨_, rfl, hK.out _ _ ⟨pw_cell_below hb hs.1, pw_cell_below hb hs.2.1, pw_cell_below hb hs.2.2.1, pw_cell_below hb hs.2.2.2.1, pw_cell_below hb hs.2.2.2.2.1, pw_cell_below hb hs.2.2.2.2.2.1, pw_cell_below hb hs.2.2.2.2.2.2.1, pw_cell_below hb hs.2.2.2.2.2.2.2.1, pw_cell_below hb hs.2.2.2.2.2.2.2.2.1, pw_cell_below hb hs.2.2.2.2.2.2.2.2.2.1, pw_cell_below hb hs.2.2.2.2.2.2.2.2.2.2.1, pw_cell_below hb hs.2.2.2.2.2.2.2.2.2.2.2.1, pw_cell_below hb hs.2.2.2.2.2.2.2.2.2.2.2.2.1, pw_cell_below hb hs.2.2.2.2.2.2.2.2.2.2.2.2.2⟩ (fun hs2 => ?_)⟩
    clear hK K hs hb
    have hs := hs2
    clear hs2
    refine qN ?_
    refine qP 8 16 ?_
    refine qU 9 17 ?_
    refine qU 10 18 ?_
    refine qU 11 19 ?_
    refine qU 12 20 ?_
    refine qU 13 21 ?_
    refine qU 14 22 ?_
    refine qU 15 23 ?_
    refine qU 16 24 ?_
    refine qU 17 25 ?_
    refine qP 18 26 ?_
    refine qP 19 27 ?_
    refine qU 20 28 ?_
    refine qU 21 29 ?_
    refine qU 22 30 ?_
    refine qP 23 31 ?_
    refine qP 24 32 ?_
    refine qU 25 33 ?_
    refine qU 26 34 ?_
    refine qU 27 35 ?_
    refine qP 28 36 ?_
    refine qP 29 37 ?_
    refine qU 30 38 ?_
    refine qU 31 39 ?_
    refine qU 32 40 ?_
    refine qU 33 41 ?_
    refine qU 34 42 ?_
    refine qU 35 43 ?_
    refine qU 36 44 ?_
    refine qP 37 45 ?_
    refine qP 38 7 ?_
    refine qD ?_
    clear hs
    clear hg2 hc2 hw1 hw2
    go_wp2
    go_ret
    exact .inr ⟨rfl, fun h => K1.out h.1, HB.out⟩
  rcases Classical.em (0 ≤ s.f1 ∧ s.f1 ≤ (us.length : Int) - 1) with k2 | k2 <;> (have K2 := Aside0.mk k2; clear k2)
  rotate_left
  · refine qS (fun w' => w'.cell? ⟨w.heap.size, 0, none⟩ = some (.int .i64 s.f0) ∧ w'.cell? ⟨w.heap.size, 1, none⟩ = some (.int .i64 s.f1) ∧ w'.cell? ⟨w.heap.size, 2, none⟩ = some (.string s.f2) ∧ w'.cell? ⟨w.heap.size, 3, none⟩ = some (.int .i64 s.f3) ∧ w'.cell? ⟨w.heap.size, 4, none⟩ = some (.int .i64 s.f4) ∧ w'.cell? ⟨w.heap.size, 5, none⟩ = some (.int .i64 s.f5) ∧ w'.cell? ⟨w.heap.size, 6, none⟩ = some (.int .i64 s.f6) ∧ w'.cell? ⟨w.heap.size, 7, none⟩ = some (.int .i64 s.f7) ∧ w'.cell? ⟨w.heap.size, 8, none⟩ = some (.int .i64 s.f8) ∧ w'.cell? ⟨w.heap.size, 9, none⟩ = some (.int .i64 s.f9) ∧ w'.cell? ⟨gg, 0, none⟩ = some (.slice B0 us.length d0) ∧ w'.cell? ⟨gg, 4, none⟩ = some (.int .i64 nx) ∧ w'.cell? ⟨gc, 0, none⟩ = some (.int .i64 ip) ∧ w'.cell? ⟨gc, 1, none⟩ = some (.int .i64 b)) 39 ⟨blk_cell HX.out 0, blk_cell HX.out 1, blk_cell HX.out 2, blk_cell HX.out 3, blk_cell HX.out 4, blk_cell HX.out 5, blk_cell HX.out 6, blk_cell HX.out 7, blk_cell HX.out 8, blk_cell HX.out 9, blk_cell hg2 0, blk_cell hg2 4, blk_cell hc2 0, blk_cell hc2 1⟩ (fun hs => ?_)
    have n_ := Aside0.mk (below_drew1 HB.out)
    clear HB
    have HB := n_
    clear n_
    have n_ := Aside0.mk (blk_drew HX.out)
    clear HX
    have HX := n_
    clear n_
    refine qP 0 8 ?_
    refine qP 2 10 ?_
    refine qP 3 11 ?_
    refine qP 4 12 ?_
    refine qT 1 9 hs ?_
    refine qT 5 13 hs ?_
    refine qP 6 14 ?_
    refine q1 7 15 (fun K hK => ?_)
    refine qC Tryz.func47 _ ?_
    refine (iIn1 _ _ _ _).mono ?_
    intro e w2 h2
    obtain ⟨rfl, hb⟩ := h2.yes K1.out
    have n_ := Aside0.mk (below_step HB.out hb)
    clear HB
    have HB := n_
    clear n_
    have n_ := Aside0.mk (blk_below HX.out hb)
    clear HX
    have HX := n_
    clear n_
    refine ⟨_, rfl, hK.out _ _ ⟨pw_cell_below hb hs.1, pw_cell_below hb hs.2.1, pw_cell_below hb hs.2.2.1, pw_cell_below hb hs.2.2.2.1, pw_cell_below hb hs.2.2.2.2.1, pw_cell_below hb hs.2.2.2.2.2.1, pw_cell_below hb hs.2.2.2.2.2.2.1, pw_cell_below hb hs.2.2.2.2.2.2.2.1, pw_cell_below hb hs.2.2.2.2.2.2.2.2.1, pw_cell_below hb hs.2.2.2.2.2.2.2.2.2.1, pw_cell_below hb hs.2.2.2.2.2.2.2.2.2.2.1, pw_cell_below hb hs.2.2.2.2.2.2.2.2.2.2.2.1, pw_cell_below hb hs.2.2.2.2.2.2.2.2.2.2.2.2.1, pw_cell_below hb hs.2.2.2.2.2.2.2.2.2.2.2.2.2⟩ (fun hs2 => ?_)⟩
    clear hK K hs hb
    have hs := hs2
    clear hs2
    refine qN ?_
    refine qP 8 16 ?_
    refine qP 9 17 ?_
    refine qP 11 19 ?_
    refine qP 12 20 ?_
    refine qP 13 21 ?_
    refine qT 10 18 hs ?_
    refine qT 14 22 hs ?_
    refine qP 15 23 ?_
    refine qP 16 24 ?_
    refine q1 17 25 (fun K hK => ?_)
    refine qC Tryz.func47 _ ?_
    refine (iIn1 _ _ _ _).mono ?_
    intro e w2 h2
    obtain ⟨rfl, hb⟩ := h2.no K2.out
    have n_ := Aside0.mk (below_step HB.out hb)
    clear HB
    have HB := n_
    clear n_
    have n_ := Aside0.mk (blk_below HX.out hb)
    clear HX
    have HX := n_
    clear n_
    refine ⟨_, rfl, hK.out _ _ ⟨pw_cell_below hb hs.1, pw_cell_below hb hs.2.1, pw_cell_below hb hs.2.2.1, pw_cell_below hb hs.2.2.2.1, pw_cell_below hb hs.2.2.2.2.1, pw_cell_below hb hs.2.2.2.2.2.1, pw_cell_below hb hs.2.2.2.2.2.2.1, pw_cell_below hb hs.2.2.2.2.2.2.2.1, pw_cell_below hb hs.2.2.2.2.2.2.2.2.1, pw_cell_below hb hs.2.2.2.2.2.2.2.2.2.1, pw_cell_below hb hs.2.2.2.2.2.2.2.2.2.2.1, pw_cell_below hb hs.2.2.2.2.2.2.2.2.2.2.2.1, pw_cell_below hb hs.2.2.2.2.2.2.2.2.2.2.2.2.1, pw_cell_below hb hs.2.2.2.2.2.2.2.2.2.2.2.2.2⟩ (fun hs2 => ?_)⟩
    clear hK K hs hb
    have hs := hs2
    clear hs2
    refine qN ?_
    refine qP 18 26 ?_
    refine qP 19 27 ?_
    refine qU 20 28 ?_
    refine qU 21 29 ?_
    refine qU 22 30 ?_
    refine qP 23 31 ?_
    refine qP 24 32 ?_
    refine qU 25 33 ?_
    refine qU 26 34 ?_
    refine qU 27 35 ?_
    refine qP 28 36 ?_
    refine qP 29 37 ?_
    refine qU 30 38 ?_
    refine qU 31 39 ?_
    refine qU 32 40 ?_
    refine qU 33 41 ?_
    refine qU 34 42 ?_
    refine qU 35 43 ?_
    refine qU 36 44 ?_
    refine qP 37 45 ?_
    refine qP 38 7 ?_
    refine qD ?_
    clear hs
    clear hg2 hc2 hw1 hw2
    go_wp2
    go_ret
    exact .inr ⟨rfl, fun h => K2.out h.2.1, HB.out⟩
  rcases Classical.em (s.f2.size = 6) with k3 | k3 <;> (have K3 := Aside0.mk k3; clear k3)
  rotate_left
  · refine qS (fun w' => w'.cell? ⟨w.heap.size, 0, none⟩ = some (.int .i64 s.f0) ∧ w'.cell? ⟨w.heap.size, 1, none⟩ = some (.int .i64 s.f1) ∧ w'.cell? ⟨w.heap.size, 2, none⟩ = some (.string s.f2) ∧ w'.cell? ⟨w.heap.size, 3, none⟩ = some (.int .i64 s.f3) ∧ w'.cell? ⟨w.heap.size, 4, none⟩ = some (.int .i64 s.f4) ∧ w'.cell? ⟨w.heap.size, 5, none⟩ = some (.int .i64 s.f5) ∧ w'.cell? ⟨w.heap.size, 6, none⟩ = some (.int .i64 s.f6) ∧ w'.cell? ⟨w.heap.size, 7, none⟩ = some (.int .i64 s.f7) ∧ w'.cell? ⟨w.heap.size, 8, none⟩ = some (.int .i64 s.f8) ∧ w'.cell? ⟨w.heap.size, 9, none⟩ = some (.int .i64 s.f9) ∧ w'.cell? ⟨gg, 0, none⟩ = some (.slice B0 us.length d0) ∧ w'.cell? ⟨gg, 4, none⟩ = some (.int .i64 nx) ∧ w'.cell? ⟨gc, 0, none⟩ = some (.int .i64 ip) ∧ w'.cell? ⟨gc, 1, none⟩ = some (.int .i64 b)) 39 ⟨blk_cell HX.out 0, blk_cell HX.out 1, blk_cell HX.out 2, blk_cell HX.out 3, blk_cell HX.out 4, blk_cell HX.out 5, blk_cell HX.out 6, blk_cell HX.out 7, blk_cell HX.out 8, blk_cell HX.out 9, blk_cell hg2 0, blk_cell hg2 4, blk_cell hc2 0, blk_cell hc2 1⟩ (fun hs => ?_)
    have n_ := Aside0.mk (below_drew1 HB.out)
    clear HB
    have HB := n_
    clear n_
    have n_ := Aside0.mk (blk_drew HX.out)
    clear HX
    have HX := n_
    clear n_
    refine qP 0 8 ?_
    refine qP 2 10 ?_
    refine qP 3 11 ?_
    refine qP 4 12 ?_
    refine qT 1 9 hs ?_
    refine qT 5 13 hs ?_
    refine qP 6 14 ?_
    refine q1 7 15 (fun K hK => ?_)
    refine qC Tryz.func47 _ ?_
    refine (iIn1 _ _ _ _).mono ?_
    intro e w2 h2
    obtain ⟨rfl, hb⟩ := h2.yes K1.out
    have n_ := Aside0.mk (below_step HB.out hb)
    clear HB
    have HB := n_
    clear n_
    have n_ := Aside0.mk (blk_below HX.out hb)
    clear HX
    have HX := n_
    clear n_
    refine ⟨_, rfl, hK.out _ _ ⟨pw_cell_below hb hs.1, pw_cell_below hb hs.2.1, pw_cell_below hb hs.2.2.1, pw_cell_below hb hs.2.2.2.1, pw_cell_below hb hs.2.2.2.2.1, pw_cell_below hb hs.2.2.2.2.2.1, pw_cell_below hb hs.2.2.2.2.2.2.1, pw_cell_below hb hs.2.2.2.2.2.2.2.1, pw_cell_below hb hs.2.2.2.2.2.2.2.2.1, pw_cell_below hb hs.2.2.2.2.2.2.2.2.2.1, pw_cell_below hb hs.2.2.2.2.2.2.2.2.2.2.1, pw_cell_below hb hs.2.2.2.2.2.2.2.2.2.2.2.1, pw_cell_below hb hs.2.2.2.2.2.2.2.2.2.2.2.2.1, pw_cell_below hb hs.2.2.2.2.2.2.2.2.2.2.2.2.2⟩ (fun hs2 => ?_)⟩
    clear hK K hs hb
    have hs := hs2
    clear hs2
    refine qN ?_
    refine qP 8 16 ?_
    refine qP 9 17 ?_
    refine qP 11 19 ?_
    refine qP 12 20 ?_
    refine qP 13 21 ?_
    refine qT 10 18 hs ?_
    refine qT 14 22 hs ?_
    refine qP 15 23 ?_
    refine qP 16 24 ?_
    refine q1 17 25 (fun K hK => ?_)
    refine qC Tryz.func47 _ ?_
    refine (iIn1 _ _ _ _).mono ?_
    intro e w2 h2
    obtain ⟨rfl, hb⟩ := h2.yes K2.out
    have n_ := Aside0.mk (below_step HB.out hb)
    clear HB
    have HB := n_
    clear n_
    have n_ := Aside0.mk (blk_below HX.out hb)
    clear HX
    have HX := n_
    clear n_
    refine ⟨_, rfl, hK.out _ _ ⟨pw_cell_below hb hs.1, pw_cell_below hb hs.2.1, pw_cell_below hb hs.2.2.1, pw_cell_below hb hs.2.2.2.1, pw_cell_below hb hs.2.2.2.2.1, pw_cell_below hb hs.2.2.2.2.2.1, pw_cell_below hb hs.2.2.2.2.2.2.1, pw_cell_below hb hs.2.2.2.2.2.2.2.1, pw_cell_below hb hs.2.2.2.2.2.2.2.2.1, pw_cell_below hb hs.2.2.2.2.2.2.2.2.2.1, pw_cell_below hb hs.2.2.2.2.2.2.2.2.2.2.1, pw_cell_below hb hs.2.2.2.2.2.2.2.2.2.2.2.1, pw_cell_below hb hs.2.2.2.2.2.2.2.2.2.2.2.2.1, pw_cell_below hb hs.2.2.2.2.2.2.2.2.2.2.2.2.2⟩ (fun hs2 => ?_)⟩
    clear hK K hs hb
    have hs := hs2
    clear hs2
    refine qN ?_
    refine qP 18 26 ?_
    refine qP 19 27 ?_
    refine qP 20 28 ?_
    refine qT 21 29 hs ?_
    refine q1 22 30 (fun K hK => ?_)
    refine qC Tryz.func103 _ ?_
    refine (iMac1 _ _ z2).mono ?_
    intro e w2 h2
    obtain ⟨rfl, hb⟩ := h2.no K3.out
    have n_ := Aside0.mk (below_step HB.out hb)
    clear HB
    have HB := n_
    clear n_
    have n_ := Aside0.mk (blk_below HX.out hb)
    clear HX
    have HX := n_
    clear n_
    refine ⟨_, rfl, hK.out _ _ ⟨pw_cell_below hb hs.1, pw_cell_below hb hs.2.1, pw_cell_below hb hs.2.2.1, pw_cell_below hb hs.2.2.2.1, pw_cell_below hb hs.2.2.2.2.1, pw_cell_below hb hs.2.2.2.2.2.1, pw_cell_below hb hs.2.2.2.2.2.2.1, pw_cell_below hb hs.2.2.2.2.2.2.2.1, pw_cell_below hb hs.2.2.2.2.2.2.2.2.1, pw_cell_below hb hs.2.2.2.2.2.2.2.2.2.1, pw_cell_below hb hs.2.2.2.2.2.2.2.2.2.2.1, pw_cell_below hb hs.2.2.2.2.2.2.2.2.2.2.2.1, pw_cell_below hb hs.2.2.2.2.2.2.2.2.2.2.2.2.1, pw_cell_below hb hs.2.2.2.2.2.2.2.2.2.2.2.2.2⟩ (fun hs2 => ?_)⟩
    clear hK K hs hb
    have hs := hs2
    clear hs2
    refine qN ?_
    refine qP 23 31 ?_
    refine qP 24 32 ?_
    refine qU 25 33 ?_
    refine qU 26 34 ?_
    refine qU 27 35 ?_
    refine qP 28 36 ?_
    refine qP 29 37 ?_
    refine qU 30 38 ?_
    refine qU 31 39 ?_
    refine qU 32 40 ?_
    refine qU 33 41 ?_
    refine qU 34 42 ?_
    refine qU 35 43 ?_
    refine qU 36 44 ?_
    refine qP 37 45 ?_
    refine qP 38 7 ?_
    refine qD ?_
    clear hs
    clear hg2 hc2 hw1 hw2
    go_wp2
    go_ret
    exact .inr ⟨rfl, fun h => K3.out h.2.2.1, HB.out⟩
  rcases Classical.em (0 ≤ s.f3 ∧ s.f3 ≤ 4294967295) with k4 | k4 <;> (have K4 := Aside0.mk k4; clear k4)
  rotate_left
  · refine qS (fun w' => w'.cell? ⟨w.heap.size, 0, none⟩ = some (.int .i64 s.f0) ∧ w'.cell? ⟨w.heap.size, 1, none⟩ = some (.int .i64 s.f1) ∧ w'.cell? ⟨w.heap.size, 2, none⟩ = some (.string s.f2) ∧ w'.cell? ⟨w.heap.size, 3, none⟩ = some (.int .i64 s.f3) ∧ w'.cell? ⟨w.heap.size, 4, none⟩ = some (.int .i64 s.f4) ∧ w'.cell? ⟨w.heap.size, 5, none⟩ = some (.int .i64 s.f5) ∧ w'.cell? ⟨w.heap.size, 6, none⟩ = some (.int .i64 s.f6) ∧ w'.cell? ⟨w.heap.size, 7, none⟩ = some (.int .i64 s.f7) ∧ w'.cell? ⟨w.heap.size, 8, none⟩ = some (.int .i64 s.f8) ∧ w'.cell? ⟨w.heap.size, 9, none⟩ = some (.int .i64 s.f9) ∧ w'.cell? ⟨gg, 0, none⟩ = some (.slice B0 us.length d0) ∧ w'.cell? ⟨gg, 4, none⟩ = some (.int .i64 nx) ∧ w'.cell? ⟨gc, 0, none⟩ = some (.int .i64 ip) ∧ w'.cell? ⟨gc, 1, none⟩ = some (.int .i64 b)) 39 ⟨blk_cell HX.out 0, blk_cell HX.out 1, blk_cell HX.out 2, blk_cell HX.out 3, blk_cell HX.out 4, blk_cell HX.out 5, blk_cell HX.out 6, blk_cell HX.out 7, blk_cell HX.out 8, blk_cell HX.out 9, blk_cell hg2 0, blk_cell hg2 4, blk_cell hc2 0, blk_cell hc2 1⟩ (fun hs => ?_)
    have n_ := Aside0.mk (below_drew1 HB.out)
    clear HB
    have HB := n_
    clear n_
    have n_ := Aside0.mk (blk_drew HX.out)
    clear HX
    have HX := n_
    clear n_
    refine qP 0 8 ?_
    refine qP 2 10 ?_
    refine qP 3 11 ?_
    refine qP 4 12 ?_
    refine qT 1 9 hs ?_
    refine qT 5 13 hs ?_
    refine qP 6 14 ?_
    refine q1 7 15 (fun K hK => ?_)
    refine qC Tryz.func47 _ ?_
    refine (iIn1 _ _ _ _).mono ?_
    intro e w2 h2
    obtain ⟨rfl, hb⟩ := h2.yes K1.out
    have n_ := Aside0.mk (below_step HB.out hb)
    clear HB
    have HB := n_
    clear n_
    have n_ := Aside0.mk (blk_below HX.out hb)
    clear HX
    have HX := n_
    clear n_
    refine ⟨_, rfl, hK.out _ _ ⟨pw_cell_below hb hs.1, pw_cell_below hb hs.2.1, pw_cell_below hb hs.2.2.1, pw_cell_below hb hs.2.2.2.1, pw_cell_below hb hs.2.2.2.2.1, pw_cell_below hb hs.2.2.2.2.2.1, pw_cell_below hb hs.2.2.2.2.2.2.1, pw_cell_below hb hs.2.2.2.2.2.2.2.1, pw_cell_below hb hs.2.2.2.2.2.2.2.2.1, pw_cell_below hb hs.2.2.2.2.2.2.2.2.2.1, pw_cell_below hb hs.2.2.2.2.2.2.2.2.2.2.1, pw_cell_below hb hs.2.2.2.2.2.2.2.2.2.2.2.1, pw_cell_below hb hs.2.2.2.2.2.2.2.2.2.2.2.2.1, pw_cell_below hb hs.2.2.2.2.2.2.2.2.2.2.2.2.2⟩ (fun hs2 => ?_)⟩
    clear hK K hs hb
    have hs := hs2
    clear hs2
    refine qN ?_
    refine qP 8 16 ?_
    refine qP 9 17 ?_
    refine qP 11 19 ?_
    refine qP 12 20 ?_
    refine qP 13 21 ?_
    refine qT 10 18 hs ?_
    refine qT 14 22 hs ?_
    refine qP 15 23 ?_
    refine qP 16 24 ?_
    refine q1 17 25 (fun K hK => ?_)
    refine qC Tryz.func47 _ ?_
    refine (iIn1 _ _ _ _).mono ?_
    intro e w2 h2
    obtain ⟨rfl, hb⟩ := h2.yes K2.out
    have n_ := Aside0.mk (below_step HB.out hb)
    clear HB
    have HB := n_
    clear n_
    have n_ := Aside0.mk (blk_below HX.out hb)
    clear HX
    have HX := n_
    clear n_
    refine ⟨_, rfl, hK.out _ _ ⟨pw_cell_below hb hs.1, pw_cell_below hb hs.2.1, pw_cell_below hb hs.2.2.1, pw_cell_below hb hs.2.2.2.1, pw_cell_below hb hs.2.2.2.2.1, pw_cell_below hb hs.2.2.2.2.2.1, pw_cell_below hb hs.2.2.2.2.2.2.1, pw_cell_below hb hs.2.2.2.2.2.2.2.1, pw_cell_below hb hs.2.2.2.2.2.2.2.2.1, pw_cell_below hb hs.2.2.2.2.2.2.2.2.2.1, pw_cell_below hb hs.2.2.2.2.2.2.2.2.2.2.1, pw_cell_below hb hs.2.2.2.2.2.2.2.2.2.2.2.1, pw_cell_below hb hs.2.2.2.2.2.2.2.2.2.2.2.2.1, pw_cell_below hb hs.2.2.2.2.2.2.2.2.2.2.2.2.2⟩ (fun hs2 => ?_)⟩
    clear hK K hs hb
    have hs := hs2
    clear hs2
    refine qN ?_
    refine qP 18 26 ?_
    refine qP 19 27 ?_
    refine qP 20 28 ?_
    refine qT 21 29 hs ?_
    refine q1 22 30 (fun K hK => ?_)
    refine qC Tryz.func103 _ ?_
    refine (iMac1 _ _ z2).mono ?_
    intro e w2 h2
    obtain ⟨rfl, hb⟩ := h2.yes K3.out
    have n_ := Aside0.mk (below_step HB.out hb)
    clear HB
    have HB := n_
    clear n_
    have n_ := Aside0.mk (blk_below HX.out hb)
    clear HX
    have HX := n_
    clear n_
    refine ⟨_, rfl, hK.out _ _ ⟨pw_cell_below hb hs.1, pw_cell_below hb hs.2.1, pw_cell_below hb hs.2.2.1, pw_cell_below hb hs.2.2.2.1, pw_cell_below hb hs.2.2.2.2.1, pw_cell_below hb hs.2.2.2.2.2.1, pw_cell_below hb hs.2.2.2.2.2.2.1, pw_cell_below hb hs.2.2.2.2.2.2.2.1, pw_cell_below hb hs.2.2.2.2.2.2.2.2.1, pw_cell_below hb hs.2.2.2.2.2.2.2.2.2.1, pw_cell_below hb hs.2.2.2.2.2.2.2.2.2.2.1, pw_cell_below hb hs.2.2.2.2.2.2.2.2.2.2.2.1, pw_cell_below hb hs.2.2.2.2.2.2.2.2.2.2.2.2.1, pw_cell_below hb hs.2.2.2.2.2.2.2.2.2.2.2.2.2⟩ (fun hs2 => ?_)⟩
    clear hK K hs hb
    have hs := hs2
    clear hs2
    refine qN ?_
    refine qP 23 31 ?_
    refine qP 24 32 ?_
    refine qP 25 33 ?_
    refine qT 26 34 hs ?_
    refine q1 27 35 (fun K hK => ?_)
    refine qC Tryz.func101 _ ?_
    refine (iIp1 _ _).mono ?_
    intro e w2 h2
    obtain ⟨rfl, hb⟩ := h2.no K4.out
    have n_ := Aside0.mk (below_step HB.out hb)
    clear HB
    have HB := n_
    clear n_
    have n_ := Aside0.mk (blk_below HX.out hb)
    clear HX
    have HX := n_
    clear n_
    refine ⟨_, rfl, hK.out _ _ ⟨pw_cell_below hb hs.1, pw_cell_below hb hs.2.1, pw_cell_below hb hs.2.2.1, pw_cell_below hb hs.2.2.2.1, pw_cell_below hb hs.2.2.2.2.1, pw_cell_below hb hs.2.2.2.2.2.1, pw_cell_below hb hs.2.2.2.2.2.2.1, pw_cell_below hb hs.2.2.2.2.2.2.2.1, pw_cell_below hb hs.2.2.2.2.2.2.2.2.1, pw_cell_below hb hs.2.2.2.2.2.2.2.2.2.1, pw_cell_below hb hs.2.2.2.2.2.2.2.2.2.2.1, pw_cell_below hb hs.2.2.2.2.2.2.2.2.2.2.2.1, pw_cell_below hb hs.2.2.2.2.2.2.2.2.2.2.2.2.1, pw_cell_below hb hs.2.2.2.2.2.2.2.2.2.2.2.2.2⟩ (fun hs2 => ?_)⟩
    clear hK K hs hb
    have hs := hs2
    clear hs2
    refine qN ?_
    refine qP 28 36 ?_
    refine qP 29 37 ?_
    refine qU 30 38 ?_
    refine qU 31 39 ?_
    refine qU 32 40 ?_
    refine qU 33 41 ?_
    refine qU 34 42 ?_
    refine qU 35 43 ?_
    refine qU 36 44 ?_
    refine qP 37 45 ?_
    refine qP 38 7 ?_
    refine qD ?_
    clear hs
    clear hg2 hc2 hw1 hw2
    go_wp2
    go_ret
    exact .inr ⟨rfl, fun h => K4.out h.2.2.2.1, HB.out⟩
  rcases Classical.em (HasP ip b s.f3) with k5 | k5 <;> (have K5 := Aside0.mk k5; clear k5)
  rotate_left
  · refine qS (fun w' => w'.cell? ⟨w.heap.size, 0, none⟩ = some (.int .i64 s.f0) ∧ w'.cell? ⟨w.heap.size, 1, none⟩ = some (.int .i64 s.f1) ∧ w'.cell? ⟨w.heap.size, 2, none⟩ = some (.string s.f2) ∧ w'.cell? ⟨w.heap.size, 3, none⟩ = some (.int .i64 s.f3) ∧ w'.cell? ⟨w.heap.size, 4, none⟩ = some (.int .i64 s.f4) ∧ w'.cell? ⟨w.heap.size, 5, none⟩ = some (.int .i64 s.f5) ∧ w'.cell? ⟨w.heap.size, 6, none⟩ = some (.int .i64 s.f6) ∧ w'.cell? ⟨w.heap.size, 7, none⟩ = some (.int .i64 s.f7) ∧ w'.cell? ⟨w.heap.size, 8, none⟩ = some (.int .i64 s.f8) ∧ w'.cell? ⟨w.heap.size, 9, none⟩ = some (.int .i64 s.f9) ∧ w'.cell? ⟨gg, 0, none⟩ = some (.slice B0 us.length d0) ∧ w'.cell? ⟨gg, 4, none⟩ = some (.int .i64 nx) ∧ w'.cell? ⟨gc, 0, none⟩ = some (.int .i64 ip) ∧ w'.cell? ⟨gc, 1, none⟩ = some (.int .i64 b)) 39 ⟨blk_cell HX.out 0, blk_cell HX.out 1, blk_cell HX.out 2, blk_cell HX.out 3, blk_cell HX.out 4, blk_cell HX.out 5, blk_cell HX.out 6, blk_cell HX.out 7, blk_cell HX.out 8, blk_cell HX.out 9, blk_cell hg2 0, blk_cell hg2 4, blk_cell hc2 0, blk_cell hc2 1⟩ (fun hs => ?_)
    have n_ := Aside0.mk (below_drew1 HB.out)
    clear HB
    have HB := n_
    clear n_
    have n_ := Aside0.mk (blk_drew HX.out)
    clear HX
    have HX := n_
    clear n_
    refine qP 0 8 ?_
    refine qP 2 10 ?_
    refine qP 3 11 ?_
    refine qP 4 12 ?_
    refine qT 1 9 hs ?_
    refine qT 5 13 hs ?_
    refine qP 6 14 ?_
    refine q1 7 15 (fun K hK => ?_)
    refine qC Tryz.func47 _ ?_
    refine (iIn1 _ _ _ _).mono ?_
    intro e w2 h2
    obtain ⟨rfl, hb⟩ := h2.yes K1.out
    have n_ := Aside0.mk (below_step HB.out hb)
    clear HB
    have HB := n_
    clear n_
    have n_ := Aside0.mk (blk_below HX.out hb)
    clear HX
    have HX := n_
    clear n_
    refine ⟨_, rfl, hK.out _ _ ⟨pw_cell_below hb hs.1, pw_cell_below hb hs.2.1, pw_cell_below hb hs.2.2.1, pw_cell_below hb hs.2.2.2.1, pw_cell_below hb hs.2.2.2.2.1, pw_cell_below hb hs.2.2.2.2.2.1, pw_cell_below hb hs.2.2.2.2.2.2.1, pw_cell_below hb hs.2.2.2.2.2.2.2.1, pw_cell_below hb hs.2.2.2.2.2.2.2.2.1, pw_cell_below hb hs.2.2.2.2.2.2.2.2.2.1, pw_cell_below hb hs.2.2.2.2.2.2.2.2.2.2.1, pw_cell_below hb hs.2.2.2.2.2.2.2.2.2.2.2.1, pw_cell_below hb hs.2.2.2.2.2.2.2.2.2.2.2.2.1, pw_cell_below hb hs.2.2.2.2.2.2.2.2.2.2.2.2.2⟩ (fun hs2 => ?_)⟩
    clear hK K hs hb
    have hs := hs2
    clear hs2
    refine qN ?_
    refine qP 8 16 ?_
    refine qP 9 17 ?_
    refine qP 11 19 ?_
    refine qP 12 20 ?_
    refine qP 13 21 ?_
    refine qT 10 18 hs ?_
    refine qT 14 22 hs ?_
    refine qP 15 23 ?_
    refine qP 16 24 ?_
    refine q1 17 25 (fun K hK => ?_)
    refine qC Tryz.func47 _ ?_
    refine (iIn1 _ _ _ _).mono ?_
    intro e w2 h2
    obtain ⟨rfl, hb⟩ := h2.yes K2.out
    have n_ := Aside0.mk (below_step HB.out hb)
    clear HB
    have HB := n_
    clear n_
    have n_ := Aside0.mk (blk_below HX.out hb)
    clear HX
    have HX := n_
    clear n_
    refine ⟨_, rfl, hK.out _ _ ⟨pw_cell_below hb hs.1, pw_cell_below hb hs.2.1, pw_cell_below hb hs.2.2.1, pw_cell_below hb hs.2.2.2.1, pw_cell_below hb hs.2.2.2.2.1, pw_cell_below hb hs.2.2.2.2.2.1, pw_cell_below hb hs.2.2.2.2.2.2.1, pw_cell_below hb hs.2.2.2.2.2.2.2.1, pw_cell_below hb hs.2.2.2.2.2.2.2.2.1, pw_cell_below hb hs.2.2.2.2.2.2.2.2.2.1, pw_cell_below hb hs.2.2.2.2.2.2.2.2.2.2.1, pw_cell_below hb hs.2.2.2.2.2.2.2.2.2.2.2.1, pw_cell_below hb hs.2.2.2.2.2.2.2.2.2.2.2.2.1, pw_cell_below hb hs.2.2.2.2.2.2.2.2.2.2.2.2.2⟩ (fun hs2 => ?_)⟩
    clear hK K hs hb
    have hs := hs2
    clear hs2
    refine qN ?_
    refine qP 18 26 ?_
    refine qP 19 27 ?_
    refine qP 20 28 ?_
    refine qT 21 29 hs ?_
    refine q1 22 30 (fun K hK => ?_)
    refine qC Tryz.func103 _ ?_
    refine (iMac1 _ _ z2).mono ?_
    intro e w2 h2
    obtain ⟨rfl, hb⟩ := h2.yes K3.out
    have n_ := Aside0.mk (below_step HB.out hb)
    clear HB
    have HB := n_
    clear n_
    have n_ := Aside0.mk (blk_below HX.out hb)
    clear HX
    have HX := n_
    clear n_
    refine ⟨_, rfl, hK.out _ _ ⟨pw_cell_below hb hs.1, pw_cell_below hb hs.2.1, pw_cell_below hb hs.2.2.1, pw_cell_below hb hs.2.2.2.1, pw_cell_below hb hs.2.2.2.2.1, pw_cell_below hb hs.2.2.2.2.2.1, pw_cell_below hb hs.2.2.2.2.2.2.1, pw_cell_below hb hs.2.2.2.2.2.2.2.1, pw_cell_below hb hs.2.2.2.2.2.2.2.2.1, pw_cell_below hb hs.2.2.2.2.2.2.2.2.2.1, pw_cell_below hb hs.2.2.2.2.2.2.2.2.2.2.1, pw_cell_below hb hs.2.2.2.2.2.2.2.2.2.2.2.1, pw_cell_below hb hs.2.2.2.2.2.2.2.2.2.2.2.2.1, pw_cell_below hb hs.2.2.2.2.2.2.2.2.2.2.2.2.2⟩ (fun hs2 => ?_)⟩
    clear hK K hs hb
    have hs := hs2
    clear hs2
    refine qN ?_
    refine qP 23 31 ?_
    refine qP 24 32 ?_
    refine qP 25 33 ?_
    refine qT 26 34 hs ?_
    refine q1 27 35 (fun K hK => ?_)
    refine qC Tryz.func101 _ ?_
    refine (iIp1 _ _).mono ?_
    intro e w2 h2
    obtain ⟨rfl, hb⟩ := h2.yes K4.out
    have n_ := Aside0.mk (below_step HB.out hb)
    clear HB
    have HB := n_
    clear n_
    have n_ := Aside0.mk (blk_below HX.out hb)
    clear HX
    have HX := n_
    clear n_
    refine ⟨_, rfl, hK.out _ _ ⟨pw_cell_below hb hs.1, pw_cell_below hb hs.2.1, pw_cell_below hb hs.2.2.1, pw_cell_below hb hs.2.2.2.1, pw_cell_below hb hs.2.2.2.2.1, pw_cell_below hb hs.2.2.2.2.2.1, pw_cell_below hb hs.2.2.2.2.2.2.1, pw_cell_below hb hs.2.2.2.2.2.2.2.1, pw_cell_below hb hs.2.2.2.2.2.2.2.2.1, pw_cell_below hb hs.2.2.2.2.2.2.2.2.2.1, pw_cell_below hb hs.2.2.2.2.2.2.2.2.2.2.1, pw_cell_below hb hs.2.2.2.2.2.2.2.2.2.2.2.1, pw_cell_below hb hs.2.2.2.2.2.2.2.2.2.2.2.2.1, pw_cell_below hb hs.2.2.2.2.2.2.2.2.2.2.2.2.2⟩ (fun hs2 => ?_)⟩
    clear hK K hs hb
    have hs := hs2
    clear hs2
    refine qN ?_
    refine qP 28 36 ?_
    refine qP 29 37 ?_
    refine qP 30 38 ?_
    refine qP 31 39 ?_
    refine qP 32 40 ?_
    refine qP 34 42 ?_
    refine qT 33 41 hs ?_
    refine qT 35 43 hs ?_
    refine q1 36 44 (fun K hK => ?_)
    refine qC Tryz.func102 _ ?_
    refine (iHas1 _ _ _ _ kb0 kb1).mono ?_
    intro e w2 h2
    obtain ⟨rfl, hb⟩ := h2.no K5.out
    have n_ := Aside0.mk (below_step HB.out hb)
    clear HB
    have HB := n_
    clear n_
    have n_ := Aside0.mk (blk_below HX.out hb)
    clear HX
    have HX := n_
    clear n_
    refine ⟨_, rfl, hK.out _ _ ⟨pw_cell_below hb hs.1, pw_cell_below hb hs.2.1, pw_cell_below hb hs.2.2.1, pw_cell_below hb hs.2.2.2.1, pw_cell_below hb hs.2.2.2.2.1, pw_cell_below hb hs.2.2.2.2.2.1, pw_cell_below hb hs.2.2.2.2.2.2.1, pw_cell_below hb hs.2.2.2.2.2.2.2.1, pw_cell_below hb hs.2.2.2.2.2.2.2.2.1, pw_cell_below hb hs.2.2.2.2.2.2.2.2.2.1, pw_cell_below hb hs.2.2.2.2.2.2.2.2.2.2.1, pw_cell_below hb hs.2.2.2.2.2.2.2.2.2.2.2.1, pw_cell_below hb hs.2.2.2.2.2.2.2.2.2.2.2.2.1, pw_cell_below hb hs.2.2.2.2.2.2.2.2.2.2.2.2.2⟩ (fun hs2 => ?_)⟩
    clear hK K hs hb
    have hs := hs2
    clear hs2
    refine qN ?_
    refine qP 37 45 ?_
    refine qP 38 7 ?_
    refine qD ?_
    clear hs
    clear hg2 hc2 hw1 hw2
    go_wp2
    go_ret
    exact .inr ⟨rfl, fun h => K5.out h.2.2.2.2.1, HB.out⟩
  refine qS (fun w' => w'.cell? ⟨w.heap.size, 0, none⟩ = some (.int .i64 s.f0) ∧ w'.cell? ⟨w.heap.size, 1, none⟩ = some (.int .i64 s.f1) ∧ w'.cell? ⟨w.heap.size, 2, none⟩ = some (.string s.f2) ∧ w'.cell? ⟨w.heap.size, 3, none⟩ = some (.int .i64 s.f3) ∧ w'.cell? ⟨w.heap.size, 4, none⟩ = some (.int .i64 s.f4) ∧ w'.cell? ⟨w.heap.size, 5, none⟩ = some (.int .i64 s.f5) ∧ w'.cell? ⟨w.heap.size, 6, none⟩ = some (.int .i64 s.f6) ∧ w'.cell? ⟨w.heap.size, 7, none⟩ = some (.int .i64 s.f7) ∧ w'.cell? ⟨w.heap.size, 8, none⟩ = some (.int .i64 s.f8) ∧ w'.cell? ⟨w.heap.size, 9, none⟩ = some (.int .i64 s.f9) ∧ w'.cell? ⟨gg, 0, none⟩ = some (.slice B0 us.length d0) ∧ w'.cell? ⟨gg, 4, none⟩ = some (.int .i64 nx) ∧ w'.cell? ⟨gc, 0, none⟩ = some (.int .i64 ip) ∧ w'.cell? ⟨gc, 1, none⟩ = some (.int .i64 b)) 39 ⟨blk_cell HX.out 0, blk_cell HX.out 1, blk_cell HX.out 2, blk_cell HX.out 3, blk_cell HX.out 4, blk_cell HX.out 5, blk_cell HX.out 6, blk_cell HX.out 7, blk_cell HX.out 8, blk_cell HX.out 9, blk_cell hg2 0, blk_cell hg2 4, blk_cell hc2 0, blk_cell hc2 1⟩ (fun hs => ?_)
  have n_ := Aside0.mk (below_drew1 HB.out)
  clear HB
  have HB := n_
  clear n_
  have n_ := Aside0.mk (blk_drew HX.out)
  clear HX
  have HX := n_
  clear n_
  refine qP 0 8 ?_
  refine qP 2 10 ?_
  refine qP 3 11 ?_
  refine qP 4 12 ?_
  refine qT 1 9 hs ?_
  refine qT 5 13 hs ?_
  refine qP 6 14 ?_
  refine q1 7 15 (fun K hK => ?_)
  refine qC Tryz.func47 _ ?_
  refine (iIn1 _ _ _ _).mono ?_
  intro e w2 h2
  obtain ⟨rfl, hb⟩ := h2.yes K1.out
  have n_ := Aside0.mk (below_step HB.out hb)
  clear HB
  have HB := n_
  clear n_
  have n_ := Aside0.mk (blk_below HX.out hb)
  clear HX
  have HX := n_
  clear n_
  refine ⟨_, rfl, hK.out _ _ ⟨pw_cell_below hb hs.1, pw_cell_below hb hs.2.1, pw_cell_below hb hs.2.2.1, pw_cell_below hb hs.2.2.2.1, pw_cell_below hb hs.2.2.2.2.1, pw_cell_below hb hs.2.2.2.2.2.1, pw_cell_below hb hs.2.2.2.2.2.2.1, pw_cell_below hb hs.2.2.2.2.2.2.2.1, pw_cell_below hb hs.2.2.2.2.2.2.2.2.1, pw_cell_below hb hs.2.2.2.2.2.2.2.2.2.1, pw_cell_below hb hs.2.2.2.2.2.2.2.2.2.2.1, pw_cell_below hb hs.2.2.2.2.2.2.2.2.2.2.2.1, pw_cell_below hb hs.2.2.2.2.2.2.2.2.2.2.2.2.1, pw_cell_below hb hs.2.2.2.2.2.2.2.2.2.2.2.2.2⟩ (fun hs2 => ?_)⟩
  clear hK K hs hb
  have hs := hs2
  clear hs2
  refine qN ?_
  refine qP 8 16 ?_
  refine qP 9 17 ?_
  refine qP 11 19 ?_
  refine qP 12 20 ?_
  refine qP 13 21 ?_
  refine qT 10 18 hs ?_
  refine qT 14 22 hs ?_
  refine qP 15 23 ?_
  refine qP 16 24 ?_
  refine q1 17 25 (fun K hK => ?_)
  refine qC Tryz.func47 _ ?_
  refine (iIn1 _ _ _ _).mono ?_
  intro e w2 h2
  obtain ⟨rfl, hb⟩ := h2.yes K2.out
  have n_ := Aside0.mk (below_step HB.out hb)
  clear HB
  have HB := n_
  clear n_
  have n_ := Aside0.mk (blk_below HX.out hb)
  clear HX
  have HX := n_
  clear n_
  refine ⟨_, rfl, hK.out _ _ ⟨pw_cell_below hb hs.1, pw_cell_below hb hs.2.1, pw_cell_below hb hs.2.2.1, pw_cell_below hb hs.2.2.2.1, pw_cell_below hb hs.2.2.2.2.1, pw_cell_below hb hs.2.2.2.2.2.1, pw_cell_below hb hs.2.2.2.2.2.2.1, pw_cell_below hb hs.2.2.2.2.2.2.2.1, pw_cell_below hb hs.2.2.2.2.2.2.2.2.1, pw_cell_below hb hs.2.2.2.2.2.2.2.2.2.1, pw_cell_below hb hs.2.2.2.2.2.2.2.2.2.2.1, pw_cell_below hb hs.2.2.2.2.2.2.2.2.2.2.2.1, pw_cell_below hb hs.2.2.2.2.2.2.2.2.2.2.2.2.1, pw_cell_below hb hs.2.2.2.2.2.2.2.2.2.2.2.2.2⟩ (fun hs2 => ?_)⟩
  clear hK K hs hb
  have hs := hs2
  clear hs2
  refine qN ?_
  refine qP 18 26 ?_
  refine qP 19 27 ?_
  refine qP 20 28 ?_
  refine qT 21 29 hs ?_
  refine q1 22 30 (fun K hK => ?_)
  refine qC Tryz.func103 _ ?_
  refine (iMac1 _ _ z2).mono ?_
  intro e w2 h2
  obtain ⟨rfl, hb⟩ := h2.yes K3.out
  have n_ := Aside0.mk (below_step HB.out hb)
  clear HB
  have HB := n_
  clear n_
  have n_ := Aside0.mk (blk_below HX.out hb)
  clear HX
  have HX := n_
  clear n_
  refine ⟨_, rfl, hK.out _ _ ⟨pw_cell_below hb hs.1, pw_cell_below hb hs.2.1, pw_cell_below hb hs.2.2.1, pw_cell_below hb hs.2.2.2.1, pw_cell_below hb hs.2.2.2.2.1, pw_cell_below hb hs.2.2.2.2.2.1, pw_cell_below hb hs.2.2.2.2.2.2.1, pw_cell_below hb hs.2.2.2.2.2.2.2.1, pw_cell_below hb hs.2.2.2.2.2.2.2.2.1, pw_cell_below hb hs.2.2.2.2.2.2.2.2.2.1, pw_cell_below hb hs.2.2.2.2.2.2.2.2.2.2.1, pw_cell_below hb hs.2.2.2.2.2.2.2.2.2.2.2.1, pw_cell_below hb hs.2.2.2.2.2.2.2.2.2.2.2.2.1, pw_cell_below hb hs.2.2.2.2.2.2.2.2.2.2.2.2.2⟩ (fun hs2 => ?_)⟩
  clear hK K hs hb
  have hs := hs2
  clear hs2
  refine qN ?_
  refine qP 23 31 ?_
  refine qP 24 32 ?_
  refine qP 25 33 ?_
  refine qT 26 34 hs ?_
  refine q1 27 35 (fun K hK => ?_)
  refine qC Tryz.func101 _ ?_
  refine (iIp1 _ _).mono ?_
  intro e w2 h2
  obtain ⟨rfl, hb⟩ := h2.yes K4.out
  have n_ := Aside0.mk (below_step HB.out hb)
  clear HB
  have HB := n_
  clear n_
  have n_ := Aside0.mk (blk_below HX.out hb)
  clear HX
  have HX := n_
  clear n_
  refine ⟨_, rfl, hK.out _ _ ⟨pw_cell_below hb hs.1, pw_cell_below hb hs.2.1, pw_cell_below hb hs.2.2.1, pw_cell_below hb hs.2.2.2.1, pw_cell_below hb hs.2.2.2.2.1, pw_cell_below hb hs.2.2.2.2.2.1, pw_cell_below hb hs.2.2.2.2.2.2.1, pw_cell_below hb hs.2.2.2.2.2.2.2.1, pw_cell_below hb hs.2.2.2.2.2.2.2.2.1, pw_cell_below hb hs.2.2.2.2.2.2.2.2.2.1, pw_cell_below hb hs.2.2.2.2.2.2.2.2.2.2.1, pw_cell_below hb hs.2.2.2.2.2.2.2.2.2.2.2.1, pw_cell_below hb hs.2.2.2.2.2.2.2.2.2.2.2.2.1, pw_cell_below hb hs.2.2.2.2.2.2.2.2.2.2.2.2.2⟩ (fun hs2 => ?_)⟩
  clear hK K hs hb
  have hs := hs2
  clear hs2
  refine qN ?_
  refine qP 28 36 ?_
  refine qP 29 37 ?_
  refine qP 30 38 ?_
  refine qP 31 39 ?_
  refine qP 32 40 ?_
  refine qP 34 42 ?_
  refine qT 33 41 hs ?_
  refine qT 35 43 hs ?_
  refine q1 36 44 (fun K hK => ?_)
  refine qC Tryz.func102 _ ?_
  refine (iHas1 _ _ _ _ kb0 kb1).mono ?_
  intro e w2 h2
  obtain ⟨rfl, hb⟩ := h2.yes K5.out
  have n_ := Aside0.mk (below_step HB.out hb)
  clear HB
  have HB := n_
  clear n_
  have n_ := Aside0.mk (blk_below HX.out hb)
  clear HX
  have HX := n_
  clear n_
  refine ⟨_, rfl, hK.out _ _ ⟨pw_cell_below hb hs.1, pw_cell_below hb hs.2.1, pw_cell_below hb hs.2.2.1, pw_cell_below hb hs.2.2.2.1, pw_cell_below hb hs.2.2.2.2.1, pw_cell_below hb hs.2.2.2.2.2.1, pw_cell_below hb hs.2.2.2.2.2.2.1, pw_cell_below hb hs.2.2.2.2.2.2.2.1, pw_cell_below hb hs.2.2.2.2.2.2.2.2.1, pw_cell_below hb hs.2.2.2.2.2.2.2.2.2.1, pw_cell_below hb hs.2.2.2.2.2.2.2.2.2.2.1, pw_cell_below hb hs.2.2.2.2.2.2.2.2.2.2.2.1, pw_cell_below hb hs.2.2.2.2.2.2.2.2.2.2.2.2.1, pw_cell_below hb hs.2.2.2.2.2.2.2.2.2.2.2.2.2⟩ (fun hs2 => ?_)⟩
  clear hK K hs hb
  have hs := hs2
  clear hs2
  refine qN ?_
  refine qP 37 45 ?_
  refine qP 38 7 ?_
  refine qD ?_
  clear hs
  clear hg2 hc2 hw1 hw2
  have HP := Aside0.mk True.intro
  have hx := blk_cell HX.out
  have hzr := blk_lt HX.out
  go_wp2_with (first
    | (go_at_call 113; refine (iTime1 _ _).mono ?_; rintro e w2 (⟨rfl, hr, hb⟩ | ⟨rfl, hr, hb⟩) <;> (have n_ := Aside0.mk (And.intro hr HP.out); clear HP hr; have HP := n_; clear n_; have n_ := Aside0.mk (below_step (w := w) (by repeat' (with_reducible first | exact HB.out | apply below_alloc | apply below_drew1 | refine below_set ?_ (by omega))) hb); clear HB; have HB := n_; clear n_; have n_ := Aside0.mk (blk_below (g := w.heap.size) (o := .cells #[.int .i64 s.f0, .int .i64 s.f1, .string s.f2, .int .i64 s.f3, .int .i64 s.f4, .int .i64 s.f5, .int .i64 s.f6, .int .i64 s.f7, .int .i64 s.f8, .int .i64 s.f9] 76 (0, 0)) (by repeat' (with_reducible first | exact HX.out | exact blk_new _ _ | refine blk_alloc ?_ _ | refine blk_drew ?_ | refine blk_far ?_ (by dsimp only; omega) _)) hb); (try clear HX); have HX := n_; clear n_; obtain ⟨hc, hf⟩ := bcell hb; have hz : w.heap.size < w2.heap.size := blk_lt HX.out; clear hb))
    | (go_at_call 47; refine (iIn1 _ _ _ _).mono ?_; rintro e w2 (⟨rfl, hr, hb⟩ | ⟨rfl, hr, hb⟩) <;> (have n_ := Aside0.mk (And.intro hr HP.out); clear HP hr; have HP := n_; clear n_; have n_ := Aside0.mk (below_step (w := w) (by repeat' (with_reducible first | exact HB.out | apply below_alloc | apply below_drew1 | refine below_set ?_ (by omega))) hb); clear HB; have HB := n_; clear n_; have n_ := Aside0.mk (blk_below (g := w.heap.size) (o := .cells #[.int .i64 s.f0, .int .i64 s.f1, .string s.f2, .int .i64 s.f3, .int .i64 s.f4, .int .i64 s.f5, .int .i64 s.f6, .int .i64 s.f7, .int .i64 s.f8, .int .i64 s.f9] 76 (0, 0)) (by repeat' (with_reducible first | exact HX.out | exact blk_new _ _ | refine blk_alloc ?_ _ | refine blk_drew ?_ | refine blk_far ?_ (by dsimp only; omega) _)) hb); (try clear HX); have HX := n_; clear n_; obtain ⟨hc, hf⟩ := bcell hb; have hz : w.heap.size < w2.heap.size := blk_lt HX.out; clear hb)))
  all_goals go_ret
  all_goals first
    | exact .inl ⟨rfl, ⟨K1.out, K2.out, K3.out, K4.out, K5.out, HP.out.2.2.2.2.2.1, HP.out.2.2.2.2.1, HP.out.2.2.2.1, HP.out.2.2.1, HP.out.2.1, HP.out.1⟩, HB.out⟩
    | exact .inr ⟨rfl, by rintro ⟨p1, p2, p3, p4, p5, p6, p7, p8, p9, p10, p11⟩; first | exact HP.out.1 p6 | exact HP.out.1 p7 | exact HP.out.1 p8 | exact HP.out.1 p9 | exact HP.out.1 p10 | exact HP.out.1 p11, HB.out⟩
end
end Go.Proofs.YtkklokkldgkacaaGreat.X
