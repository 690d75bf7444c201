/- The walks of coeditlaw.Names: the errors are different ones. Conditions: the eleven package-level variables hold eleven pointers to different cells. -/
import Derived.Test.YtelecjnabeokeaaDoorRows
import Derived.WalkKit
import Derived.LaidEql
import Derived.Lib.Hide
namespace Go.Proofs.YtelecjnabeokeaaDoor
open Go.RowKit

theorem Tryd.comp27 : (Tryd.prog.info? 27).map (·.comparable) = some true := by kernel_rfl
theorem Tryd.size45 : (Tryd.prog.info? 45).map (·.size) = some 1 := by kernel_rfl

/-- The value of an error variable. -/
abbrev ev (a : Addr) : Value := .iface 27 (.pointer (some a))

set_option maxRecDepth 100000 in
theorem all_any (a0 a1 a2 a3 a4 a5 a6 a7 a8 a9 a10 : Addr) (w : World)
    (h0 : w.cell? ⟨0, 0, none⟩ = some (ev a0)) (h1 : w.cell? ⟨1, 0, none⟩ = some (ev a1)) (h2 : w.cell? ⟨2, 0, none⟩ = some (ev a2))
    (h3 : w.cell? ⟨3, 0, none⟩ = some (ev a3)) (h4 : w.cell? ⟨4, 0, none⟩ = some (ev a4)) (h5 : w.cell? ⟨5, 0, none⟩ = some (ev a5))
    (h6 : w.cell? ⟨6, 0, none⟩ = some (ev a6)) (h7 : w.cell? ⟨7, 0, none⟩ = some (ev a7)) (h8 : w.cell? ⟨8, 0, none⟩ = some (ev a8))
    (h9 : w.cell? ⟨9, 0, none⟩ = some (ev a9)) (h10 : w.cell? ⟨10, 0, none⟩ = some (ev a10)) :
    Calls Tryd.prog 5 #[] w fun e w' => e = .returned (.slice (some ⟨w.heap.size, 0, none⟩) 11 11) ∧
      w' = w.alloc (.cells #[ev a0, ev a1, ev a2, ev a3, ev a4, ev a5, ev a6, ev a7, ev a8, ev a9, ev a10] 26) := by
  go_enter Tryd.func5, Tryd.ntmps5
  go_wp2
  go_ret
  exact ⟨rfl, rfl⟩

/-- The eleven addresses by their places. -/
def asOf (L : List Addr) (k : Nat) : Addr := L.getD k ⟨0, 0, none⟩

/-- What is known of the world: eleven cells of a block hold eleven different pointers. -/
structure Eleven (N : Nat) (f : Nat → Addr) (w : World) : Prop where
  cell : ∀ k, k < 11 → w.cell? ⟨N, k, none⟩ = some (ev (f k))
  ne : ∀ i j, i < 11 → j < 11 → i ≠ j → f i ≠ f j
  row : ∀ k, k < 11 → ∃ c t, w.heap[(f k).block]? = some (.cells c t (0, 0))

theorem eql_ne {N : Nat} {f : Nat → Addr} {w : World} (E : Eleven N f w) {i j : Nat} (hi : i < 11) (hj : j < 11) (h : j ≠ i) :
    (binOp .eql 26 (ev (f j)) (ev (f i))).run Tryd.prog w = .ok (.bool false) w := by
  obtain ⟨i', hi', hcmp⟩ := Option.map_eq_some_iff.1 Tryd.comp27
  obtain ⟨j', hj', hjs⟩ := Option.map_eq_some_iff.1 Tryd.size45
  obtain ⟨ca, ta, ha⟩ := E.row j hj
  obtain ⟨cb, tb, hb⟩ := E.row i hi
  exact run_eql_iface_ptr_other w Tryd.underlying26 Tryd.underlying27 hi' hcmp hj' (by rw [hjs]; decide) (E.ne j i hj hi h) ha hb

theorem eql_nil (a : Addr) (w : World) : (binOp .eql 26 (ev a) .nilIface).run Tryd.prog w = .ok (.bool false) w := by
  have h : ∀ d : Nat, (Op.equalIn (d + 1) 26 (ev a) .nilIface).run Tryd.prog w = .ok false w := fun d => by simp [Op.equalIn, run_underlying Tryd.underlying26]
  simp only [binOp]
  simp [Op.equal, Op.maxDepth, h 9999]

set_option maxRecDepth 100000 in
set_option maxHeartbeats 1000000 in
theorem different_any (N : Nat) (f : Nat → Addr) (w w1 : World) (E : Eleven N f w1)
    (hall : Calls Tryd.prog 5 #[] w fun e w' => e = .returned (.slice (some ⟨N, 0, none⟩) 11 11) ∧ w' = w1) :
    Calls Tryd.prog 4 #[] w fun e w' => e = .returned (.bool true) ∧ w' = w1 := by
  go_enter Tryd.func4, Tryd.ntmps4
  go_wp2_with (go_at_call 5; refine hall.mono ?_; rintro e w' ⟨rfl, rfl⟩)
  go_loop [2, 3, 4, 8] (fun _ _ _ i => ∃ k : Nat, k ≤ 11 ∧ i = .int .i64 k) (fun _ _ _ i => 11 - (intOf i).toNat)
  case atStart => exact ⟨0, by omega, rfl⟩
  case round =>
    obtain ⟨k, hk, rfl⟩ := hrel
    by_cases hlt : k < 11
    · have hc := E.cell k hlt
      go_wp2
      go_loop [4] (fun i => ∃ m : Nat, m ≤ k ∧ i = .int .i64 m) (fun i => k - (intOf i).toNat)
      case atStart => exact ⟨0, by omega, rfl⟩
      case round =>
        obtain ⟨m, hm, rfl⟩ := hrel
        by_cases hmk : m < k
        · have hcm := E.cell m (by omega)
          have hm11 : m < 11 := by omega
          have he := eql_ne E (i := k) (j := m) hlt (by omega) (by omega)
          go_wp2
          go_round
          case rel => exact ⟨m + 1, by omega, by go_num⟩
          case measure => simp [intOf]; omega
        · obtain rfl : m = k := by omega
          have hn := eql_nil (f m) w'
          go_wp2
          go_round
          case rel => exact ⟨m + 1, by omega, by go_num⟩
          case measure => simp [intOf]; omega
    · obtain rfl : k = 11 := by omega
      go_wp2
      go_ret
      exact ⟨rfl, rfl⟩

theorem names_any (w w1 : World)
    (hd : Calls Tryd.prog 4 #[] w fun e w' => e = .returned (.bool true) ∧ w' = w1) :
    Calls Tryd.prog 3 #[] w fun e w' => e = .returned (.bool true) ∧ w' = w1 := by
  go_enter Tryd.func3, Tryd.ntmps3
  go_wp2_with (go_at_call 4; refine hd.mono ?_; rintro e w' ⟨rfl, rfl⟩)
  go_ret
  exact ⟨rfl, rfl⟩

end Go.Proofs.YtelecjnabeokeaaDoor
