/- The law Names: the eleven errors are different ones, for the one input that there is. Condition: the package-level variables hold what the program's text lays (the card ties them). -/
import Derived.Test.YtelecjnabeokeaaDoorCards
import Derived.Test.YtelecjnabeokeaaDoorTie
import Derived.Test.YtelecjnabeokeaaDoorWalks
import Derived.ChangeSame
import Derived.ChangeVars
import Derived.JoinedOf
import Derived.RowKit
import Derived.RowKitTokens
import Derived.LaidLaws
import Derived.SevenTiedAt
namespace Go.Proofs.YtelecjnabeokeaaDoor
open Go.ChangeShapes Go.WideShapes Go.RowKit

theorem Tryd.own : ownKnob Tryd.prog.godebug = none := by kernel_rfl
theorem Tryd.name27 : Tryd.prog.typeName? 3 27 = some "*errors.errorString" := by kernel_rfl
theorem Tryd.cells45 : Tryd.prog.cellsOf 45 = 1 := by kernel_rfl
theorem Tryd.cells9 : Tryd.prog.cellsOf 9 = 1 := by kernel_rfl
theorem Tryd.star : "*" ++ "errors.errorString" = "*errors.errorString" := by decide
theorem Tryd.row27 (u : TypeId) (h : Tryd.prog.typeName? 3 u = some "*errors.errorString") : u = 27 :=
  typeName_ptr_named (nm := "errors.errorString") (by rw [Tryd.star]; kernel_rfl) (by kernel_rfl) (by decide) u (by rw [Tryd.star]; exact h)

/-- A sentinel's datum. -/
def sent {H : Type} (s : List UInt8) : DataW H := .iface "*errors.errorString" (.ptr (.agg [.lit (.string s)]))

/-- What the laid premise says of one variable: it holds a pointer to a cell of that text. -/
structure Holds1 (W : World) (g : Nat) (s : List UInt8) (a : Addr) : Prop where
  var : W.cell? ⟨g, 0, none⟩ = some (ev a)
  cell : ∃ b : ByteArray, W.cell? a = some (.string b) ∧ b.data.toList = s
  row : ∃ c t, W.heap[a.block]? = some (.cells c t (0, 0))

/-- One variable off the front of the laid list. -/
theorem one_of_laid {W : World} {n : String} {s : List UInt8} {r : List (String × DataW Unit)} {ps : List MemPlace} {g : Nat} (hg : Tryd.prog.globalNamed n = some g) (ht : (Tryd.prog.globals[g]?).map (·.type) = some 26)
    (h : DataW.LaidVars Tryd.prog W ((n, sent s) :: r) ps)
    (hrows : ∀ b off, MemPlace.cell b off ∈ ps → (∃ c t, W.heap[b]? = some (.cells c t (0, 0))) ∧ ∀ u v, W.cell? ⟨b, off, none⟩ = some (.iface u v) → Value.okWide Tryd.prog W .any 0 u v) :
    (∃ a, Holds1 W g s a) ∧ ∃ q, DataW.LaidVars Tryd.prog W r q ∧ ∀ b off, MemPlace.cell b off ∈ q → (∃ c t, W.heap[b]? = some (.cells c t (0, 0))) ∧ ∀ u v, W.cell? ⟨b, off, none⟩ = some (.iface u v) → Value.okWide Tryd.prog W .any 0 u v := by
  obtain ⟨g0, t0, cs0, f0, p0, q0, hg0, ht0, hv0, hd0, hq, e0⟩ := h
  obtain rfl := Option.some.inj (hg.symm.trans hg0)
  obtain rfl := Option.some.inj (ht.symm.trans ht0)
  subst e0
  obtain ⟨l0⟩ := cs0
  have ok0 : ∀ u v, l0 = [.iface u v] → Value.okWide Tryd.prog W .any 0 u v := fun u v e => by
    subst e
    exact (hrows g 0 (by simp [MemPlace.row])).2 u v (by simpa using World.var?_cell hg hv0 0)
  obtain ⟨a0, s0, rfl, hc0, hs0, _, rfl⟩ := errorString_of_trod Tryd.underlying26 Tryd.row27 Tryd.underlying27 Tryd.underlying45 rfl rfl Tryd.underlying9 Tryd.cells45 Tryd.cells9 hd0 ok0
  refine ⟨⟨a0, by simpa using World.var?_cell hg hv0 0, ⟨s0, hc0, hs0⟩, (hrows a0.block a0.off (by simp [MemPlace.row])).1⟩, q0, hq, fun b off hb => hrows b off (by simp [hb])⟩

theorem Holds1.ne {W : World} {g g' : Nat} {s s' : List UInt8} {a a' : Addr} (h : Holds1 W g s a) (h' : Holds1 W g' s' a') (hs : s ≠ s') : a ≠ a' := by
  rintro rfl
  obtain ⟨b, h1, h2⟩ := h.cell
  obtain ⟨b', h1', h2'⟩ := h'.cell
  rw [h1] at h1'
  obtain rfl : b = b' := by injection h1' with e; injection e
  exact hs (h2.symm.trans h2')

/-- The texts, by their places. -/
def txt : Nat → List UInt8
  | 0 => [110, 111, 32, 115, 117, 99, 104, 32, 115, 101, 115, 115, 105, 111, 110]
  | 1 => [110, 111, 32, 115, 117, 99, 104, 32, 99, 108, 105, 101, 110, 116]
  | 2 => [110, 111, 32, 114, 117, 110, 101]
  | 3 => [111, 117, 116, 32, 111, 102, 32, 114, 97, 110, 103, 101]
  | 4 => [97, 32, 108, 105, 110, 107, 32, 105, 115, 32, 102, 117, 108, 108]
  | 5 => [116, 111, 111, 32, 109, 97, 110, 121, 32, 99, 104, 97, 110, 103, 101, 115]
  | 6 => [97, 32, 108, 105, 110, 107, 32, 105, 115, 32, 101, 109, 112, 116, 121]
  | 7 => [110, 111, 32, 102, 114, 97, 109, 101]
  | 8 => [97, 32, 102, 114, 97, 109, 101, 32, 111, 117, 116, 32, 111, 102, 32, 111, 114, 100, 101, 114]
  | 9 => [97, 32, 102, 114, 97, 109, 101, 32, 116, 104, 97, 116, 32, 116, 101, 108, 108, 115, 32, 111, 102, 32, 119, 104, 97, 116, 32, 119, 97, 115, 32, 110, 111, 116, 32, 115, 101, 110, 116]
  | 10 => [116, 104, 101, 32, 115, 101, 115, 115, 105, 111, 110, 32, 104, 97, 115, 32, 98, 101, 101, 110, 32, 115, 116, 111, 112, 112, 101, 100]
  | _ => []
theorem txt_ne : ∀ i, i < 11 → ∀ j, j < 11 → i ≠ j → txt i ≠ txt j := by decide +kernel
theorem Tryd.g0 : Tryd.prog.globalNamed "coedit/coedit.ErrShape" = some 0 := by kernel_rfl
theorem Tryd.gt0 : (Tryd.prog.globals[0]?).map (·.type) = some 26 := by kernel_rfl
theorem Tryd.g1 : Tryd.prog.globalNamed "coedit/coedit.ErrClient" = some 1 := by kernel_rfl
theorem Tryd.gt1 : (Tryd.prog.globals[1]?).map (·.type) = some 26 := by kernel_rfl
theorem Tryd.g2 : Tryd.prog.globalNamed "coedit/coedit.ErrRune" = some 2 := by kernel_rfl
theorem Tryd.gt2 : (Tryd.prog.globals[2]?).map (·.type) = some 26 := by kernel_rfl
theorem Tryd.g3 : Tryd.prog.globalNamed "coedit/coedit.ErrRange" = some 3 := by kernel_rfl
theorem Tryd.gt3 : (Tryd.prog.globals[3]?).map (·.type) = some 26 := by kernel_rfl
theorem Tryd.g4 : Tryd.prog.globalNamed "coedit/coedit.ErrFull" = some 4 := by kernel_rfl
theorem Tryd.gt4 : (Tryd.prog.globals[4]?).map (·.type) = some 26 := by kernel_rfl
theorem Tryd.g5 : Tryd.prog.globalNamed "coedit/coedit.ErrMany" = some 5 := by kernel_rfl
theorem Tryd.gt5 : (Tryd.prog.globals[5]?).map (·.type) = some 26 := by kernel_rfl
theorem Tryd.g6 : Tryd.prog.globalNamed "coedit/coedit.ErrEmpty" = some 6 := by kernel_rfl
theorem Tryd.gt6 : (Tryd.prog.globals[6]?).map (·.type) = some 26 := by kernel_rfl
theorem Tryd.g7 : Tryd.prog.globalNamed "coedit/coedit.ErrFrame" = some 7 := by kernel_rfl
theorem Tryd.gt7 : (Tryd.prog.globals[7]?).map (·.type) = some 26 := by kernel_rfl
theorem Tryd.g8 : Tryd.prog.globalNamed "coedit/coedit.ErrOrder" = some 8 := by kernel_rfl
theorem Tryd.gt8 : (Tryd.prog.globals[8]?).map (·.type) = some 26 := by kernel_rfl
theorem Tryd.g9 : Tryd.prog.globalNamed "coedit/coedit.ErrAck" = some 9 := by kernel_rfl
theorem Tryd.gt9 : (Tryd.prog.globals[9]?).map (·.type) = some 26 := by kernel_rfl
theorem Tryd.g10 : Tryd.prog.globalNamed "coedit/coedit.ErrStopped" = some 10 := by kernel_rfl
theorem Tryd.gt10 : (Tryd.prog.globals[10]?).map (·.type) = some 26 := by kernel_rfl

/-- WHAT THE LAID PREMISE GIVES A WALK. -/
theorem all_of_laid {W : World} (h : laidMet Tryd.prog Rows.namesRow.laid W) : ∃ f : Nat → Addr, ∀ k, k < 11 → Holds1 W k (txt k) (f k) := by
  obtain ⟨ps, h0, _, r0⟩ := h
  obtain ⟨⟨a0, k0⟩, q1, h1, r1⟩ := one_of_laid (s := txt 0) Tryd.g0 Tryd.gt0 h0 r0
  obtain ⟨⟨a1, k1⟩, q2, h2, r2⟩ := one_of_laid (s := txt 1) Tryd.g1 Tryd.gt1 h1 r1
  obtain ⟨⟨a2, k2⟩, q3, h3, r3⟩ := one_of_laid (s := txt 2) Tryd.g2 Tryd.gt2 h2 r2
  obtain ⟨⟨a3, k3⟩, q4, h4, r4⟩ := one_of_laid (s := txt 3) Tryd.g3 Tryd.gt3 h3 r3
  obtain ⟨⟨a4, k4⟩, q5, h5, r5⟩ := one_of_laid (s := txt 4) Tryd.g4 Tryd.gt4 h4 r4
  obtain ⟨⟨a5, k5⟩, q6, h6, r6⟩ := one_of_laid (s := txt 5) Tryd.g5 Tryd.gt5 h5 r5
  obtain ⟨⟨a6, k6⟩, q7, h7, r7⟩ := one_of_laid (s := txt 6) Tryd.g6 Tryd.gt6 h6 r6
  obtain ⟨⟨a7, k7⟩, q8, h8, r8⟩ := one_of_laid (s := txt 7) Tryd.g7 Tryd.gt7 h7 r7
  obtain ⟨⟨a8, k8⟩, q9, h9, r9⟩ := one_of_laid (s := txt 8) Tryd.g8 Tryd.gt8 h8 r8
  obtain ⟨⟨a9, k9⟩, q10, h10, r10⟩ := one_of_laid (s := txt 9) Tryd.g9 Tryd.gt9 h9 r9
  obtain ⟨⟨a10, k10⟩, q11, h11, r11⟩ := one_of_laid (s := txt 10) Tryd.g10 Tryd.gt10 h10 r10
  refine ⟨fun k => match k with | 0 => a0 | 1 => a1 | 2 => a2 | 3 => a3 | 4 => a4 | 5 => a5 | 6 => a6 | 7 => a7 | 8 => a8 | 9 => a9 | 10 => a10 | _ => a0, fun k hk => ?_⟩
  match k, hk with
  | 0, _ => exact k0
  | 1, _ => exact k1
  | 2, _ => exact k2
  | 3, _ => exact k3
  | 4, _ => exact k4
  | 5, _ => exact k5
  | 6, _ => exact k6
  | 7, _ => exact k7
  | 8, _ => exact k8
  | 9, _ => exact k9
  | 10, _ => exact k10
  | k + 11, hk => omega

theorem eleven {W : World} {f : Nat → Addr} {c : Array Value} (h : ∀ k, k < 11 → Holds1 W k (txt k) (f k)) (hc : ∀ k, k < 11 → c[k]? = some (ev (f k))) : Eleven W.heap.size f (W.alloc (.cells c 26)) := by
  refine ⟨fun k hk => ?_, fun i j hi hj hne => (h i hi).ne (h j hj) (txt_ne i hi j hj hne), fun k hk => ?_⟩
  · rw [World.cell?_alloc_at _ _ _ _ rfl]; exact hc k hk
  · obtain ⟨c', t, hr⟩ := (h k hk).row
    refine ⟨c', t, ?_⟩
    have hlt : (f k).block < W.heap.size := (Array.getElem?_eq_some_iff.1 hr).1
    show (W.heap.push _)[(f k).block]? = _
    rw [Array.getElem?_push, if_neg (by omega)]
    exact hr

theorem law_any {W : World} (h : laidMet Tryd.prog Rows.namesRow.laid W) : Calls Tryd.prog 3 #[] W fun e W' => e = .returned (.bool true) ∧ ∃ o, W' = W.alloc o := by
  obtain ⟨f, hf⟩ := all_of_laid h
  refine (names_any W _ (different_any W.heap.size f W _ (eleven hf (c := #[ev (f 0), ev (f 1), ev (f 2), ev (f 3), ev (f 4), ev (f 5), ev (f 6), ev (f 7), ev (f 8), ev (f 9), ev (f 10)]) ?_) (all_any (f 0) (f 1) (f 2) (f 3) (f 4) (f 5) (f 6) (f 7) (f 8) (f 9) (f 10) W (hf 0 (by omega)).var (hf 1 (by omega)).var (hf 2 (by omega)).var (hf 3 (by omega)).var (hf 4 (by omega)).var (hf 5 (by omega)).var (hf 6 (by omega)).var (hf 7 (by omega)).var (hf 8 (by omega)).var (hf 9 (by omega)).var (hf 10 (by omega)).var))).mono fun e W' ⟨he, hw⟩ => ⟨he, _, hw⟩
  intro k hk
  match k, hk with
  | 0, _ => rfl
  | 1, _ => rfl
  | 2, _ => rfl
  | 3, _ => rfl
  | 4, _ => rfl
  | 5, _ => rfl
  | 6, _ => rfl
  | 7, _ => rfl
  | 8, _ => rfl
  | 9, _ => rfl
  | 10, _ => rfl
  | k + 11, hk => omega

/-- How many blocks lie below a call's own. -/
noncomputable def low : Nat := (World.holding Tryd.prog default ⟨#[], #[], []⟩).heap.size
/-- A world that meets the condition: the settled one, the variables' cells laid. -/
noncomputable def laidWorld (os : Os) : World :=
  let w0 := World.holding Tryd.prog os ⟨#[.cells #[.string ⟨(txt 0).toArray⟩] 45, .cells #[.string ⟨(txt 1).toArray⟩] 45, .cells #[.string ⟨(txt 2).toArray⟩] 45, .cells #[.string ⟨(txt 3).toArray⟩] 45, .cells #[.string ⟨(txt 4).toArray⟩] 45, .cells #[.string ⟨(txt 5).toArray⟩] 45, .cells #[.string ⟨(txt 6).toArray⟩] 45, .cells #[.string ⟨(txt 7).toArray⟩] 45, .cells #[.string ⟨(txt 8).toArray⟩] 45, .cells #[.string ⟨(txt 9).toArray⟩] 45, .cells #[.string ⟨(txt 10).toArray⟩] 45], #[], []⟩
  { w0 with heap := (List.range 11).foldl (fun h k => h.modify k fun
      | .cells _ t frozen => .cells #[ev ⟨low + k, 0, none⟩] t frozen
      | o => o) w0.heap }
theorem laidWorld_met (os : Os) (args : Array Value) : laidMet Tryd.prog Rows.namesRow.laid ((laidWorld os).forCall (fun _ _ => 0) ⟨#[], args, []⟩).memory :=
  laidMet_of_run (ps := [.cell 0 0, .cell (low + 0) 0, .cell 1 0, .cell (low + 1) 0, .cell 2 0, .cell (low + 2) 0, .cell 3 0, .cell (low + 3) 0, .cell 4 0, .cell (low + 4) 0, .cell 5 0, .cell (low + 5) 0, .cell 6 0, .cell (low + 6) 0, .cell 7 0, .cell (low + 7) 0, .cell 8 0, .cell (low + 8) 0, .cell 9 0, .cell (low + 9) 0, .cell 10 0, .cell (low + 10) 0]) 8 (by kernel_rfl) (by kernel_rfl) (by kernel_rfl)

set_option maxRecDepth 100000 in
theorem law_lifted (os : Os) (started : os.Started) (H : Type) (enc : TypeId × Value → H) :
    ReturnsInHanded {} Tryd.checked os 3 .any (fun w args => (Rows.namesSpec.pre enc Tryd.prog Tryd.f3 [] false w args ∧ laidMet Tryd.prog Rows.namesRow.laid w) ∧ sizedMet enc Tryd.prog Tryd.f3 (OpenSpec.ofChange Rows.namesSpec) false w args)
      (Rows.namesSpec.post enc Tryd.prog Tryd.f3 false true false false) := by
  refine returnsInHanded_of_change_and (C := Tryd.checked) (X := fun w _ => laidMet Tryd.prog Rows.namesRow.laid w) (fun _ _ _ hh h => h.of_heap hh) Tryd.own started (by kernel_rfl) Tryd.func3
    (ChangeSpec.witness_at (enc := enc) (C := Tryd.checked) (os := os) (X := fun w _ => laidMet Tryd.prog Rows.namesRow.laid w) false (laidWorld os) #[] 8 rfl (by kernel_rfl) (by kernel_rfl) (by kernel_rfl) (by kernel_rfl) (by kernel_rfl) (laidWorld_met os _)) ?_
  intro W base args ds gs before hval0 hW _ _ hL _
  have hW' := hW
  obtain ⟨p, q, hA0, hV0, rfl, hfz, hnd⟩ := hW
  have hA : DataW.TrodAll enc Tryd.prog W 0 (fun _ => true) true Tryd.f3.params.toList args.toList ds p := hA0
  have hV : DataW.TrodVars enc Tryd.prog W (fun _ => true) [] gs q := hV0
  rw [Tryd.params3] at hA
  obtain ⟨he, rfl, rfl⟩ := trodAll_nil hA
  obtain rfl : args = #[] := by simpa using he
  obtain ⟨rfl, rfl⟩ : gs = [] ∧ q = [] := by
    cases gs with
    | nil => exact ⟨rfl, hV⟩
    | cons g r => exact absurd hV (by intro h; cases h)
  refine (law_any hL).mono fun e W' ⟨he, o, hw⟩ => ?_
  subst he; subst hw
  have e1 : Rows.namesSpec.fn H ([] ++ []) = { results := [.lit (.bool true)], args := [] } := by simp [Rows.namesSpec]
  refine ⟨_, rfl, _, _, _, [], [], [], hW', ?_, ?_, ?_, World.keptBut_alloc _ _ _, fun h => by cases h⟩
  · rw [e1]; exact trodAll_mk1 (shut_bool Tryd.underlying4 true)
  · rw [e1]; exact hA
  · rw [e1]; rfl

theorem names_holds : Rows.NamesSaid :=
  OpenClaim.holds_of_wide 3 Tryd.f3 rfl rfl rfl rfl rfl rfl rfl ⟨rfl, rfl, rfl, rfl, rfl⟩ rfl rfl rfl rfl rfl (by kernel_rfl) Tryd.func3 (by kernel_rfl)
    (of_decide_eq_true (by kernel_rfl)) (by unfold Func.isWrapper; rw [if_neg (of_decide_eq_false (by kernel_rfl))]; exact ⟨rfl, rfl⟩)
    (fun os started H enc _ => law_lifted os started H enc)

/-- THE TIED CARD of Names. -/
theorem names_card : Rows.NamesCardSaid :=
  Claim7.holds_tied_plain_at .later [] [.sentinel, .sentinel, .sentinel, .sentinel, .sentinel, .sentinel, .sentinel, .wider, .sentinel, .sentinel, .sentinel] true (true, "1603c3ab29251a588c90b097ae0c7fb0b850a0e4c17d5b781fbf971010b7bd20") true
    names_holds (fun _ h => by cases h) (by kernel_rfl) (fun _ h => by cases h) names_row_tie rfl ⟨rfl, rfl⟩ (by kernel_rfl) rfl
    (fun f fn hf hfn => by
      obtain rfl : f = 3 := Option.some.inj ((show Tryd.prog.funcNamed "coedit/coeditlaw.Names" = some 3 by kernel_rfl).symm.trans hf) |>.symm
      obtain rfl : fn = Tryd.f3 := (Option.some.inj (Tryd.func3.symm.trans hfn)).symm
      exact ⟨by kernel_rfl, fun j t ht => by
        rw [Tryd.params3] at ht
        simp at ht⟩)
    (by kernel_rfl)
#print axioms names_card
end Go.Proofs.YtelecjnabeokeaaDoor
