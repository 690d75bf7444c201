/- Orders. Part 1 of 6. -/
import Derived.Calls
import Derived.Lib.Hide
import Derived.Conc.Events
import Derived.Conc.Listed
import Derived.Conc.LoneSelect
import Derived.Deep.DeepFit
import Derived.Below
import Derived.Laws.Rows
import Derived.Maps.AppendAt
import Derived.Laws.AppendOwnNone
import Derived.Deep.AppendLies
import Derived.OrdersHeld
import Derived.Tactics
import Derived.LaidEqlPtr
import Derived.Deep.Cut
import Derived.Conc.SmallLaws
import Derived.Conc.TokenTrace
import Derived.Conc.MarkLaws
import Derived.Conc.Token
import Derived.Conc.CompanyCalls
import Derived.Conc.WgGenW
import Derived.Conc.AtomicLaws2
import Derived.Conc.CrowdBase
import Derived.Conc.WgLib
import Derived.Conc.TokenWords
import Derived.Conc.CompanyDraw
import Derived.Conc.WgArith
import Derived.Conc.WgGenWait
import Derived.Conc.TokenWalk
import Derived.Defers
import Derived.LaidEql
import Derived.Stop.Asserts
import Derived.RowKitTokens
import Derived.LoopN
import Derived.RangeFuncBound
import Derived.RangeFuncCalls
import Derived.Shelf.Abstract
import Derived.Shelf.RegionOpen
import Derived.Laws.StructEq
import Derived.BigRegion
import Derived.Laws.MakeOwn
import Derived.Carry
import Derived.Laws.OwnMore
import Derived.Deep.RegionWith
import Derived.Lib.UnsafeStr
import Derived.ChangeSame
import Derived.ChangeStays
import Derived.ChangeVars
import Derived.JoinedOf
import Derived.RowKit
import Derived.LaidLaws
import Derived.LaidHandle
import Derived.Deep.Slices
import Derived.Deep.Fields
import Derived.Conc.HoldsTime
import Derived.Stop.Joined
import Derived.SevenTiedAt
import Derived.KernelRfl
import Derived.WalkKit
import Derived.Conc.Beside
import Derived.Conc.WgGenLone
import Derived.Deep.DeepCutAuto
import Derived.BigQuiet
import Derived.LoopTactic
import Derived.Deep.RegionHeld3
import Derived.Maps.RangeWalk
import Derived.RangeFuncLeaves
import Derived.RangeFuncNested
import Derived.RegionIn
import Derived.BigRegionIn
import Derived.LoopNIn
import Derived.LoopIn
import Derived.TacticsInMore
import Derived.OwnWalkIn
import Derived.Outline
import Derived.Test.YtelecjnabeokeaaGreatDoorProg
set_option maxRecDepth 100000
set_option maxHeartbeats 16000000
set_option linter.defProp false
set_option linter.unusedVariables false
set_option linter.unusedSimpArgs false
namespace Go.Proofs.YtelecjnabeokeaaGreatDoor
open Go
def fx5 := @Array.getElem?_eq_some_iff
def fx6 := @Go.Lib.hid
def fx7 := @List.getElem?_cons_zero
def fx8 := @Nat.le_refl
def fx9 := @if_neg
def fy0 := @List.getElem?_cons_succ
def fy1 := @Array.getElem?_setIfInBounds
def fy2 := @List.getElem?_toArray
def fy3 := @List.mem_cons
def fy4 := @Array.getElem?_setIfInBounds_ne
def fy5 := @Array.getElem?_setIfInBounds_self_of_lt
def fy6 := @Array.getElem?_modify
def fy7 := @Option.some.inj
def fy8 := @Option.map_eq_some_iff
def fy9 := @List.filterMap_cons
def fz0 := @List.mem_append
def fz1 := @Array.getElem?_eq_getElem
def fz2 := @List.append_cancel_right
def fz3 := @Option.map_some
def fz4 := @List.filterMap_nil
def fz5 := @List.mem_cons_self
def fz6 := @List.length_cons
def fz7 := @Go.Conc.mem_ofEvents
def fz8 := @List.not_mem_nil
def fz9 := @Go.Sem.run_bind
def f00 := @Array.size_setIfInBounds
def f01 := @Nat.lt_or_ge
def f02 := @if_pos
def f03 := @Option.some.injEq
def f04 := @Bool.and_eq_true
def f05 := @Array.getElem?_push
def f06 := @List.length_nil
def f07 := @Go.Conc.getElem?_append_cases
def f08 := @Nat.le_trans
def f09 := @Array.getElem?_eq_none
def f0a := @List.length_append
def f0b := @Go.ConcN.upd_same
def f0c := @List.mem_cons_of_mem
def f0d := @Go.Sem.runT_fst
def f0e := @if_true
def f0f := @Nat.lt_of_lt_of_le
def f0g := @Bool.false_eq_true
def f0h := @Go.World.cell?_of_block
def f0i := @Go.Frame.finish_at
def f0j := @List.cons_append
def f0k := @List.append_assoc
def f0l := @Go.Conc.offersAt_of_not_blocked
def f0m := @List.pairwise_append
def f0n := @List.cons.injEq
def f0o := @Go.Stepped.next.injEq
def f0p := @Go.ConcN.upd_ne
def f0q := @Go.bodyPost_ret
def f0r := @List.getElem?_eq_getElem
def f0s := @if_false
def f0t := @Go.IntWalk.i64_in
def f0u := @Go.run_underlying
def f0v := @Array.ext_getElem?
def f0w := @Go.World.ownsRow_nil
def f0x := @Go.results_tmp
def f0y := @List.getElem?_append_right
def f0z := @or_false
def f7l := @Go.RowKit.Below.heap_alloc
def f4h := @Go.Sem.runT_eq
def f1a := @List.eq_nil_of_length_eq_zero
def f1c := @List.getElem?_eq_some_iff
def f1d := @List.getElem?_append_left
def f1e := @Classical.byContradiction
def f1f := @Go.ConcN.sumTo_upd
def f1g := @Go.Conc.Deaf_other
def f1h := @List.pairwise_cons
def f1i := @Go.Conc.again_of_running
def f1j := @Go.Goroutine.mk.injEq
def f1k := @Nat.zero_add
def f1l := @Go.run_underlying
def f1m := @List.setIfInBounds_toArray
def f1n := @Nat.zero_le
def f1o := @Go.Conc.stepG_region_end
def f1p := @Go.leaves_cons
def f1q := @Go.Machine.mk.injEq
def f1r := @decide_eq_true_eq
def f1s := @List.getElem?_map
def f1t := @Array.append_empty
def f1u := @decide_eq_false_iff_not
def f1v := @Classical.axiomOfChoice
def f1w := @Go.Conc.stepG_ret'
def f1x := @List.all_eq_true
def f1y := @List.getD_cons_zero
def f1z := @Array.mk.injEq
def f2a := @Array.size_push
def f2c := @Array.getElem?_map
def f2d := @List.length_take
def f2e := @Prod.mk.injEq
def f2f := @List.getLast?_cons_cons
def f2g := @Go.results_none
def f2h := @List.nil_append
def f2i := @and_true
def f2j := @List.getElem_cons_zero
def f2k := @List.getElem_cons_succ
def f2m := @Go.World.news_of_block
def f2n := @List.getD_eq_getElem?_getD
def f2o := @Go.Conc.stepG_region
def f2p := @List.length_drop
def f2q := @List.getElem?_eq_none
def f2s := @List.mem_range
def f2u := @Go.Addr.add_lit
def f2v := @Prod.ext
def f2w := @Go.wpAnyH_take
def f2x := @List.getElem_toArray
def f2y := @Bool.not_eq_true'
def f2z := @Go.Conc.resultsC_none
def f3a := @Go.World.cell?_alloc_lt
def f3b := @Go.Conc.Sits.status
def f3c := @List.map_cons
def f3d := @Go.Conc.touch_of
def f3e := @Go.Conc.mem_seen
def f3g := @Go.World.ownsRow.cells
def f3h := @Go.IntKind.wrap_i64
def f3i := @List.set_cons_zero
def f3j := @List.set_cons_succ
def f3k := @List.mem_singleton
def f3l := @Bool.not_eq_false'
def f3m := @Array.append_assoc
def f3n := @Go.heap_alloc_new
def f3p := @List.mem_map
def f3q := @congrArg
def f3r := @Nat.add_assoc
def f3s := @List.size_toArray
def f3t := @Go.step_lone_go
def f3u := @Go.step_lone_ended
def f3v := @Go.run_convert_to_unsafe
def f3w := @Ne.symm
def f3x := @List.mem_of_getElem?
def f3y := @Array.mapM_eq_mapM_toList
def f4a := @List.take_length
def f4b := @List.mem_toArray
def f4c := @Array.mem_append
def f4d := @Go.Conc.stepG_seq
def f4e := @Go.Conc.stepG_end
def f4f := @List.mem_map_of_mem
def f4i := @Go.info_parts
def f4j := @Go.callsIn_wide
def f4m := @List.append_nil
def f4n := @Bool.or_eq_true
def f4o := @Int.eq_ofNat_of_zero_le
def f4q := @Array.all_eq_true_iff_forall_mem
def f4r := @Go.wpOp_mono
def f4s := @Nat.le_add_right_of_le
def f4t := @Go.Conc.stepG_markAt
def f4u := @Go.Conc.events_convert_to_unsafe
def f4v := @Go.World.putObj_heap_same
def f4w := @List.mem_append_right
def f4x := @Array.getElem?_mapIdx
def f4y := @Array.eq_empty_of_size_eq_zero
def f5a := @Go.World.mk.injEq
def f5b := @Go.AllReadyH.cons
def f5d := @Go.run_typeAssert_lacksB
def f5e := @List.contains_eq_mem
def f5g := @beq_iff_eq
def f5h := @Go.IntKind.wrap_i32
def f5i := @Go.Conc.stepG_block
def f5j := @List.map_congr_left
def f5k := @List.getElem?_range
def f5l := @Go.Conc.Deaf_own
def f5m := @Go.Conc.woken_of_again
def f5p := @Nat.add_zero
def f5q := @Go.Oper.semAt_some
def f5r := @List.getElem?_take
def f5t := @Go.Conc.runT_crowd_go
def f5u := @Array.size_modify
def f5v := @Array.size_append
def f5w := @Go.Sem.runT_bind'
def fd {p : Prop} (h : p := by kernel_rfl) : p := h
def fe {p : Prop} (h : p := by omega) : p := h
def ff {p : Prop} (h : p := by change Bk _ _ _ _; (repeat' (first | with_reducible assumption | with_reducible exact Bk.nw (by simp) | with_reducible refine Bk.dr ?_ | with_reducible refine Bk.al ?_ _ | with_reducible refine Bk.bl (by with_reducible assumption) ?_ | with_reducible refine Bk.gr (by with_reducible assumption) ?_ ?_ | with_reducible refine Bk.fr _ (by dsimp only; omega) ?_)) <;> (first | done | fail)) : p := h
def fg {p : Prop} (h : p := by repeat' (first | with_reducible exact Bl.rf _ | with_reducible refine Bl.al ?_ _ | with_reducible refine Bl.dr ?_ | with_reducible refine Bl.st ?_ (by simp <;> omega) _ | with_reducible refine Bl.cl ?_ (by with_reducible assumption))) : p := h
def fi {p : Prop} (h : p := by simp) : p := h
def fq {p : Prop} (h : p := by with_reducible assumption) : p := h
def f7i {p : Prop} (h : p := by change Bk _ _ _ _; (repeat' (first | with_reducible assumption | with_reducible exact Bk.nw (by simp) | with_reducible refine Bk.dr ?_ | with_reducible refine Bk.al ?_ _ | with_reducible refine Bk.bl (by with_reducible assumption) ?_ | with_reducible refine Bk.gr (by with_reducible assumption) ?_ ?_ | with_reducible refine Bk.fr _ (by dsimp only; omega) ?_ | exact Ibox'.out)) <;> (first | done | fail)) : p := h
def fu {p : Prop} (h : p := by decide) : p := h
def fw {p : Prop} (h : p := by dsimp only; omega) : p := h
def fy {p : Prop} (h : p := by (repeat' (first | with_reducible assumption | with_reducible exact Bk.nw (by simp) | with_reducible refine Bk.dr ?_ | with_reducible refine Bk.al ?_ _ | with_reducible refine Bk.bl (by with_reducible assumption) ?_ | with_reducible refine Bk.gr (by with_reducible assumption) ?_ ?_ | with_reducible refine Bk.fr _ (by dsimp only; omega) ?_)) <;> (first | done | fail)) : p := h
def ga {p : Prop} (h : p := by repeat' (first | with_reducible exact Bl.rf _ | with_reducible refine Bl.al ?_ _ | with_reducible refine Bl.dr ?_)) : p := h
def tw {p : Prop} (h : p := by change Bk _ _ _ _; (repeat' (first | with_reducible assumption | with_reducible exact Bk.nw (by simp) | with_reducible refine Bk.dr ?_ | with_reducible refine Bk.al ?_ _ | with_reducible refine Bk.bl (by with_reducible assumption) ?_ | with_reducible refine Bk.gr (by with_reducible assumption) ?_ ?_ | with_reducible refine Bk.fr _ (by dsimp only; omega) ?_ | with_reducible refine Bk.ch gC2 (by (try dsimp only); omega) ?_)) <;> (first | done | fail)) : p := h
def gh {p : Prop} (h : p := by k_ne) : p := h
def f3o {p : Prop} (h : p := by change Bk _ _ _ _; (repeat' (first | with_reducible assumption | with_reducible exact Bk.nw (by simp) | with_reducible refine Bk.dr ?_ | with_reducible refine Bk.al ?_ _ | with_reducible refine Bk.bl (by with_reducible assumption) ?_ | with_reducible refine Bk.gr (by with_reducible assumption) ?_ ?_ | with_reducible refine Bk.fr _ (by dsimp only; omega) ?_ | exact gK)) <;> (first | done | fail)) : p := h
def f3z {p : Prop} (h : p := by simp only [fer, i4, vp]; repeat (first | rw [f02 trivial] | rw [f02 (by omega)] | rw [fx9 (by omega)])) : p := h
def gn {p : Prop} (h : p := by (repeat' (first | with_reducible exact Bl.rf _ | with_reducible refine Bl.al ?_ _ | with_reducible refine Bl.dr ?_ | with_reducible refine Bl.cl ?_ hB1.out | with_reducible refine Bl.cl ?_ hBa.out))) : p := h
def gq {p : Prop} (h : p := by rw [t.rv i hi x hx]; omega) : p := h
def z2a {p : Prop} (h : p := by rw [t.er i hi x hx]; omega) : p := h
def gw {p : Prop} (h : p := by go_simp) : p := h
def gy {p : Prop} (h : p := by repeat' (first | with_reducible exact gC1 | with_reducible refine Ch.al ?_ _ | with_reducible refine Ch.dr ?_)) : p := h
def j1 {p : Prop} (h : p := by rw [t.b]; omega) : p := h
def j3 {p : Prop} (h : p := by simp [Op.equalIn, fz9, hu, Result.andThen, Pure.pure, Sem.run]) : p := h
def j4 {p : Prop} (h : p := by rw [t.ar x hx]; omega) : p := h
def j5 {p : Prop} (h : p := by rw [t.kb i hi]; omega) : p := h
def j6 {p : Prop} (h : p := by rw [t.ul i hi]; omega) : p := h
def j7 {p : Prop} (h : p := by rw [t.uc i hi]; omega) : p := h
def j8 {p : Prop} (h : p := by rw [t.dl i hi]; omega) : p := h
def j9 {p : Prop} (h : p := by rw [t.dc i hi]; omega) : p := h
def ja {p : Prop} (h : p := by simp; omega) : p := h
def jb {p : Prop} (h : p := by simp <;> omega) : p := h
def jd {p : Prop} (h : p := by rw [t.lg x hx]; omega) : p := h
def je {p : Prop} (h : p := by cases h) : p := h
def jf {p : Prop} (h : p := by first | (simp; done) | exact .inr (.inr (.inr ⟨_, hi, rfl⟩))) : p := h
def jg {p : Prop} (h : p := by simp [go_sem]) : p := h
def jh {p : Prop} (h : p := by simp [Act.eval]) : p := h
def ji {p : Prop} (h : p := by (try dsimp only); omega) : p := h
def jj {p : Prop} (h : p := by rw [t.eb]; omega) : p := h
def jk {p : Prop} (h : p := by rw [t.nb]; omega) : p := h
def jl {p : Prop} (h : p := by rw [t.mb]; omega) : p := h
def jm {p : Prop} (h : p := by rintro (h | h); omega; have := hr2 _ h; omega) : p := h
def jn {p : Prop} (h : p := by cases wr <;> cases sy <;> simp [MemAct.ofEvent, MemAct.touch?] at hx) : p := h
def jo {p : Prop} (h : p := by split <;> first | exact ag _ _ _ | exact rz _ _ _ _) : p := h
def jp {p : Prop} (h : p := by rw [t.sb]; omega) : p := h
def jq {p : Prop} (h : p := by simp only [maxLen]; omega) : p := h
def jr {p : Prop} (h : p := by rintro (h | h); exact hL.lb.ne_ hB (by decide) h; exact hL.lb.ne_ hK (by decide) h) : p := h
def js {p : Prop} (h : p := by rintro x (h | h); exact .inl (.inr (.inl h)); exact .inl (.inr (.inr (.inr h)))) : p := h
def jt {p : Prop} (h : p := by rintro (h | h); exact uh hL hB h.symm; exact uh hL hK h.symm) : p := h
def ju {p : Prop} (h : p := by rw [World.frozen?_alloc_old _ _ t (by simp; omega), World.frozen?_alloc_old _ _ t (Nat.ne_of_lt htl)]; exact hf0) : p := h
def f4g {p : Prop} (h : p := by (try simp only [vp, ig]); omega) : p := h
def jw {p : Prop} (h : p := by obtain ⟨s, r, h⟩ := hL.ch; exact (fx5.1 h).1) : p := h
def jx {p : Prop} (h : p := by rw [hu]; exact fz5) : p := h
def jy {p : Prop} (h : p := by simpa [World.setCell] using hlt) : p := h
def jz {p : Prop} (h : p := by rw [show (#[Operand.tmp 9] : Array Operand).map _ = #[.pointer (some p)] by simp [Act.eval]]; rfl) : p := h
def ka {p : Prop} (h : p := by simp [Op.equalIn, fz9, hu', Result.andThen, Go.stuck, Go.unsupported, Sem.run, hard]) : p := h
def ke {p : Prop} (h : p := by simp only [fz0, fy3] at hi ⊢; rcases hi with (g | g) | g <;> simp [g]) : p := h
def kf {p : Prop} (h : p := by rintro (h | h); exact Hck.out h.symm; exact HRc.out _ h rfl) : p := h
def kh {p : Prop} (h : p := by have := h.tag.ge (x := L.b) (by rw [h.tag.b]; omega); omega) : p := h
def kl {p : Prop} (h : p := by rw [f3a _ _ t (by simp; omega), f3a _ _ t htl]; exact ht0) : p := h
def km {p : Prop} (h : p := by exact True.intro) : p := h
def kn {p : Prop} (h : p := by simp [runT, solo, G, Array.swapAt!, Array.swapAt, h, GStep.es, communicate, hk] at h ⊢) : p := h
def ko {p : Prop} (h : p := by rw [e]; exact fz5) : p := h
def kp {p : Prop} (h : p := by rw [hSp x gx hx hgx]; exact hrun) : p := h
def kq {p : Prop} (h : p := by rw [hSp x gx hx hgx, hrun]; simp) : p := h
def kt {p : Prop} (h : p := by simp only [fz0, fy3] at hi ⊢; rcases hi with g | g <;> simp [g]) : p := h
def ku {p : Prop} (h : p := by simp [Value.ownBlock]) : p := h
def f7j {p : Prop} (h : p := by rintro (h | h); exact Hlk.out h; exact HRl.out _ h rfl) : p := h
def kx {p : Prop} (h : p := by rw [touchAt_of hx']; exact hxa) : p := h
def ky {p : Prop} (h : p := by rintro (h | h) <;> omega) : p := h
def kz {p : Prop} (h : p := by cases e) : p := h
def p6 {p : Prop} (h : p := by rintro x (h | h); exact .inl h; exact .inr (.inl h)) : p := h
def p7 {p : Prop} (h : p := by have h1 := l1.out; have h2 := l2.out; have := l3.out; simp at h1 h2 ⊢; omega) : p := h
def p8 {p : Prop} (h : p := by rintro (h | h); exact hbk h; exact HRb.out _ h rfl) : p := h
def p9 {p : Prop} (h : p := by simp [Value.oneCell']) : p := h
def pa {p : Prop} (h : p := by rw [hD]; exact hm) : p := h
def pb {p : Prop} (h : p := by rw [e]; simp) : p := h
def fx2 {p : Prop} (h : p := by simp [Pure.pure, Sem.run]) : p := h
def pd {p : Prop} (h : p := by rintro x h; exact .inl (.inr (.inr (.inl h)))) : p := h
def pe {p : Prop} (h : p := by simp [results, Tryz.results129, go_sem, hc4]) : p := h
def fx3 {p : Prop} (h : p := by change World.cell? _ _ = _; rw [gK1.ce]; rfl) : p := h
def pg {p : Prop} (h : p := by cases wr <;> cases sy <;> simp [MemAct.ofEvent, MemAct.touch?] at ht) : p := h
def pk {p : Prop} (h : p := by have := l1.out; have := l3.out; simp; omega) : p := h
def pl {p : Prop} (h : p := by cases hx) : p := h
def pm {p : Prop} (h : p := by rw [f5l]; exact hw) : p := h
def pn {p : Prop} (h : p := by simp [Sem.run, hv]) : p := h
def pp {p : Prop} (h : p := by have h1 := l1.out; have h2 := l2.out; simp at h1 h2 ⊢; omega) : p := h
def pq {p : Prop} (h : p := by rw [e2]; exact e4) : p := h
def pr {p : Prop} (h : p := by simp [results, Tryz.results131, go_sem]) : p := h
def pt {p : Prop} (h : p := by show (2 : Nat) ≠ 0; decide) : p := h
def pu {p : Prop} (h : p := by show (Sem.runT _ _ _ _).2 = _; rw [hr]) : p := h
def pv {p : Prop} (h : p := by simp only [fb4, fz6, f06]; omega) : p := h
def pw {p : Prop} (h : p := by rw [hsz1]; exact hlt) : p := h
def px {p : Prop} (h : p := by rw [i6 fun i hi => by have := h1 i hi; omega]; omega) : p := h
def py {p : Prop} (h : p := by unfold G LRes.plug at h; rw [h]; rfl) : p := h
def pz {p : Prop} (h : p := by rw [f1g T e ops s7]; exact hk) : p := h
def qa {p : Prop} (h : p := by rw [← f0d _ _ _ #[], hr]) : p := h
def qb {p : Prop} (h : p := by unfold Plain.Fits; simp; try omega) : p := h
def qd {p : Prop} (h : p := by rw [hh]; exact fz5) : p := h
def qe {p : Prop} (h : p := by rw [e]; rfl) : p := h
def qf {p : Prop} (h : p := by rw [e1] at e2; cases e2) : p := h
def qg {p : Prop} (h : p := by simp [hi]) : p := h
def qh {p : Prop} (h : p := by rw [hD]; exact h3) : p := h
def qi {p : Prop} (h : p := by have := h.size; omega) : p := h
def qj {p : Prop} (h : p := by simpa using hlt) : p := h
def ql {p : Prop} (h : p := by simp [hj]) : p := h
def qm {p : Prop} (h : p := by rw [ha]; exact r2 d) : p := h
def qo {p : Prop} (h : p := by simp only []; omega) : p := h
def qs {p : Prop} (h : p := by rw [h.tag.b]; omega) : p := h
def qt {p : Prop} (h : p := by have := l1.out; simp; omega) : p := h
def qu {p : Prop} (h : p := by simp [Sem.run, ho]) : p := h
def f7k {p : Prop} (h : p := by simpa using h) : p := h
def fx4 {p : Prop} (h : p := by assumption) : p := h
def f7m {p : Prop} (h : p := by split at hi <;> omega) : p := h
def f7n {p : Prop} (h : p := by simpa [Value.ownBlock] using hx) : p := h
theorem szs : (∀ l : List Oper, l.toArray.size = l.length) ∧ (∀ (x : Oper) l, (x :: l).length = l.length + 1) ∧ ([] : List Oper).length = 0 ∧ (∀ n, List.range n = List.range.loop n []) ∧ (∀ l, List.range.loop 0 l = l) ∧ (∀ n l, List.range.loop (n + 1) l = List.range.loop n (n :: l)) := ⟨fun _ => rfl, fun _ _ => rfl, rfl, fun _ => rfl, fun _ => rfl, fun _ _ => rfl⟩
theorem aps : (∀ (a : Act) (d : Option Nat) (v : Value), a.put d v = match d with | some t => { a with tmps := a.tmps.setIfInBounds t v } | none => a) ∧ (∀ (l : List Value) (i : Nat) (v : Value), l.toArray.setIfInBounds i v = (l.set i v).toArray) ∧ (∀ (x y : Value) (l : List Value), (x :: l).set 0 y = y :: l) ∧ (∀ (x y : Value) (l : List Value) (n : Nat), (x :: l).set (n + 1) y = x :: l.set n y) := ⟨fun _ _ _ => rfl, fun _ _ _ => by simp, fun _ _ _ => rfl, fun _ _ _ _ => rfl⟩
abbrev V (P:Program) (F:Array Func):Program:={ toTables:=P.toTables,funcs:=F }
section
variable (P:Program) (F:Array Func)
def fkd:(V P F).types=P.types:=rfl
def V_rt:(V P F).rt=P.rt:=rfl
def fpe:(V P F).globals=P.globals:=rfl
def m8:(V P F).cutTypes=P.cutTypes:=rfl
def fpf (d:Departure):(V P F).follows d=P.follows d:=rfl
def fcr (t:TypeId):(V P F).info? t=P.info? t:=rfl
def rq (t:TypeId):(V P F).underlying t=P.underlying t:=rfl
def vf (t:TypeId):(V P F).cellsOf t=P.cellsOf t:=rfl
def yj (t:TypeId):(V P F).bytesOf t=P.bytesOf t:=rfl
def yw:(V P F).depth=P.depth:=rfl
def xm (t:TypeId):(V P F).underlyingId t=P.underlyingId t:=rfl
def zg: ∀(d:Nat) (t:TypeId) (o:Nat),byteOfCell (V P F) d t o=byteOfCell P d t o
 | 0,_,_=>rfl
 | d+1,_,_=>by unfold byteOfCell;simp only[zg d,rq,vf,yj];rfl
def iw: ∀(d:Nat) (t:TypeId) (o:Nat),cellOfByte (V P F) d t o=cellOfByte P d t o
 | 0,_,_=>rfl
 | d+1,_,_=>by unfold cellOfByte;simp only[iw d,rq,vf,yj];rfl
def fgh (d:Nat) (t:TypeId) (c o:Nat) (n:Int):cellAtBytes (V P F) d t c o n=cellAtBytes P d t c o n:=by
 unfold cellAtBytes;simp only[zg,iw,vf,yj];rfl
def zd: ∀(d:Nat) (t u:TypeId),(V P F).alikeButTags d t u=P.alikeButTags d t u
 | 0,_,_=>rfl
 | d+1,_,_=>by unfold Program.alikeButTags;simp only[zd d,fcr,rq,xm]
def fm1 (c:String×TypeId):(V P F).ownRow c=P.ownRow c:=rfl
def nx (t:TypeId):(V P F).stoodInAs t=P.stoodInAs t:=by
 unfold Program.stoodInAs;simp only[rq,zd,yw,xm,m8]
def fpg (t:TypeId):(V P F).stoodIn t=P.stoodIn t:=by
 unfold Program.stoodIn;simp only[nx]
def yk (t:TypeId):(V P F).stoodInHeld t=P.stoodInHeld t:=by
 unfold Program.stoodInHeld;simp only[nx,fcr]
def mu: ∀(d:Nat) (t:TypeId),(V P F).holdsStoodIn d t=P.holdsStoodIn d t
 | 0,_=>rfl
 | d+1,_=>by unfold Program.holdsStoodIn;simp only[mu d,rq,yk]
def ffh (t:TypeId):(V P F).packedAs t=P.packedAs t:=by
 unfold Program.packedAs;simp only[fm1,fcr,rq,zd,yw,xm,m8]
def f7c (t:TypeId):(V P F).packed t=P.packed t:=by
 unfold Program.packed;simp only[ffh]
def fex (t:TypeId):(V P F).heldOrPacked t=P.heldOrPacked t:=by
 unfold Program.heldOrPacked;simp only[yk,f7c]
def fx1: ∀(d:Nat) (t:TypeId),(V P F).holdsPacked d t=P.holdsPacked d t
 | 0,_=>rfl
 | d+1,_=>by unfold Program.holdsPacked;simp only[fx1 d,rq,f7c]
def zp (ms:Array (String×TypeId)):(V P F).mayEmbedAPacks ms=P.mayEmbedAPacks ms:=rfl
def oy: ∀(d:Nat) (t:TypeId),(V P F).namesPacked d t=P.namesPacked d t
 | 0,_=>rfl
 | d+1,_=>by
   have e:(V P F).namesPacked d=P.namesPacked d:=funext (oy d);unfold Program.namesPacked;simp only[e,fcr,f7c,fm1,m8,zp]
def ii: ∀(d:Nat) (t:TypeId),(V P F).methodsOfAPack d t=P.methodsOfAPack d t
 | 0,_=>rfl
 | d+1,_=>by unfold Program.methodsOfAPack;simp only[ii d,rq,f7c,zp]
def fke:(V P F).bearsPack=P.bearsPack:=rfl
def ix: ∀(d:Nat) (t u:TypeId),sameLayout (V P F) d t u=sameLayout P d t u
 | 0,_,_=>rfl
 | d+1,_,_=>by unfold sameLayout;simp only[ix d,yk,rq,xm]
def s9: ∀(d:Nat) (t:TypeId),(V P F).eqGuardType d t=P.eqGuardType d t
 | 0,_=>rfl
 | d+1,_=>by unfold Program.eqGuardType;simp only[s9 d,fcr,rq]
def fcs: ∀(d:Nat) (t:TypeId) (o:Nat),plainCell (V P F) d t o=plainCell P d t o
 | 0,_,_=>rfl
 | d+1,_,_=>by unfold plainCell;simp only[fcs d,rq,vf];rfl
def sf: ∀(d:Nat) (t:TypeId) (o:Nat),cellHolding (V P F) d t o=cellHolding P d t o
 | 0,_,_=>rfl
 | d+1,_,_=>by unfold cellHolding;simp only[sf d,rq,vf,yj];rfl
def fph: ∀(d:Nat) (t:TypeId),tight (V P F) d t=tight P d t
 | 0,_=>rfl
 | d+1,_=>by unfold tight;simp only[fph d,rq,yj]
def fct (c:Array Value) (e:TypeId): ∀(f x s:Nat),seenCells (V P F) c e f x s=seenCells P c e f x s
 | 0,_,_=>rfl
 | f+1,_,_=>by unfold seenCells;simp only[fct c e f,sf,vf,yj,yw]
def fvx (w:World) (a:Addr) (u:TypeId) (k:Addr) (at_:Bool):w.seen (V P F) a u k at_=w.seen P a u k at_:=by
 unfold World.seen;simp only[fct,fcs,zg,vf,yj,yw];rfl
def fnr (w:World) (a:Addr) (u:TypeId) (k:Addr) (at_:Bool):w.viewLoad (V P F) a u k at_=w.viewLoad P a u k at_:=by
 unfold World.viewLoad;simp only[fvx]
def fkf (w:World) (a:Addr) (u:TypeId) (k:Addr) (x:Value) (at_:Bool):w.viewStore (V P F) a u k x at_=w.viewStore P a u k x at_:=by
 unfold World.viewStore;simp only[fvx,fph,yw]
def fpi (w:World) (a:Addr) (at_:Bool):w.farLoad (V P F) a at_=w.farLoad P a at_:=by
 unfold World.farLoad;simp only[fnr]
def fns (w:World) (a:Addr) (x:Value) (at_:Bool):w.farStore (V P F) a x at_=w.farStore P a x at_:=by
 unfold World.farStore;simp only[fkf]
end
def reW (w:World) (t:Nat->Question->Nat) (d:Nat):World:={ w with tape:=t,drawn:=d }
abbrev hidO:Obj:=.coro none
structure Hide where
 at_:Nat->Option Obj
 real:Nat->Option Obj
 on:Bool
instance:CoeFun Hide (λ_=>Nat->Option Obj):=⟨Hide.at_⟩
structure HidC where
 cap:Nat
 buf:Array Value
 s:Nat
 q:Nat
 tm:Bool
 rt:Bool
 ok:(cap=0/\buf=#[]/\s=0/\q=0/\tm=rt)\/(cap=1/\tm=true/\rt=false)
def mute:Obj->Bool
 | .chan .. | .pending .. | .loop .. | .deferred .. | .coro none=>true
 | _=>false
def mw (o:Obj) (r:Option Obj):Prop:=
 (∃e c,o=.cells #[] e (0,0)/\r=some (.cells c e (0,0)))\/(o=hidO/\ ∃o',mute o'=true/\r=some o')\/
    (∃(x:HidC) (k:Nat),o=.chan x.cap x.buf false x.s x.q x.tm/\r=some (.chan 0 #[] false k k x.rt))
def okB:Builtin->Array TypeId->Bool
 | .append,_ | .len,_ | .cap,_ | .unsafeSliceData,_ | .unsafeString,_=>true
 | .unsafeSlice,ts=>ts[0]? ==some 99
 | _,_=>false
def okT:Target->Bool
 | .builtin b ts _ _=>okB b ts
 | .coroexit _=>false
 | _=>true
def convs:List (TypeId×TypeId):=[(21,3),(21,5),(21,60),(3,21)]
def okOp (o:Oper):Bool:=
 match o.op with
 | .move _ | .assign _ | .pick .. | .alloc _ | .box .. | .build .. | .buildSlice .. | .load .. | .store .. | .nilCheck _ | .binOp .. | .unOp .. | .makeInterface .. | .makeFunc .. | .makeMap .. | .makeChan .. | .makeSlice .. | .slice ..
 | .fieldAddr .. | .indexAddr .. | .lookup .. | .mapUpdate .. | .range .. | .next .. | .entry .. | .typeAssert .. | .extract .. | .send .. =>true
 | .select cs b=> !b&&(match cs.toList with|[c]=>c.send.isNone|_=>false)
 | .convert s d _=>convs.contains (s,d)
 | .call c=>(match c.callee with | .builtin b=>okB b c.argTypes|_=>true)
 | .defer c=>(match c.callee with | .builtin b=>okB b c.argTypes|_=>true)
 | _=>false
def fpj (o:Oper):Bool:=okOp o||(match o.op with | .panic _=>true|_=>false)
def de (o:Oper):Bool:=match o.op with
 | .defer _ | .send .. | .select .. =>false
 | _=>true
def um:Code->Bool
 | .region _ ops _=>ops.all de
 | .seq a b | .cond _ a b=>um a&&um b
 | .block _ c | .loop c | .scope c=>um c
 | _=>true
def ncOp (o:Oper):Bool:=match o.op with
 | .send .. | .select .. =>false
 | _=>true
def yb:Code->Bool
 | .region _ ops _=>ops.all ncOp
 | .seq a b | .cond _ a b=>yb a&&yb b
 | .block _ c | .loop c | .scope c=>yb c
 | _=>true
def iy {o:Oper} (h:de o=true):ncOp o=true:=by
 unfold de at h;unfold ncOp;cases e:o.op <;>rw[e] at h <;>first|rfl|cases h
def uq: ∀(c:Code),um c=true->yb c=true
 | .region _ ops _,h=>by
   simp only[um,yb,Array.all_eq_true] at h ⊢;exact λi hi=>iy (h i hi)
 | .seq a b,h=>by
   simp only[um,yb,f04] at h ⊢;exact⟨uq a h.1,uq b h.2⟩
 | .cond _ a b,h=>by
   simp only[um,yb,f04] at h ⊢;exact⟨uq a h.1,uq b h.2⟩
 | .block _ c,h=>uq c h
 | .loop c,h=>uq c h
 | .scope c,h=>uq c h
 | .skip,_ | .ret,_ | .exit _,_ | .refuse _,_ | .label _,_ | .goto _,_ | .rangeFunc ..,_=>rfl
def va:Code->Bool
 | .skip | .ret | .exit _ | .refuse _=>true
 | .region _ ops _=>ops.all fpj
 | .seq a b | .cond _ a b=>va a&&va b
 | .block _ c | .loop c=>va c
 | .rangeFunc _ _ a b=>va a&&va b&&(um a&&um b)
 | .scope _ | .label _ | .goto _=>false
def iz (r:Loop):Bool:=va r.assign&&va r.body&&(um r.assign&&um r.body)&&(match r.pending with|some c=>va c&&um c|none=>true)
def fm2 (ds:List Deferred):Bool:=ds.all λd=>okT d.target
def okSt:Obj->Bool
 | .pending .. =>false
 | .loop r=>iz r
 | .deferred (some ds)=>fm2 ds
 | _=>true
def sg:Obj->Bool
 | .chan cap buf _ _ _ tm=> !tm&&decide (buf.size<=cap)
 | _=>true
structure Rel (H:Hide) (v w:World):Prop where
 size:v.heap.size=w.heap.size
 same: ∀b,H b=none->v.heap[b]? =w.heap[b]?
 laid: ∀b o,H b=some o->v.heap[b]? =some o/\mw o w.heap[b]?
 os:v.os=w.os
 output:v.output=w.output
 objs: ∀(b:Nat) (o:Obj),v.heap[b]? =some o->okSt o=true
 kept: ∀b o,H b=some o->w.heap[b]? =H.real b
 chans:H.on=true-> ∀(b:Nat) (o:Obj),H b=none->v.heap[b]? =some o->sg o=true
def fey:Obj->Bool
 | .cells _ _ fz=>fz==(0,0)
 | .chan cap buf _ _ _ tm=> !tm&&decide (buf.size<=cap)
 | .map .. | .stringIter .. | .mapIter .. | .number .. | .view .. | .deferred none=>true
 | .loop r=>iz r
 | .deferred (some ds)=>fm2 ds
 | _=>false
def si {o:Obj} (h:fey o=true):okSt o=true:=by
 cases o <;>first|rfl|exact h|(rename_i d;cases d <;>first|rfl|exact h)|cases h
def l7 {o:Obj} (h:fey o=true):sg o=true:=by
 cases o <;>first|rfl|exact h
def hard:Halt->Bool
 | .stuck _=>true
 | .unsupported (.initOrder _)=>false
 | .unsupported _=>true
 | _=>false
def EvOK (H:Hide) (n:Nat) (e:Event):Prop:=
 match e.loc with
 | .cell a=>H a.block=none/\a.block<n
 | .obj r=>r<n/\(H r=none\/e.write=false)
 | .mark (.extern _) | .mark .noRoom=>True
 | _=>False
def EvOK.mono {H:Hide} {n m:Nat} {e:Event} (h:EvOK H n e) (j:n<=m):EvOK H m e:=by
 unfold EvOK at h ⊢;split <;>simp_all <;>omega
def Agree (v w:World) (k:Nat):Prop:= ∀j,j<k->v.tape (v.drawn+j)=w.tape (w.drawn+j)
def Agree.le {v w:World} {k m:Nat} (h:Agree v w k) (hm:m<=k):Agree v w m:=λj hj=>h j fe
def Mirror {α:Type} (P:Program) (H:Hide) (v w:World) (e:Sem α) (v1:World) (R:World->Result α):Prop:=
 v.heap.size<=v1.heap.size/\v1.tape=v.tape/\ ∃k,v1.drawn=v.drawn+k/\ ∀es,Agree v w k->
    ∃w1 new,e.runT P w es=(R w1,es++new)/\w1.tape=w.tape/\w1.drawn=w.drawn+k/\Rel H v1 w1/\ ∀ev∈new,EvOK H w1.heap.size ev
def SimAt {α:Type} (P:Program) (F:Array Func) (H:Hide) (v w:World) (e:Sem α):Prop:=
 match e.run (V P F) v with
 | .ok x v1=>Mirror P H v w e v1 (.ok x)
 | .halt (.panic x) v1=>Mirror P H v w e v1 (.halt (.panic x))
 | .halt h _=>hard h=true
def Sim {α:Type} (P:Program) (F:Array Func) (N:Nat->Prop) (e:Sem α):Prop:= ∀H v w,(∀r,N r->H r=none)->Rel H v w->SimAt P F H v w e
section
variable {α β:Type} {P:Program} {F:Array Func} {H:Hide} {v w:World} {N:Nat->Prop}
def Rel.hidden_cell (r:Rel H v w) {a:Addr} {x:Value} (h:v.cell? a=some x):H a.block=none:=by
 cases e:H a.block with
 | none=>rfl
 | some o=>
   obtain⟨hv,hr⟩:=r.laid _ _ e;rcases hr with⟨t,c,rfl,_⟩|⟨rfl,_⟩|⟨_,_,rfl,_⟩ <;>simp[World.cell?,hv] at h
def Rel.cell (r:Rel H v w) {a:Addr} {x:Value} (h:v.cell? a=some x):w.cell? a=some x:=by
 rw[<- h];unfold World.cell?;rw[r.same _ (r.hidden_cell h)]
def Rel.frozen (r:Rel H v w) {a:Addr} (h:H a.block=none):w.frozen? a=v.frozen? a:=by
 unfold World.frozen?;rw[r.same _ h]
def zq {w:World} {a:Addr} {x:Value} (h:w.cell? a=some x):a.block<w.heap.size:=by
 rcases f01 a.block w.heap.size with h'|h'
 ·exact h'
 ·simp[World.cell?,f09 h'] at h
def fhy (x:Value):x.bytes? ≠some []:=by
 cases x <;>simp[Value.bytes?]
 case int k n => cases k <;>simp[IntKind.bits,leBytes]
 case float k n => cases k <;>simp[FloatKind.bytes,leBytes]
 case complex k n m => cases k <;>simp[FloatKind.bytes,leBytes]
def fcv (P:Program) (e:TypeId): ∀(f x s:Nat) (r:List (Nat×Nat×List UInt8)),x<s->seenCells P #[] e f x s≠ .ok r
 | 0,_,_,_,_=>by simp[seenCells]
 | f +1,x,s,r,h=>by
   unfold seenCells;rw[fx9 fe];dsimp only;split
   ·simp
   ·split
    ·simp
    ·simp
def fnt {P:Program} {c:Array Value} {e:TypeId} {n x:Nat} {r:List (Nat×Nat×List UInt8)} {j:Value} (h1:Option.map (λy=>y.length) j.bytes? =some n) (hc:c=#[]) (h2:seenCells P c e (n+1) x (x+n)=.ok r):False:=by
 subst hc;refine fcv P e _ _ _ r ?_ h2;cases hb:j.bytes? with
 | none=>rw[hb] at h1;cases h1
 | some y=>
   rw[hb] at h1;simp only[fz3,f03] at h1;cases y with
   | nil=>exact absurd hb (fhy j)
   | cons z y=>simp at h1;omega
def fgi {P:Program} {w:World} {a:Addr} {u:TypeId} {k:Addr} {b:Bool} {o:Option Obj} (h:w.heap[a.block]? =o) (ho: ∀c e f,o=some (.cells c e f)->c=#[]) (r):w.seen P a u k b≠ .ok r:=by
 unfold World.seen;rw[h];intro hr;simp only[bind,Except.bind,pure,Except.pure,throw,throwThe,MonadExceptOf.throw] at hr;repeat' (split at hr)
 all_goals first|(cases hr;done)|exact fnt fx4 (ho _ _ _ rfl) fx4
def Rel.seen {P:Program} {H:Hide} {v w:World} (rel:Rel H v w) {a:Addr} {u:TypeId} {k:Addr} {b:Bool} {r} (h:v.seen P a u k b=.ok r):H a.block=none/\w.seen P a u k b=.ok r:=by
 cases hH:H a.block with
 | none=>exact⟨rfl,by rw[<- h];unfold World.seen;rw[rel.same _ hH]⟩
 | some o=>
   obtain⟨hv,hr⟩:=rel.laid _ _ hH;refine absurd h (fgi hv (λc e f hc=>?_) r);rcases hr with⟨e,c,rfl,_⟩|⟨rfl,_⟩|⟨_,_,rfl,_⟩
   ·cases hc;rfl
   ·cases hc
   ·cases hc
def Rel.viewLoad {P:Program} {H:Hide} {v w:World} (rel:Rel H v w) {a:Addr} {u:TypeId} {k:Addr} {b:Bool} {x:Value} {l:List Addr} (h:v.viewLoad P a u k b=.ok (x,l)):
    w.viewLoad P a u k b=.ok (x,l)/\ ∀y∈l,H y.block=none/\y.block<w.heap.size:=by
 unfold World.viewLoad at h ⊢;cases hs:v.seen P a u k b with
 | error e=>rw[hs] at h;cases h
 | ok r=>
   obtain⟨hH,hw⟩:=rel.seen hs;rw[hs] at h;rw[hw];refine⟨h,λy hy=>?_⟩;obtain⟨c,e,fz,first,j,cells⟩:=r;have hlt:a.block<w.heap.size:=by
    rcases f01 a.block w.heap.size with h'|h'
    ·exact h'
    ·exact absurd hw (fgi (f09 h') (λ_ _ _ hc=>by cases hc) _)
   simp only[bind,Except.bind,pure,Except.pure] at h;split at h
   ·simp only[Except.ok.injEq,f2e] at h;obtain⟨_,rfl⟩:=h;obtain⟨z,_,rfl⟩:=f3p.1 hy;exact⟨hH,hlt⟩
   ·cases h
def Rel.noCell_hard (rel:Rel H v w) (a:Addr) (j:String):hard (v.noCell a j)=true:=by
 unfold World.noCell;split
 ·rename_i h;have:=rel.objs _ _ h;cases this
 ·rfl
 ·rfl
def Rel.farLoad_error (rel:Rel H v w) {a:Addr} {b:Bool} {h:Halt} (e:v.farLoad P a b=.error h):hard h=true:=by
 unfold World.farLoad at e;split at e
 ·split at e
  ·cases e
  ·cases e;rfl
 ·cases e;exact rel.noCell_hard _ _
def Rel.farStore_error (rel:Rel H v w) {a:Addr} {x:Value} {b:Bool} {h:Halt} (e:v.farStore P a x b=.error h):hard h=true:=by
 unfold World.farStore at e;split at e
 ·split at e
  ·cases e
  ·cases e;rfl
 ·cases e;exact rel.noCell_hard _ _
def Rel.viewAt (rel:Rel H v w) {b:Nat} {a:Addr} {u:TypeId} (h:v.heap[b]? =some (.view a u)):w.heap[b]? =some (.view a u):=by
 cases hH:H b with
 | none=>rw[<- rel.same _ hH,h]
 | some o=>
   obtain⟨hv,hr⟩:=rel.laid _ _ hH;rw[h] at hv;cases hv;rcases hr with⟨_,_,h,_⟩|⟨h,_⟩|⟨_,_,h,_⟩ <;>cases h
def Rel.farLoad (rel:Rel H v w) {a:Addr} {b:Bool} {x:Value} {l:List Addr} (e:v.farLoad P a b=.ok (x,l)):
    w.cell? a=none/\w.farLoad P a b=.ok (x,l)/\ ∀y∈l,H y.block=none/\y.block<w.heap.size:=by
 unfold World.farLoad at e;split at e
 ·rename_i at_ u hv;have hw:=rel.viewAt hv;split at e
  ·rename_i r hr;cases e;obtain⟨h1,h2⟩:=rel.viewLoad hr;exact⟨by simp[World.cell?,hw],by unfold World.farLoad;simp only[hw,h1],h2⟩
  ·cases e
 ·cases e
def Rel.setBlock (rel:Rel H v w) {r:Nat} (hH:H r=none) {o:Obj} (ho:okSt o=true) (hc:H.on=true->sg o=true):Rel H { v with heap:=v.heap.setIfInBounds r o } { w with heap:=w.heap.setIfInBounds r o }:=by
 refine⟨by simp[rel.size],λb hb=>?_,λb o' hb=>?_,rel.os,rel.output,λb o' hb=>?_,λb o' hb=>?_,λm b o' hn hb=>?_⟩
 ·show(v.heap.setIfInBounds r o)[b]? =(w.heap.setIfInBounds r o)[b]?;rw[fy1,fy1,rel.same b hb,rel.size]
 ·have j:r≠b:=by rintro rfl;rw[hH] at hb;cases hb
  show(v.heap.setIfInBounds r o)[b]? =some o'/\mw o' (w.heap.setIfInBounds r o)[b]?;rw[fy4 j,fy4 j];exact rel.laid b o' hb
 ·replace hb:(v.heap.setIfInBounds r o)[b]? =some o':=hb;rw[fy1] at hb;split at hb
  ·split at hb
   ·cases hb;exact ho
   ·cases hb
  ·exact rel.objs b o' hb
 ·have j:r≠b:=by rintro rfl;rw[hH] at hb;cases hb
  show(w.heap.setIfInBounds r o)[b]? =_;rw[fy4 j];exact rel.kept b o' hb
 ·replace hb:(v.heap.setIfInBounds r o)[b]? =some o':=hb;rw[fy1] at hb;split at hb
  ·split at hb
   ·cases hb;exact hc m
   ·cases hb
  ·exact rel.chans m b o' hn hb
def fc7 {α:Type} (e:String):(MonadExcept.throw e:Except String α)=.error e:=rfl
def ff0 {a:Addr} {u:TypeId} {k:Addr} {x:Value} {b:Bool} {v':World} {l:List Addr} {r} (h:v.viewStore P a u k x b=.ok (v',l)) (hv:v.seen P a u k b=.ok r) (hw:w.seen P a u k b=.ok r):
    ∃o:Obj,(okSt o=true/\sg o=true)/\v'={ v with heap:=v.heap.setIfInBounds a.block o }/\w.viewStore P a u k x b=.ok ({ w with heap:=w.heap.setIfInBounds a.block o },l)/\ ∀y∈l,y.block=a.block:=by
 unfold World.viewStore at h ⊢;rw[hv] at h;rw[hw];obtain⟨c,e,fz,first,j,cells⟩:=r;cases ht:tight P P.depth u with
 | false=>simp[ht,bind,Except.bind,fc7,throw,throwThe,MonadExceptOf.throw] at h
 | true=>
   cases hb:x.bytes? with
   | none=>simp[ht,hb,bind,Except.bind,fc7,throw,throwThe,MonadExceptOf.throw] at h
   | some bytes=>
     by_cases hz:some bytes.length≠j.bytes?.map (λy=>y.length)
     ·simp[ht,hb,hz,bind,Except.bind,fc7,throw,throwThe,MonadExceptOf.throw] at h
     ·simp only[ht,hb,hz,bind,Except.bind,Bool.not_true,f0g,f0s] at h ⊢;split at h
      ·cases h
      ·rename_i c' m;simp only[pure,Except.pure,Except.ok.injEq,f2e] at h;obtain⟨rfl,rfl⟩:=h;exact⟨.cells c' e fz,⟨rfl,rfl⟩,rfl,rfl,λy hy=>by obtain⟨z,_,rfl⟩:=f3p.1 hy;rfl⟩
def Rel.viewStore (rel:Rel H v w) {a:Addr} {u:TypeId} {k:Addr} {x:Value} {b:Bool} {v':World} {l:List Addr} (h:v.viewStore P a u k x b=.ok (v',l)):
    ∃w',w.viewStore P a u k x b=.ok (w',l)/\Rel H v' w'/\v'.tape=v.tape/\v'.drawn=v.drawn/\v'.heap.size=v.heap.size/\w'.tape=w.tape/\w'.drawn=w.drawn/\ ∀y∈l,H y.block=none/\y.block<w'.heap.size:=by
 cases hs:v.seen P a u k b with
 | error e=>
   exfalso;unfold World.viewStore at h;rw[hs] at h;cases ht:tight P P.depth u <;>simp[ht,bind,Except.bind,fc7,throw,throwThe,MonadExceptOf.throw] at h
 | ok r=>
   obtain⟨hH,hw⟩:=rel.seen hs;have hlt:a.block<w.heap.size:=by
    rcases f01 a.block w.heap.size with h'|h'
    ·exact h'
    ·exact absurd hw (fgi (f09 h') (λ_ _ _ hc=>by cases hc) _)
   obtain⟨o,ho,e1,e2,e3⟩:=ff0 h hs hw;refine⟨_,e2,e1▸rel.setBlock hH ho.1 (λ_=>ho.2),by rw[e1],by rw[e1],by rw[e1];simp,rfl,rfl,λy hy=>?_⟩;rw[e3 y hy];exact⟨hH,by simpa using hlt⟩
def Rel.farStore (rel:Rel H v w) {a:Addr} {x:Value} {b:Bool} {v':World} {l:List Addr} (e:v.farStore P a x b=.ok (v',l)):
    ∃w',w.cell? a=none/\w.farStore P a x b=.ok (w',l)/\Rel H v' w'/\v'.tape=v.tape/\v'.drawn=v.drawn/\v'.heap.size=v.heap.size/\w'.tape=w.tape/\w'.drawn=w.drawn/\ ∀y∈l,H y.block=none/\y.block<w'.heap.size:=by
 unfold World.farStore at e;split at e
 ·rename_i at_ u hv;have hw:=rel.viewAt hv;split at e
  ·rename_i r hr;cases e;obtain⟨w',h1,h2⟩:=rel.viewStore hr;exact⟨w',by simp[World.cell?,hw],by unfold World.farStore;simp only[hw,h1],h2⟩
  ·cases e
 ·cases e
def Mirror.trans {γ:Type} {e:Sem α} {e':Sem γ} {v' w' v1:World} {R:World->Result α} {R':World->Result γ} (j:Nat) (n0:Array Event) (hs:v.heap.size<=v'.heap.size) (ht:v'.tape=v.tape) (hd:v'.drawn=v.drawn+j)
    (m:w'.tape=w.tape) (A:w'.drawn=w.drawn+j) (B: ∀ev∈n0,EvOK H w'.heap.size ev) (rel:Rel H v' w')
    (hr:Agree v w j-> ∀es w1 q,e'.runT P w' (es++n0)=(R' w1,q)->e.runT P w es=(R w1,q)) (h:Mirror P H v' w' e' v1 R'):Mirror P H v w e v1 R:=by
 obtain⟨h1,h2,k,h3,h4⟩:=h;refine⟨f08 hs h1,h2.trans ht,j+k,by omega,λes ha=>?_⟩
 obtain⟨w1,new,e1,e2,e3,e4,e5⟩:=h4 (es++n0) (λi hi=>by
    have:=ha (j+i) fe;rw[ht,m,hd,A];simpa[f3r] using this)
 refine⟨w1,n0++new,by rw[hr (ha.le fe) _ _ _ e1,f3m],e2.trans m,by omega,e4,λx hx=>?_⟩;rcases f4c.1 hx with hx|hx
 ·exact(B x hx).mono (by rw[<- rel.size,<- e4.size];exact h1)
 ·exact e5 x hx
def SimAt.trans {e e':Sem α} {v' w':World} (j:Nat) (n0:Array Event) (hs:v.heap.size<=v'.heap.size) (ht:v'.tape=v.tape) (hd:v'.drawn=v.drawn+j)
    (m:w'.tape=w.tape) (q:w'.drawn=w.drawn+j) (A: ∀ev∈n0,EvOK H w'.heap.size ev) (rel:Rel H v' w') (hv:e.run (V P F) v=e'.run (V P F) v')
    (hr:Agree v w j-> ∀es,e.runT P w es=e'.runT P w' (es++n0)) (h:SimAt P F H v' w' e'):SimAt P F H v w e:=by
 unfold SimAt at h ⊢;rw[hv];split <;>rename_i he <;>simp only[he] at h
 ·exact h.trans j n0 hs ht hd m q A rel λha es w1 B e1=>by rw[hr ha];exact e1
 ·exact h.trans j n0 hs ht hd m q A rel λha es w1 B e1=>by rw[hr ha];exact e1
 ·exact h
def SimAt.one {e e':Sem α} (rel:Rel H v w) (ev:Event) (hev:EvOK H w.heap.size ev) (hv:e.run (V P F) v=e'.run (V P F) v) (hr: ∀es,e.runT P w es=e'.runT P w (es.push ev)) (h:SimAt P F H v w e'):SimAt P F H v w e:=
 h.trans 0 #[ev] (fx8 _) rfl rfl rfl rfl (by simpa using hev) rel hv λ_ es=>by rw[hr];simp
def SimAt.eq {e e':Sem α} (rel:Rel H v w) (hv:e.run (V P F) v=e'.run (V P F) v) (hr: ∀es,e.runT P w es=e'.runT P w es) (h:SimAt P F H v w e'):SimAt P F H v w e:=
 h.trans 0 #[] (fx8 _) rfl rfl rfl rfl fi rel hv λ_ es=>by rw[hr];simp
def SimAt.hard {e:Sem α} {h:Halt} {v1:World} (he:e.run (V P F) v=.halt h v1) (hh:hard h=true):SimAt P F H v w e:=by
 unfold SimAt;rw[he];cases h <;>first|exact hh|cases hh
def SimAt.pure (rel:Rel H v w) (x:α):SimAt P F H v w (Sem.pure x):=
 ⟨fx8 _,rfl,0,rfl,λes _=>⟨w,#[],by simp[-Sem.runT_eq,Sem.runT],rfl,rfl,rel,by simp⟩⟩
def Rel.re (rel:Rel H v w) (t:Nat->Question->Nat) (d:Nat):Rel H v (reW w t d):=⟨rel.size,rel.same,rel.laid,rel.os,rel.output,rel.objs,rel.kept,rel.chans⟩
def Rel.re' (rel:Rel H v w) (t:Nat->Question->Nat) (d:Nat):Rel H (reW v t d) w:=⟨rel.size,rel.same,rel.laid,rel.os,rel.output,rel.objs,rel.kept,rel.chans⟩
def Mirror.some {e:Sem α} {v1:World} {R:World->Result α} (rel:Rel H v w) (h: ∀w,Rel H v w->Mirror P H v w e v1 R): ∃w1,Rel H v1 w1:=by
 obtain⟨_,_,k,_,h4⟩:=h (reW w v.tape v.drawn) (rel.re _ _);obtain⟨w1,_,_,_,_,e4,_⟩:=h4 #[] λj _=>rfl;exact⟨w1,e4⟩
def Mirror.bind {e:Sem β} {f:β->Sem α} {x:β} {v1 v2:World} {R:World->Result α} (rel:Rel H v w) (he: ∀w,Rel H v w->Mirror P H v w e v1 (.ok x)) (hf: ∀w1,Rel H v1 w1->Mirror P H v1 w1 (f x) v2 R):
    Mirror P H v w (e.bind f) v2 R:=by
 obtain⟨w0,r0⟩:=Mirror.some rel he;obtain⟨a1,a2,k1,a3,a4⟩:=he w rel;obtain⟨b1,b2,k2,b3,_⟩:=hf w0 r0;refine⟨f08 a1 b1,b2.trans a2,k1+k2,by omega,λes ha=>?_⟩;obtain⟨w1,n1,e1,e2,e3,e4,e5⟩:=a4 es (ha.le fe);obtain⟨_,_,j,m,c4⟩:=hf w1 e4;obtain rfl:j=k2:=by omega
 obtain⟨w2,n2,g1,g2,g3,g4,g5⟩:=c4 (es++n1) (λi hi=>by
    have:=ha (k1+i) fe;rw[a2,e2,a3,e3];simpa[f3r] using this)
 refine⟨w2,n1++n2,by rw[f5w,e1];simp only[g1,f3m],g2.trans e2,by omega,g4,λz hz=>?_⟩;rcases f4c.1 hz with hz|hz
 ·exact(e5 z hz).mono (by rw[<- e4.size,<- g4.size];exact b1)
 ·exact g5 z hz
def Mirror.bind_panic {e:Sem β} {f:β->Sem α} {x:Value} {v1:World} (h:Mirror P H v w e v1 (.halt (.panic x))):Mirror P H v w (e.bind f) v1 (.halt (.panic x)):=by
 obtain⟨a1,a2,k1,a3,a4⟩:=h;refine⟨a1,a2,k1,a3,λes ha=>?_⟩;obtain⟨w1,n1,e1,e2,e3,e4,e5⟩:=a4 es ha;exact⟨w1,n1,by rw[f5w,e1],e2,e3,e4,e5⟩
def qw {e:Sem β} {f:β->Sem α} {x:β} {v1:World} (h:e.run P v=.ok x v1):(e.bind f).run P v=(f x).run P v1:=by
 rw[<- f0d P _ v #[],f5w];have:(e.runT P v #[]).1=.ok x v1:=by rw[f0d];exact h
 cases he:e.runT P v #[] with
 | mk r es=>
   rw[he] at this;simp only at this;subst this;exact f0d P _ _ _
def f2r {e:Sem β} {f:β->Sem α} {h':Halt} {v1:World} (h:e.run P v=.halt h' v1):(e.bind f).run P v=.halt h' v1:=by
 rw[<- f0d P _ v #[],f5w];have:(e.runT P v #[]).1=.halt h' v1:=by rw[f0d];exact h
 cases he:e.runT P v #[] with
 | mk r es=>
   rw[he] at this;simp only at this;subst this;rfl
def Sim.bindOf {e:Sem β} {f:β->Sem α} (he:Sim P F N e) (hf: ∀x,(∃v v1,e.run (V P F) v=.ok x v1)->Sim P F N (f x)):Sim P F N (e.bind f):=by
 intro H v w hN rel;unfold SimAt;have h0:=λw rel=>he H v w hN rel;unfold SimAt at h0;cases hr:e.run (V P F) v with
 | ok x v1=>
   simp only[hr] at h0;rw[qw hr];obtain⟨w0,r0⟩:=Mirror.some rel h0;have h1:=λw1 (r1:Rel H v1 w1)=>hf x ⟨v,v1,hr⟩ H v1 w1 hN r1;unfold SimAt at h1;split <;>rename_i hx <;>simp only[hx] at h1
   ·exact Mirror.bind rel h0 h1
   ·exact Mirror.bind rel h0 h1
   ·exact h1 w0 r0
 | halt h' v1=>
   rw[f2r hr];have h2:=h0 w rel;simp only[hr] at h2;cases h' <;>first|exact h2|exact Mirror.bind_panic h2
def Sim.bind {e:Sem β} {f:β->Sem α} (he:Sim P F N e) (hf: ∀x,Sim P F N (f x)):Sim P F N (e.bind f):=he.bindOf λx _=>hf x
def Sim.pure (x:α):Sim P F N (Sem.pure x):=λ_ _ _ _ rel=>SimAt.pure rel x
def Sim.stuck (s:String):Sim P F N (.halt (.stuck s):Sem α):=λ_ _ _ _ _=>rfl
def Sim.halt {h:Halt} (hh:hard h=true):Sim P F N (.halt h:Sem α):=λ_ _ _ _ _=>SimAt.hard rfl hh
def Sim.panic (x:Value):Sim P F N (.halt (.panic x):Sem α):=
 λ_ _ w _ rel=>⟨fx8 _,rfl,0,rfl,λes _=>⟨w,#[],by simp[-Sem.runT_eq,Sem.runT],rfl,rfl,rel,by simp⟩⟩
def Sim.mono {N':Nat->Prop} {e:Sem α} (h:Sim P F N e) (hN: ∀r,N r->N' r):Sim P F N' e:=λH v w h' rel=>h H v w (λr hr=>h' r (hN r hr)) rel
def Sim.loadN (m:Mode) (a:Addr) {k:Value->Sem α} (hk: ∀x,Sim P F (λr=>N r\/r=a.block) (k x)):Sim P F N (.load m a k):=by
 intro H v w hN rel;cases hc:v.cell? a with
 | none=>
   cases hf:v.farLoad (V P F) a (m== .atomic) with
   | error h=>exact SimAt.hard (v1:=v) (h:=h) (by simp[Sem.run,hc,hf]) (rel.farLoad_error hf)
   | ok r=>
     obtain⟨x,l⟩:=r;obtain⟨g1,g2,g3⟩:=rel.farLoad ((fpi P F v a _).symm.trans hf:v.farLoad P a (m== .atomic)=.ok (x,l));have hb:H a.block=none:=by
      cases hH:H a.block with
      | none=>rfl
      | some o=>
        exfalso;obtain⟨hv,hr⟩:=rel.laid _ _ hH;unfold World.farLoad at hf;rcases hr with⟨e,c,rfl,_⟩|⟨rfl,_⟩|⟨_,_,rfl,_⟩ <;>simp[hv] at hf
     refine SimAt.trans (e':=k x) 0 (l.toArray.map (⟨.cell ·,false,m== .atomic⟩)) (fx8 _) rfl rfl rfl rfl (λev hev=>?_) rel (by simp[Sem.run,hc,hf]) (λ_ es=>by simp[-Sem.runT_eq,Sem.runT,g1,g2]) (hk x H v w (λr hr=>hr.elim (hN r) λe=>e▸hb) rel);obtain⟨y,hy,rfl⟩:=Array.mem_map.1 hev;exact g3 y (by simpa using hy)
 | some x=>
   have hw:=rel.cell hc;exact(hk x H v w (λr hr=>hr.elim (hN r) λe=>e▸rel.hidden_cell hc) rel).one rel ⟨.cell a,false,m== .atomic⟩ ⟨rel.hidden_cell hc,by have:=zq hw;exact this⟩ (by simp[Sem.run,hc]) (λes=>by simp[-Sem.runT_eq,Sem.runT,hw])
def Rel.setCell (rel:Rel H v w) {a:Addr} (h:H a.block=none) (x:Value):Rel H (v.setCell a x) (w.setCell a x):=by
 have hm: ∀(u:World) (b:Nat),(u.setCell a x).heap[b]? =if a.block=b then (u.heap[b]?).map (λo=>match o with
  | .cells c elem frozen=>.cells (if a.spot.isSome then c else c.setIfInBounds a.off x) elem frozen
  | o=>o) else u.heap[b]? :=by
    intro u b;simp only[World.setCell];rw[fy6];split <;>rfl
 refine⟨by simp[World.setCell,rel.size],λb hb=>?_,λb o hb=>?_,rel.os,rel.output,λb o hb=>?_,λb o hb=>?_,λq b o hn hb=>?_⟩
 ·rw[hm,hm,rel.same b hb]
 ·have j:a.block≠b:=by rintro rfl;rw[h] at hb;cases hb
  rw[hm,hm,fx9 j,fx9 j];exact rel.laid b o hb
 ·rw[hm] at hb;split at hb
  ·obtain⟨o',m,rfl⟩:=fy8.1 hb;have:=rel.objs b o' m;cases o' <;>first|rfl|exact this
  ·exact rel.objs b o hb
 ·have j:a.block≠b:=by rintro rfl;rw[h] at hb;cases hb
  rw[hm,fx9 j];exact rel.kept b o hb
 ·rw[hm] at hb;split at hb
  ·obtain⟨o',m,rfl⟩:=fy8.1 hb;have:=rel.chans q b o' hn m;cases o' <;>first|rfl|exact this
  ·exact rel.chans q b o hn hb
def Sim.load (m:Mode) (a:Addr) {k:Value->Sem α} (hk: ∀x,Sim P F N (k x)):Sim P F N (.load m a k):=Sim.loadN m a λx=>(hk x).mono λ_=>.inl
def fpk:Value->Bool
 | .agg _ | .tuple _=>false
 | _=>true
def Sim.store (m:Mode) (a:Addr) (x:Value) {k:Sem α} (hk:Sim P F N k):Sim P F N (.store m a x k):=by
 intro H v w hN rel;by_cases hx:fpk x=true
 ·have hrun: ∀u:World,(Sem.store m a x k).run (V P F) u=match u.cell? a with
   | some _=>if u.frozen? a then .halt (.unsupported (.unsafePointer "a write to bytes that a string shares")) u else k.run (V P F) (u.setCell a x)
   | none=>match u.farStore (V P F) a x (m== .atomic) with
     | .ok (u,_)=>k.run (V P F) u
     | .error h=>.halt h u:=by
   intro u;cases x <;>first|rfl|simp[fpk] at hx
  have j: ∀(u:World) (es:Array Event),(Sem.store m a x k).runT P u es=match u.cell? a with
   | some _=>if u.frozen? a then (.halt (.unsupported (.unsafePointer "a write to bytes that a string shares")) u,es) else k.runT P (u.setCell a x) (es.push ⟨.cell a,true,m== .atomic⟩)
   | none=>match u.farStore P a x (m== .atomic) with
     | .ok (u,q)=>k.runT P u (es++q.toArray.map (⟨.cell ·,true,m== .atomic⟩))
     | .error h=>(.halt h u,es):=by
   intro u es;cases x <;>first|rfl|simp[fpk] at hx
  cases hc:v.cell? a with
  | none=>
    cases hf:v.farStore (V P F) a x (m== .atomic) with
    | error h=>exact SimAt.hard (v1:=v) (h:=h) (by rw[hrun];simp[hc,hf]) (rel.farStore_error hf)
    | ok r=>
      obtain⟨v',l⟩:=r;obtain⟨w',g1,g2,g3,g4,g5,g6,g7,g8,g9⟩:=rel.farStore ((fns P F v a x _).symm.trans hf:v.farStore P a x (m== .atomic)=.ok (v',l));refine SimAt.trans (v':=v') (w':=w') (e':=k) 0 (l.toArray.map (⟨.cell ·,true,m== .atomic⟩)) fe g4 g5 g7 g8 (λev hev=>?_) g3 (by rw[hrun];simp[hc,hf]) (λ_ es=>by rw[j];simp[-Sem.runT_eq,g1,g2]) (hk H v' w' hN g3);obtain⟨y,hy,rfl⟩:=Array.mem_map.1 hev;exact g9 y (by simpa using hy)
  | some y=>
    have hw:=rel.cell hc;have hH:=rel.hidden_cell hc;cases hf:v.frozen? a with
    | true=>exact SimAt.hard (v1:=v) (by rw[hrun];simp[hc,hf];rfl) rfl
    | false=>
      have A:=(rel.frozen hH).trans hf;have hsz:(w.setCell a x).heap.size=w.heap.size:=by simp[World.setCell]
      have hev: ∀ev∈(#[⟨.cell a,true,m== .atomic⟩]:Array Event),EvOK H (w.setCell a x).heap.size ev:=by
       intro ev hev;simp at hev;subst hev;exact⟨hH,by rw[hsz];exact zq hw⟩
      exact SimAt.trans (v':=v.setCell a x) (w':=w.setCell a x) 0 #[⟨.cell a,true,m== .atomic⟩] (by simp[World.setCell]) rfl rfl rfl rfl hev (rel.setCell hH x) (by rw[hrun];simp[hc,hf]) (λ_ es=>by rw[j];simp[-Sem.runT_eq,hw,A]) (hk H _ _ hN (rel.setCell hH x))
 ·cases x <;>first|exact absurd rfl hx|exact SimAt.hard (v1:=v) (h:=.stuck "store: not the value of one cell") (by simp[Sem.run]) rfl
def Rel.freeze (rel:Rel H v w) {a:Addr} (h:H a.block=none) (n:Nat):Rel H (v.freeze a n) (w.freeze a n):=by
 unfold World.freeze;split
 ·exact rel
 ·refine⟨by simp[rel.size],λb hb=>?_,λb o hb=>?_,rel.os,rel.output,λb o hb=>?_,λb o hb=>?_,λq b o hn hb=>?_⟩
  ·show(v.heap.modify a.block _)[b]? =(w.heap.modify a.block _)[b]?;rw[fy6,fy6,rel.same b hb]
  ·have j:a.block≠b:=by rintro rfl;rw[h] at hb;cases hb
   show(v.heap.modify a.block _)[b]? =some o/\mw o (w.heap.modify a.block _)[b]?;rw[fy6,fy6,fx9 j,fx9 j];exact rel.laid b o hb
  ·replace hb:(v.heap.modify a.block _)[b]? =some o:=hb;rw[fy6] at hb;split at hb
   ·obtain⟨o',m,rfl⟩:=fy8.1 hb;have:=rel.objs b o' m;cases o' <;>first|rfl|exact this
   ·exact rel.objs b o hb
  ·have j:a.block≠b:=by rintro rfl;rw[h] at hb;cases hb
   show(w.heap.modify a.block _)[b]? =_;rw[fy6,fx9 j];exact rel.kept b o hb
  ·replace hb:(v.heap.modify a.block _)[b]? =some o:=hb;rw[fy6] at hb;split at hb
   ·obtain⟨o',m,rfl⟩:=fy8.1 hb;have:=rel.chans q b o' hn m;cases o' <;>first|rfl|exact this
   ·exact rel.chans q b o hn hb
def sq (w:World) (a:Addr) (n:Nat):(w.freeze a n).heap.size=w.heap.size/\(w.freeze a n).tape=w.tape/\(w.freeze a n).drawn=w.drawn:=by
 unfold World.freeze;split <;>simp
def Sim.freeze (a:Addr) (n:Nat) (ha:N a.block) {k:Sem α} (hk:Sim P F N k):Sim P F N (.freeze a n k):=by
 intro H v w hN rel;have j:=rel.freeze (hN _ ha) n;obtain⟨a1,a2,a3⟩:=sq v a n;obtain⟨b1,b2,b3⟩:=sq w a n;exact SimAt.trans (v':=v.freeze a n) (w':=w.freeze a n) (e':=k) 0 #[] fe a2 a3 b2 b3 fi j rfl (λ_ es=>by rw[f1t];rfl) (hk H _ _ hN j)
def Rel.push (rel:Rel H v w) {o:Obj} (ho:fey o=true) (hH:H v.heap.size=none):Rel H { v with heap:=v.heap.push o } { w with heap:=w.heap.push o }:=by
 have hg: ∀(b:Nat),(v.heap.push o)[b]? =if b=v.heap.size then some o else v.heap[b]? :=λb=>by rw[f05]
 have m: ∀(b:Nat),(w.heap.push o)[b]? =if b=v.heap.size then some o else w.heap[b]? :=λb=>by rw[f05,rel.size]
 refine⟨by simp[rel.size],λb hb=>?_,λb o' hb=>?_,rel.os,rel.output,λb o' hb=>?_,λb o' hb=>?_,λq b o' hn hb=>?_⟩
 ·show(v.heap.push o)[b]? =(w.heap.push o)[b]?;rw[hg,m,rel.same b hb]
 ·have j:b≠v.heap.size:=by rintro rfl;rw[hH] at hb;cases hb
  show(v.heap.push o)[b]? =some o'/\mw o' (w.heap.push o)[b]?;rw[hg,m,fx9 j,fx9 j];exact rel.laid b o' hb
 ·replace hb:(v.heap.push o)[b]? =some o':=hb;rw[hg] at hb;split at hb
  ·cases hb;exact si ho
  ·exact rel.objs b o' hb
 ·have j:b≠v.heap.size:=by rintro rfl;rw[hH] at hb;cases hb
  show(w.heap.push o)[b]? =_;rw[m,fx9 j];exact rel.kept b o' hb
 ·replace hb:(v.heap.push o)[b]? =some o':=hb;rw[hg] at hb;split at hb
  ·cases hb;exact l7 ho
  ·exact rel.chans q b o' hn hb
def Rel.above (rel:Rel H v w) {b:Nat} (h:v.heap.size<=b):H b=none:=by
 cases e:H b with
 | none=>rfl
 | some o=>
   have:=(rel.laid b o e).1;rw[f09 h] at this;cases this
def Sim.new {o:Obj} (ho:fey o=true) {k:Nat->Sem α} (hk: ∀r,Sim P F N (k r)):Sim P F N (.new o k):=by
 intro H v w hN rel;have j:=rel.push ho (rel.above (fx8 _));exact SimAt.trans (v':={ v with heap:=v.heap.push o }) (w':={ w with heap:=w.heap.push o }) 0 #[] fi rfl rfl rfl rfl fi j rfl (λ_ es=>by show(k w.heap.size).runT P _ es=_;rw[<- rel.size,f1t]) (hk v.heap.size H _ _ hN j)
def Sim.choose (q:Question) {k:Nat->Sem α} (hk: ∀n,Sim P F N (k n)):Sim P F N (.choose q k):=by
 intro H v w hN rel;cases hq:q.forced with
 | true=>exact(hk 0 H v w hN rel).eq rel (by simp[Sem.run,hq]) (λes=>by simp[-Sem.runT_eq,Sem.runT,hq])
 | false=>
   have j:Rel H { v with drawn:=v.drawn+1 } { w with drawn:=w.drawn+1 }:=⟨rel.size,rel.same,rel.laid,rel.os,rel.output,rel.objs,rel.kept,rel.chans⟩;refine SimAt.trans (v':={ v with drawn:=v.drawn+1 }) (w':={ w with drawn:=w.drawn+1 }) (e':=k (q.cut (v.tape v.drawn q))) 1 #[] (fx8 _) rfl rfl rfl rfl fi j (by rw[Sem.run,hq];rfl) (λha es=>?_) (hk _ H _ _ hN j);have h0:=ha 0 fe;simp only[f5p] at h0;rw[Sem.runT,hq,h0,f1t];rfl
def Sim.program {k:Program->Sem α} (he:k (V P F)=k P) (hk:Sim P F N (k P)):Sim P F N (.program k):=
 λH v w hN rel=>SimAt.eq (e':=k P) rel (by rw[Sem.run,he]) (λ_=>rfl) (hk H v w hN rel)
def Sim.markExtern (f:FuncId) {k:Sem α} (hk:Sim P F N k):Sim P F N (.mark (.extern f) k):=
 λH v w hN rel=>SimAt.one (e':=k) rel ⟨.mark (.extern f),false,true⟩ trivial rfl (λ_=>rfl) (hk H v w hN rel)
def Sim.markRoom {k:Sem α} (hk:Sim P F N k):Sim P F N (.mark .noRoom k):=
 λH v w hN rel=>SimAt.one (e':=k) rel ⟨.mark .noRoom,false,true⟩ trivial rfl (λ_=>rfl) (hk H v w hN rel)
def Vain (P:Program) (e:Sem α):Prop:= ∀v,∃h v1,e.run P v=.halt h v1/\hard h=true
def Vain.sim {e:Sem α} (h:Vain (V P F) e):Sim P F N e:=λ_ v _ _ _=>by
 obtain⟨h',v1,he,hh⟩:=h v;exact SimAt.hard he hh
def Sim.shape (r:Nat) {k:Option (TypeId×Nat)->Sem α} (hk: ∀s,Sim P F N (k s)) (hi: ∀e n,k (some (e,0))=k (some (e,n))\/Vain (V P F) (k (some (e,0)))):Sim P F N (.shape r k):=by
 intro H v w hN rel;cases hH:H r with
 | none=>
   have hs:v.shape? r=w.shape? r:=by unfold World.shape?;rw[rel.same r hH]
   exact SimAt.eq (e':=k (w.shape? r)) rel (by rw[Sem.run,hs]) (λes=>by rw[Sem.runT]) (hk _ H v w hN rel)
 | some o=>
   obtain⟨hv,hr⟩:=rel.laid r o hH;rcases hr with⟨e,c,rfl,hw⟩|⟨rfl,o',hm,hw⟩|⟨tm,j,rfl,hw⟩;rotate_left 2
   ·have m:v.shape? r=none:=by simp[World.shape?,hv]
    have q:w.shape? r=none:=by simp[World.shape?,hw]
    exact(hk _ H v w hN rel).eq (e':=k none) rel (by simp only[Sem.run,m]) (λes=>by simp only[Sem.runT,q])
   ·have m:v.shape? r=some (e,0):=by simp[World.shape?,hv]
    have q:w.shape? r=some (e,c.size):=by simp[World.shape?,hw]
    rcases hi e c.size with he|he
    ·exact(hk _ H v w hN rel).eq (e':=k (some (e,0))) rel (by simp only[Sem.run,m]) (λes=>by simp only[Sem.runT,q,he])
    ·obtain⟨h',v1,e1,e2⟩:=he v;exact SimAt.hard (v1:=v1) (by simp only[Sem.run,m];exact e1) e2
   ·have m:v.shape? r=none:=by simp[World.shape?,hv]
    have q:w.shape? r=none:=by
     unfold World.shape?;rw[hw];cases o' <;>first|rfl|cases hm
    exact(hk _ H v w hN rel).eq (e':=k none) rel (by simp only[Sem.run,m]) (λes=>by simp only[Sem.runT,q])
def Sim.getObj (r:Nat) {k:Obj->Sem α} (hk: ∀o,Sim P F (λx=>N x\/x=r) (k o)) (hi:(Sim P F N (k hidO)/\ ∀o',mute o'=true->k hidO=k o')\/Vain (V P F) (k hidO))
    (hc: ∀tm,Sim P F N (k (.chan 0 #[] false 0 0 tm))) (hj: ∀j tm,k (.chan 0 #[] false 0 0 tm)=k (.chan 0 #[] false j j tm))
    (A: ∀b s q,k (.chan 1 b false s q true)=k (.chan 0 #[] false 0 0 false):=by intros;rfl):Sim P F N (.getObj r k):=by
 intro H v w hN rel;cases hH:H r with
 | none=>
   have B: ∀x,N x\/x=r->H x=none:=λx hx=>hx.elim (hN x) (λe=>e▸hH);have hs:=rel.same r hH;cases ho:v.heap[r]? with
   | none=>exact SimAt.hard (v1:=v) (h:=.stuck "getObj: no such block") qu rfl
   | some o=>
     have hw:w.heap[r]? =some o:=by rw[<- hs,ho]
     have hlt:r<w.heap.size:=(fx5.1 hw).1;by_cases hc: ∃c e f,o=.cells c e f
     ·obtain⟨c,e,f,rfl⟩:=hc;exact SimAt.hard (v1:=v) (h:=.stuck "getObj: a row of cells") qu rfl
     ·have h1:(Sem.getObj r k).run (V P F) v=(k o).run (V P F) v:=by
       rw[Sem.run,ho];cases o <;>first|rfl|exact absurd ⟨_,_,_,rfl⟩ hc
      have h2: ∀es,(Sem.getObj r k).runT P w es=(k o).runT P w (es.push ⟨.obj r,false,o.isChan⟩):=λes=>by
       rw[Sem.runT,hw];cases o <;>first|rfl|exact absurd ⟨_,_,_,rfl⟩ hc
      exact SimAt.one (e':=k o) rel ⟨.obj r,false,o.isChan⟩ ⟨hlt,.inl hH⟩ h1 h2 (hk _ H v w B rel)
 | some o=>
   obtain⟨hv,hr⟩:=rel.laid r o hH;rcases hr with⟨e,c,rfl,hw⟩|⟨rfl,o',hm,hw⟩|⟨tm,j,rfl,hw⟩;rotate_left 2
   ·have hlt:r<w.heap.size:=(fx5.1 hw).1;have m:k (.chan tm.cap tm.buf false tm.s tm.q tm.tm)=k (.chan 0 #[] false 0 0 tm.rt):=by
     rcases tm with⟨c,b,s,q,t,t',h|h⟩
     ·obtain⟨rfl,rfl,rfl,rfl,rfl⟩:=h;rfl
     ·obtain⟨rfl,rfl,rfl⟩:=h;exact A b s q
    exact(hc tm.rt H v w hN rel).one rel ⟨.obj r,false,true⟩ ⟨hlt,.inr rfl⟩ (by simp[Sem.run,hv,m]) (λes=>by simp[-Sem.runT_eq,Sem.runT,hw,Obj.isChan,hj j tm.rt])
   ·exact SimAt.hard (v1:=v) (h:=.stuck "getObj: a row of cells") pn rfl
   ·have hlt:r<w.heap.size:=(fx5.1 hw).1;rcases hi with⟨h0,hi⟩|hi
    ·refine(h0 H v w hN rel).one rel ⟨.obj r,false,o'.isChan⟩ ⟨hlt,.inr rfl⟩ pn (λes=>?_);rw[hi o' hm,Sem.runT,hw];cases o' <;>first|rfl|cases hm
    ·obtain⟨h',v1,e1,e2⟩:=hi v;exact SimAt.hard (v1:=v1) (by simp only[Sem.run,hv];exact e1) e2
def Sim.getObjOk (r:Nat) {k:Obj->Sem α} (hk: ∀o,okSt o=true->Sim P F (λx=>N x\/x=r) (k o)) (hi:Vain (V P F) (k hidO)) (hc: ∀tm,Vain (V P F) (k (.chan 0 #[] false 0 0 tm)))
    (A: ∀b s q,k (.chan 1 b false s q true)=k (.chan 0 #[] false 0 0 false):=by intros;rfl):Sim P F N (.getObj r k):=by
 intro H v w hN rel;cases hH:H r with
 | none=>
   have B: ∀x,N x\/x=r->H x=none:=λx hx=>hx.elim (hN x) (λe=>e▸hH);have hs:=rel.same r hH;cases ho:v.heap[r]? with
   | none=>exact SimAt.hard (v1:=v) (h:=.stuck "getObj: no such block") qu rfl
   | some o=>
     have hw:w.heap[r]? =some o:=by rw[<- hs,ho]
     have hlt:r<w.heap.size:=(fx5.1 hw).1;by_cases hc: ∃c e f,o=.cells c e f
     ·obtain⟨c,e,f,rfl⟩:=hc;exact SimAt.hard (v1:=v) (h:=.stuck "getObj: a row of cells") qu rfl
     ·have h1:(Sem.getObj r k).run (V P F) v=(k o).run (V P F) v:=by
       rw[Sem.run,ho];cases o <;>first|rfl|exact absurd ⟨_,_,_,rfl⟩ hc
      have h2: ∀es,(Sem.getObj r k).runT P w es=(k o).runT P w (es.push ⟨.obj r,false,o.isChan⟩):=λes=>by
       rw[Sem.runT,hw];cases o <;>first|rfl|exact absurd ⟨_,_,_,rfl⟩ hc
      exact SimAt.one (e':=k o) rel ⟨.obj r,false,o.isChan⟩ ⟨hlt,.inl hH⟩ h1 h2 (hk _ (rel.objs r o ho) H v w B rel)
 | some o=>
   obtain⟨hv,hr⟩:=rel.laid r o hH;rcases hr with⟨e,c,rfl,hw⟩|⟨rfl,o',hm,hw⟩|⟨tm,j,rfl,hw⟩
   ·exact SimAt.hard (v1:=v) (h:=.stuck "getObj: a row of cells") pn rfl
   ·obtain⟨h',v1,e1,e2⟩:=hi v;exact SimAt.hard (v1:=v1) (by simp only[Sem.run,hv];exact e1) e2
   ·have m:k (.chan tm.cap tm.buf false tm.s tm.q tm.tm)=k (.chan 0 #[] false 0 0 tm.rt):=by
     rcases tm with⟨c,b,s,q,t,t',h|h⟩
     ·obtain⟨rfl,rfl,rfl,rfl,rfl⟩:=h;rfl
     ·obtain⟨rfl,rfl,rfl⟩:=h;exact A b s q
    obtain⟨h',v1,e1,e2⟩:=hc tm.rt v;exact SimAt.hard (v1:=v1) (by simp only[Sem.run,hv,m];exact e1) e2
def Sim.setObj (r:Nat) {o:Obj} (ho:fey o=true) (hr:N r) {k:Sem α} (hk:Sim P F N k):Sim P F N (.setObj r o k):=by
 intro H v w hN rel;have hH:=hN r hr;cases hv:v.heap[r]? with
 | none=>exact SimAt.hard (v1:=v) (h:=.stuck "setObj: no such block") pn rfl
 | some x=>
   have hw:w.heap[r]? =some x:=by rw[<- rel.same r hH,hv]
   have hlt:r<w.heap.size:=(fx5.1 hw).1;have m:r<v.heap.size:=by rw[rel.size];exact hlt
   have j:Rel H { v with heap:=v.heap.setIfInBounds r o } { w with heap:=w.heap.setIfInBounds r o }:=rel.setBlock hH (si ho) (λ_=>l7 ho);have hev: ∀ev∈(#[⟨.obj r,true,o.isChan⟩]:Array Event),EvOK H ({ w with heap:=w.heap.setIfInBounds r o }:World).heap.size ev:=by
    intro ev hev;simp at hev;subst hev;exact⟨by simpa using hlt,.inl hH⟩
   cases x with
   | cells c e f=>exact SimAt.hard (v1:=v) (h:=.stuck "setObj: a row of cells") pn rfl
   | _=>
     exact SimAt.trans (v':={ v with heap:=v.heap.setIfInBounds r o }) (w':={ w with heap:=w.heap.setIfInBounds r o }) 0 #[⟨.obj r,true,o.isChan⟩] fi rfl rfl rfl rfl hev j pn (λ_ es=>by simp[-Sem.runT_eq,Sem.runT,hw]) (hk H _ _ hN j)
end
section
variable {α β:Type} {P:Program} {F:Array Func} {N:Nat->Prop}
def Sim.bind' {e:Sem β} {f:β->Sem α} (he:Sim P F N e) (hf: ∀x,Sim P F N (f x)):Sim P F N (e >>= f):=Sim.bind he hf
def Sim.map' {e:Sem β} {f:β->α} (he:Sim P F N e):Sim P F N (f <$> e):=Sim.bind he λ_=>Sim.pure _
def Sim.pure' (x:α):Sim P F N (Pure.pure x:Sem α):=Sim.pure x
def Sim.stuck' (s:String):Sim P F N (Go.stuck s:Sem α):=Sim.stuck s
def Sim.unsupported' {u:Unsupported} (h: ∀r,u≠ .initOrder r):Sim P F N (Go.unsupported u:Sem α):=Sim.halt (by cases u <;>first|rfl|exact absurd rfl (h _))
def Sim.goPanic' (x:Value):Sim P F N (Go.goPanic x:Sem α):=Sim.panic x
def Sim.load' (a:Addr) (m:Mode):Sim P F N (Go.load a m):=Sim.load m a λx=>Sim.pure x
def Sim.store' (a:Addr) (x:Value) (m:Mode):Sim P F N (Go.store a x m):=Sim.store m a x (Sim.pure _)
def Sim.newObj' {o:Obj} (h:fey o=true):Sim P F N (Go.newObj o):=Sim.new h λr=>Sim.pure r
def Sim.choose' (q:Question):Sim P F N (Go.choose q):=Sim.choose q λn=>Sim.pure n
def Sim.programBind {f:Program->Sem α} (he:f (V P F)=f P) (h:Sim P F N (f P)):Sim P F N (Go.program >>= f):=by
 show Sim P F N (Sem.bind (Sem.program .pure) f);exact Sim.program he h
def Sim.markRoom':Sim P F N (Go.mark .noRoom):=Sim.markRoom (Sim.pure _)
def Sim.askRoom' (b:Nat):Sim P F N (Go.askRoom b):=by
 unfold Go.askRoom;split
 ·exact Sim.markRoom'
 ·exact Sim.pure _
def Sim.setObj' {r:Nat} {o:Obj} (ho:fey o=true) (hr:N r):Sim P F N (Go.setObj r o):=Sim.setObj r ho hr (Sim.pure _)
def Sim.getObj' (r:Nat) {f:Obj->Sem α} (hk: ∀o,Sim P F (λx=>N x\/x=r) (f o)) (hv:Vain (V P F) (f hidO))
    (hc: ∀tm,Sim P F N (f (.chan 0 #[] false 0 0 tm))) (hj: ∀j tm,f (.chan 0 #[] false 0 0 tm)=f (.chan 0 #[] false j j tm))
    (m: ∀b s q,f (.chan 1 b false s q true)=f (.chan 0 #[] false 0 0 false):=by intros;rfl):Sim P F N (Go.getObj r >>= f):=by
 show Sim P F N (Sem.bind (Sem.getObj r .pure) f);exact Sim.getObj r hk (.inr hv) hc hj m
def vd (s:String):Vain P (Go.stuck s:Sem α):=λv=>⟨_,v,rfl,rfl⟩
def xu {u:Unsupported} (h: ∀r,u≠ .initOrder r):Vain P (Go.unsupported u:Sem α):=λv=>⟨_,v,rfl,by cases u <;>first|rfl|exact absurd rfl (h _)⟩
def Sim.typeInfo' (t:TypeId):Sim P F N (typeInfo t):=by
 unfold typeInfo;refine Sim.programBind rfl ?_;split
 ·exact Sim.pure' _
 ·exact Sim.stuck' _
def Sim.underlying' (t:TypeId):Sim P F N (underlying t):=by
 unfold underlying;refine Sim.programBind rfl ?_;split
 ·exact Sim.pure' _
 ·exact Sim.stuck' _
def Sim.cutType' (n:String):Sim P F N (cutType n):=by
 unfold cutType;refine Sim.programBind rfl ?_;split
 ·exact Sim.pure' _
 ·exact Sim.stuck' _
def Sim.typeStr' (t:TypeId):Sim P F N (typeStr t):=by
 unfold typeStr;refine Sim.bind' (Sim.typeInfo' _) λi=>?_;simp only[];split
 ·exact Sim.unsupported' fi
 ·exact Sim.pure' _
def Sim.zeroValue' (t:TypeId):Sim P F N (zeroValue t):=by
 unfold zeroValue;refine Sim.bind' (Sim.typeInfo' _) λi=>?_;split
 ·exact Sim.pure' _
 ·exact Sim.unsupported' fi
def Sim.sizeOf' (t:TypeId):Sim P F N (Go.sizeOf t):=Sim.bind' (Sim.typeInfo' _) λ_=>Sim.pure' _
def Sim.isAgg' (t:TypeId):Sim P F N (isAgg t):=by
 unfold isAgg;refine Sim.bind' (Sim.underlying' _) λi=>?_;split <;>exact Sim.pure' _
def Sim.loadCellsFrom' (a:Addr): ∀(n i:Nat) (j:Array Value),Sim P F N (loadCellsFrom a i n j)
 | 0,_,_=>Sim.pure' _
 | n+1,_,_=>Sim.bind' (Sim.load' _ _) λ_=>Sim.loadCellsFrom' a n _ _
def Sim.loadCells' (a:Addr) (n:Nat):Sim P F N (loadCells a n):=Sim.loadCellsFrom' a n _ _
def Sim.storeCells' (a:Addr): ∀(vs:List Value) (i:Nat),Sim P F N (storeCells a vs i)
 | [],_=>by unfold storeCells;exact Sim.pure' _
 | v::rest,i=>by unfold storeCells;exact Sim.bind' (Sim.store' _ _ _) λ_=>Sim.storeCells' a rest _
def Sim.loadVar' (t:TypeId) (a:Addr):Sim P F N (loadVar t a):=by
 unfold loadVar;refine Sim.bind' (Sim.isAgg' _) λb=>?_;split
 ·exact Sim.bind' (Sim.sizeOf' _) λn=>Sim.bind' (Sim.loadCells' _ _) λx=>Sim.pure' _
 ·exact Sim.load' _ _
def Sim.storeVar' (t:TypeId) (a:Addr) (v:Value):Sim P F N (storeVar t a v):=by
 unfold storeVar;refine Sim.bind' (Sim.sizeOf' _) λn=>?_;simp only[];split
 ·exact Sim.bind' (Sim.stuck' _) λ_=>Sim.storeCells' _ _ _
 ·exact Sim.storeCells' _ _ _
def Sim.newRow' (t:TypeId) (c:Array Value):Sim P F N (newRow t c):=Sim.bind' (Sim.newObj' rfl) λ_=>Sim.pure' _
def Sim.newVar' (t:TypeId) (v:Value):Sim P F N (newVar t v):=Sim.newRow' _ _
def Sim.elemOf' (t:TypeId):Sim P F N (elemOf t):=by
 unfold elemOf;refine Sim.bind' (Sim.underlying' _) λi=>?_;split
 ·exact Sim.pure' _
 ·exact Sim.stuck' _
def Sim.part' (t:TypeId) (cs:Array Value) (o:Nat):Sim P F N (part t cs o):=by
 unfold part;refine Sim.bind' (Sim.isAgg' _) λb=>?_;split
 ·exact Sim.bind' (Sim.sizeOf' _) λn=>Sim.pure' _
 ·split
  ·exact Sim.pure' _
  ·exact Sim.stuck' _
def Sim.runtimePanic' (e:RuntimeError):Sim P F N (runtimePanic e:Sem α):=by
 unfold runtimePanic;refine Sim.programBind rfl ?_;split
 ·exact Sim.goPanic' _
 ·exact Sim.goPanic' _
 ·exact Sim.goPanic' _
 ·exact Sim.goPanic' _
 ·exact Sim.bind' (Sim.elemOf' _) λ_=>Sim.bind' (Sim.newVar' _ _) λ_=>Sim.goPanic' _
 ·exact Sim.bind' (Sim.elemOf' _) λ_=>Sim.bind' (Sim.newVar' _ _) λ_=>Sim.goPanic' _
 ·exact Sim.goPanic' _
def Sim.boundsPanic' (k:IntKind) (x y:Int) (c:BoundsCode):Sim P F N (boundsPanic k x y c:Sem α):=by
 unfold boundsPanic;split
 ·exact Sim.bind' (Sim.map' (Sim.choose' _)) λ_=>Sim.runtimePanic' _
 ·exact Sim.bind' (Sim.pure' _) λ_=>Sim.runtimePanic' _
def Sim.asIntOf' (v:Value):Sim P F N (asIntOf v):=by
 unfold asIntOf;split
 ·exact Sim.pure' _
 ·exact Sim.unsupported' fi
 ·exact Sim.stuck' _
def Sim.asInt' (v:Value):Sim P F N (asInt v):=Sim.bind' (Sim.asIntOf' _) λ_=>Sim.pure' _
def Sim.asBool' (v:Value):Sim P F N (asBool v):=by unfold asBool;split;exact Sim.pure' _;exact Sim.stuck' _
def Sim.asString' (v:Value):Sim P F N (asString v):=by unfold asString;split;exact Sim.pure' _;exact Sim.stuck' _
def Sim.asAgg' (v:Value):Sim P F N (asAgg v):=by unfold asAgg;split;exact Sim.pure' _;exact Sim.stuck' _
def Sim.asAddr' (v:Value):Sim P F N (asAddr v):=by
 unfold asAddr;split
 ·exact Sim.pure' _
 ·exact Sim.runtimePanic' _
 ·exact Sim.stuck' _
def Sim.panicString' (s:String):Sim P F N (panicString s:Sem α):=by unfold panicString;exact Sim.programBind rfl (Sim.goPanic' _)
def Sim.shape' (r:Nat) {f:Option (TypeId×Nat)->Sem α} (hk: ∀s,Sim P F N (f s)) (hi: ∀e n,f (some (e,0))=f (some (e,n))\/Vain (V P F) (f (some (e,0)))):Sim P F N (Go.shape r >>= f):=by
 show Sim P F N (Sem.bind (Sem.shape r .pure) f);exact Sim.shape r hk hi
def Sim.viewAt' (r:Nat):Sim P F N (viewAt r):=by
 unfold viewAt;refine Sim.shape' r (λs=>?_) (λe n=>.inl rfl);split
 ·exact Sim.pure' _
 ·show Sim P F N (Sem.bind (Sem.getObj r .pure) _);refine Sim.getObj r (λo=>?_) (.inl ⟨Sim.pure' _,λo' hm=>by cases o' <;>first|rfl|cases hm⟩) (λ_=>Sim.pure' _) (λ_ _=>rfl);show Sim P F _ ((match o with
   | .view a t=>Pure.pure (some (a,t))
   | _=>Pure.pure none:Sem (Option (Addr×TypeId))))
  split <;>exact Sim.pure' _
def Sim.numberAt' (r:Nat):Sim P F N (numberAt r):=by
 unfold numberAt;refine Sim.shape' r (λs=>?_) (λe n=>.inl rfl);split
 ·exact Sim.pure' _
 ·show Sim P F N (Sem.bind (Sem.getObj r .pure) _);refine Sim.getObj r (λo=>?_) (.inl ⟨Sim.pure' _,λo' hm=>by cases o' <;>first|rfl|cases hm⟩) (λ_=>Sim.pure' _) (λ_ _=>rfl);show Sim P F _ ((match o with
   | .number a t=>Pure.pure (some (a,t))
   | _=>Pure.pure none:Sem (Option (Addr×Bool))))
  split <;>exact Sim.pure' _
def Sim.noView' (a:Addr):Sim P F N (noView a):=by
 unfold noView;refine Sim.bind' (Sim.viewAt' _) λx=>?_;split
 ·exact Sim.unsupported' fi
 ·exact Sim.pure' _
def Sim.behindNumber' (a:Addr):Sim P F N (behindNumber a):=Sim.bind' (Sim.numberAt' _) λ_=>Sim.pure' _
def Sim.byteOf' (a:Addr):Sim P F N (byteOf a):=by
 unfold byteOf;split
 ·exact Sim.pure' _
 ·refine Sim.programBind (by simp only[vf,yw,zg,yj]) (Sim.bind' (Sim.noView' _) λ_=>Sim.shape' _ (λs=>?_) (λe n=>.inl rfl));split
  ·simp only[];split
   ·exact Sim.pure' _
   ·split
    ·exact Sim.pure' _
    ·exact Sim.stuck' _
  ·exact Sim.stuck' _
def Rel.frozenAny {H:Hide} {v w:World} (rel:Rel H v w) (a:Addr):w.frozen? a=v.frozen? a:=by
 cases hH:H a.block with
 | none=>exact rel.frozen hH
 | some o=>
   obtain⟨hv,hr⟩:=rel.laid _ _ hH;rcases hr with⟨e,c,rfl,hw⟩|⟨rfl,o',hm,hw⟩|⟨tm,j,rfl,hw⟩
   ·simp[World.frozen?,hv,hw]
   ·cases o' <;>first|(cases hm;done)|simp[World.frozen?,hv,hw]
   ·simp[World.frozen?,hv,hw]
def Sim.frozen' (a:Addr) {f:Bool->Sem α} (hk: ∀b,Sim P F N (f b)):Sim P F N (Go.frozen a >>= f):=by
 show Sim P F N (Sem.bind (Sem.frozen a .pure) f);intro H v w hN rel;refine SimAt.eq (e':=f (v.frozen? a)) rel rfl (λes=>?_) (hk _ H v w hN rel);rw[<- rel.frozenAny];rfl
def strOf (w:World) (a:Addr):Bool:=
 w.frozen? a||match w.shape? a.block with
    | some (_,n)=>w.frozen? { block:=a.block,off:=n }
    | none=>false
def mx (a:Addr) (w:World) (es:Array Event):(stringish a).runT P w es=(.ok (strOf w a) w,es):=by
 unfold stringish strOf;cases h:w.frozen? a <;>cases hs:w.shape? a.block <;>simp[-Sem.runT_eq,Bind.bind,Pure.pure,Sem.bind,Sem.runT,Go.frozen,Go.shape,h,hs]
def ffi (w:World) (a:Addr):Bool:=match w.shape? a.block with
 | some (_,0)=>true
 | _=>false
def fcw (w:World) (a b:Addr):Bool:=(strOf w a&&strOf w b)||(strOf w a&&ffi w a)||(strOf w b&&ffi w b)
def fbb {e:Sem β} {f:β->Sem α} {w w':World} {es j:Array Event} {x:β} (h:e.runT P w es=(.ok x w',j)):(e >>= f).runT P w es=(f x).runT P w' j:=by
 show(Sem.bind e f).runT P w es=_;rw[f5w,h]
def f6w (a b:Addr) (w:World) (es:Array Event):(mayBeOne a b).runT P w es=(.ok (fcw w a b) w,es):=by
 unfold mayBeOne fcw;simp only[];rw[fbb (mx a w es),fbb (mx b w es)];unfold ffi;cases ha:w.shape? a.block with
 | none=>cases hb:w.shape? b.block with
   | none=>simp[-Sem.runT_eq,Bind.bind,Pure.pure,Sem.bind,Sem.runT,Go.shape,ha,hb]
   | some y=>obtain⟨y1,y2⟩:=y;cases y2 <;>simp[-Sem.runT_eq,Bind.bind,Pure.pure,Sem.bind,Sem.runT,Go.shape,ha,hb]
 | some x=>obtain⟨x1,x2⟩:=x;cases hb:w.shape? b.block with
   | none=>cases x2 <;>simp[-Sem.runT_eq,Bind.bind,Pure.pure,Sem.bind,Sem.runT,Go.shape,ha,hb]
   | some y=>obtain⟨y1,y2⟩:=y;cases x2 <;>cases y2 <;>simp[-Sem.runT_eq,Bind.bind,Pure.pure,Sem.bind,Sem.runT,Go.shape,ha,hb]
def Rel.strOf {H:Hide} {v w:World} (rel:Rel H v w) (a:Addr):YtelecjnabeokeaaGreatDoor.strOf w a=YtelecjnabeokeaaGreatDoor.strOf v a:=by
 unfold YtelecjnabeokeaaGreatDoor.strOf;rw[rel.frozenAny];cases hH:H a.block with
 | none=>unfold World.shape?;rw[rel.same _ hH];simp only[rel.frozenAny]
 | some o=>
   obtain⟨hv,hr⟩:=rel.laid _ _ hH;rcases hr with⟨e,c,rfl,hw⟩|⟨rfl,o',hm,hw⟩|⟨tm,j,rfl,hw⟩
   ·simp[World.frozen?,World.shape?,hv,hw]
   ·cases o' <;>first|(cases hm;done)|simp[World.frozen?,World.shape?,hv,hw]
   ·simp[World.frozen?,World.shape?,hv,hw]
def Rel.strHidden {H:Hide} {v w:World} (rel:Rel H v w) {a:Addr} (h:H a.block≠none):YtelecjnabeokeaaGreatDoor.strOf v a=false:=by
 unfold YtelecjnabeokeaaGreatDoor.strOf;cases hH:H a.block with
 | none=>exact absurd hH h
 | some o=>
   obtain⟨hv,hr⟩:=rel.laid _ _ hH;rcases hr with⟨e,c,rfl,hw⟩|⟨rfl,o',hm,hw⟩|⟨tm,j,rfl,hw⟩ <;>simp[World.frozen?,World.shape?,hv]
def Rel.strZero {H:Hide} {v w:World} (rel:Rel H v w) (a:Addr):(YtelecjnabeokeaaGreatDoor.strOf v a&&ffi w a)=(YtelecjnabeokeaaGreatDoor.strOf v a&&ffi v a):=by
 by_cases h:H a.block=none
 ·unfold ffi World.shape?;rw[rel.same _ h]
 ·rw[rel.strHidden h];rfl
def Sim.mayBeOne' (a b:Addr):Sim P F N (mayBeOne a b):=by
 intro H v w _ rel
 have e:fcw w a b=fcw v a b:=by
    unfold fcw;rw[rel.strOf,rel.strOf,rel.strZero,rel.strZero]
 refine SimAt.eq (e':=Sem.pure (fcw v a b)) rel ?_ (λes=>?_) (SimAt.pure rel _)
 ·rw[<- f0d (V P F) _ v #[],f6w];rfl
 ·rw[f6w,e];rfl
def fbc (a b:Addr):Sim P F N (sameAddr a b):=by
 unfold sameAddr;split
 ·exact Sim.pure' _
 ·refine Sim.frozen' a λfa=>?_;simp only[]
  have j:Sim P F N (do
       noView a
       noView b
       if <- mayBeOne a b then return (<- choose (.extern "sameAddr.stringBytes" 2))==1
       pure false):=by
   refine Sim.bind' (Sim.noView' _) λ_=>Sim.bind' (Sim.noView' _) λ_=>Sim.bind' (Sim.mayBeOne' _ _) λm=>?_;split
   ·exact Sim.bind' (Sim.choose' _) λ_=>Sim.pure' _
   ·exact Sim.pure' _
  cases fa with
  | true=>
    refine Sim.frozen' b λfb=>?_;cases fb with
    | true=>exact Sim.bind' (Sim.unsupported' fi) λ_=>j
    | false=>exact j
  | false=>
    refine Sim.frozen' b λfb=>?_;cases fb <;>exact j
def Sim.samePointer' (x y:Option Addr):Sim P F N (samePointer x y):=by
 unfold samePointer;split
 ·exact fbc _ _
 ·exact Sim.pure' _
end
section
variable {α β γ:Type} {P:Program} {F:Array Func} {N:Nat->Prop}
def VT {a b:α} (h:a=b):a=b:=h
def ct (f:γ->β->Sem (ForInStep β)) (h: ∀x b,Sim P F N (f x b)): ∀(l:List γ) (b:β),Sim P F N (forIn l b f)
 | [],b=>by rw[List.forIn_nil];exact Sim.pure' _
 | x::l,b=>by
   rw[List.forIn_cons];refine Sim.bind' (h x b) λr=>?_;split
   ·exact Sim.pure' _
   ·exact ct f h l _
def fcx (f:γ->β->Sem (ForInStep β)) (h: ∀x b,Sim P F N (f x b)) (l:Array γ) (b:β):Sim P F N (forIn l b f):=by
 rw[<- Array.forIn_toList];exact ct f h _ _
def fcy (f:Nat->β->Sem (ForInStep β)) (h: ∀x b,Sim P F N (f x b)) (r:Std.Legacy.Range) (b:β):Sim P F N (forIn r b f):=by
 rw[Std.Legacy.Range.forIn_eq_forIn_range'];exact ct f h _ _
def su (f:γ->Sem β) (h: ∀x,Sim P F N (f x)): ∀(l:List γ),Sim P F N (l.mapM f)
 | []=>by rw[List.mapM_nil];exact Sim.pure' _
 | x::l=>by
   rw[List.mapM_cons];exact Sim.bind' (h x) λ_=>Sim.bind' (su f h l) λ_=>Sim.pure' _
def cw (f:γ->Sem β) (h: ∀x,Sim P F N (f x)) (l:Array γ):Sim P F N (l.mapM f):=by
 rw[f3y];exact Sim.map' (su f h _)
def Sim.pureBind {x:β} {f:β->Sem α} (h:Sim P F N (f x)):Sim P F N (Pure.pure x >>= f):=h
def Sim.stuckBind (s:String) (f:β->Sem α):Sim P F N (Go.stuck s >>= f):=Sim.stuck s
def au {e:Sem β} (h:Vain P e) (f:β->Sem α):Vain P (e >>= f):=λv=>by
 obtain⟨h',v1,e1,e2⟩:=h v;exact⟨h',v1,f2r e1,e2⟩
class SimI (P:Program) (F:Array Func) (N:Nat->Prop) {α:Type} (e:Sem α):Prop where
 out:Sim P F N e
def sm0 {e:Sem α} [h:SimI P F N e]:Sim P F N e:=h.out
def sm1 {o:Obj} (h:fey o=true):Sim P F N (Go.newObj o):=Sim.newObj' h
def sm2 {u:Unsupported} (h: ∀r,u≠ .initOrder r):Sim P F N (Go.unsupported u:Sem α):=Sim.unsupported' h
def sm3 {f:Program->Sem α} (he:f (V P F)=f P) (h:Sim P F N (f P)):Sim P F N (Go.program >>= f):=Sim.programBind he h
def sm4 {e:Sem β} {f:β->Sem α} (he:Sim P F N e) (hf: ∀x,Sim P F N (f x)):Sim P F N (e >>= f):=Sim.bind' he hf
def sm5 (f:γ->β->Sem (ForInStep β)) (h: ∀x b,Sim P F N (f x b)) (l:Array γ) (b:β):Sim P F N (forIn l b f):=fcx f h l b
def sm6 (f:Nat->β->Sem (ForInStep β)) (h: ∀x b,Sim P F N (f x b)) (r:Std.Legacy.Range) (b:β):Sim P F N (forIn r b f):=fcy f h r b
def sm7 (f:γ->Sem β) (h: ∀x,Sim P F N (f x)) (l:Array γ):Sim P F N (l.mapM f):=cw f h l
def sm8 {e:Sem β} {f:β->α} (he:Sim P F N e):Sim P F N (f <$> e):=Sim.map' he
def smA {p:Prop} (h:p:=by repeat' first|with_reducible (first|exact sm0|exact sm1 rfl|exact sm2 fi|exact ih _|exact ih _ _|exact ih _ _ _|refine sm3 ?_ ?_|refine sm4 ?_ ?_|refine sm5 _ ?_ _ _|refine sm6 _ ?_ _ _|refine sm7 _ ?_ _|refine sm8 ?_|intro _)|(refine VT ?_;first|(simp only[VV];done)|rfl)|split|dsimp only):p:=h
def VV:= @And.intro _ _ @fkd<| @And.intro _ _ @V_rt<| @And.intro _ _ @fpe<| @And.intro _ _ @m8<| @And.intro _ _ @fpf<| @And.intro _ _ @fcr<| @And.intro _ _ @rq<| @And.intro _ _ @vf<| @And.intro _ _ @yj<| @And.intro _ _ @yw<| @And.intro _ _ @xm<| @And.intro _ _ @zg<| @And.intro _ _ @iw<| @And.intro _ _ @fgh<| @And.intro _ _ @zd<| @And.intro _ _ @nx<| @And.intro _ _ @fpg<| @And.intro _ _ @mu<| @And.intro _ _ @ffh<| @And.intro _ _ @f7c<| @And.intro _ _ @yk<| @And.intro _ _ @fex<| @And.intro _ _ @fx1<| @And.intro _ _ @zp<| @And.intro _ _ @oy<| @And.intro _ _ @ii<| @And.intro _ _ @fke<| @And.intro _ _ @ix<| @s9
instance (x:α):SimI P F N (Pure.pure x:Sem α):=⟨Sim.pure' x⟩
instance (s:String):SimI P F N (Go.stuck s:Sem α):=⟨Sim.stuck' s⟩
instance (x:Value):SimI P F N (Go.goPanic x:Sem α):=⟨Sim.goPanic' x⟩
instance (q:Question):SimI P F N (Go.choose q):=⟨Sim.choose' q⟩
instance (t:TypeId):SimI P F N (typeInfo t):=⟨Sim.typeInfo' t⟩
instance (t:TypeId):SimI P F N (underlying t):=⟨Sim.underlying' t⟩
instance (n:String):SimI P F N (cutType n):=⟨Sim.cutType' n⟩
instance (t:TypeId):SimI P F N (typeStr t):=⟨Sim.typeStr' t⟩
instance (t:TypeId):SimI P F N (zeroValue t):=⟨Sim.zeroValue' t⟩
instance (t:TypeId):SimI P F N (Go.sizeOf t):=⟨Sim.sizeOf' t⟩
instance (t:TypeId):SimI P F N (isAgg t):=⟨Sim.isAgg' t⟩
instance (a:Addr) (n:Nat):SimI P F N (loadCells a n):=⟨Sim.loadCells' a n⟩
instance (a:Addr) (vs:List Value) (i:Nat):SimI P F N (storeCells a vs i):=⟨Sim.storeCells' a vs i⟩
instance (t:TypeId) (a:Addr):SimI P F N (loadVar t a):=⟨Sim.loadVar' t a⟩
instance (t:TypeId) (a:Addr) (v:Value):SimI P F N (storeVar t a v):=⟨Sim.storeVar' t a v⟩
instance (t:TypeId) (c:Array Value):SimI P F N (newRow t c):=⟨Sim.newRow' t c⟩
instance (t:TypeId) (v:Value):SimI P F N (newVar t v):=⟨Sim.newVar' t v⟩
instance (t:TypeId):SimI P F N (elemOf t):=⟨Sim.elemOf' t⟩
instance (t:TypeId) (cs:Array Value) (o:Nat):SimI P F N (part t cs o):=⟨Sim.part' t cs o⟩
instance (e:RuntimeError):SimI P F N (runtimePanic e:Sem α):=⟨Sim.runtimePanic' e⟩
instance (k:IntKind) (x y:Int) (c:BoundsCode):SimI P F N (boundsPanic k x y c:Sem α):=⟨Sim.boundsPanic' k x y c⟩
instance (v:Value):SimI P F N (asIntOf v):=⟨Sim.asIntOf' v⟩
instance (v:Value):SimI P F N (asInt v):=⟨Sim.asInt' v⟩
instance (v:Value):SimI P F N (asBool v):=⟨Sim.asBool' v⟩
instance (v:Value):SimI P F N (asString v):=⟨Sim.asString' v⟩
instance (v:Value):SimI P F N (asAgg v):=⟨Sim.asAgg' v⟩
instance (v:Value):SimI P F N (asAddr v):=⟨Sim.asAddr' v⟩
instance (s:String):SimI P F N (panicString s:Sem α):=⟨Sim.panicString' s⟩
instance (r:Nat):SimI P F N (viewAt r):=⟨Sim.viewAt' r⟩
instance (r:Nat):SimI P F N (numberAt r):=⟨Sim.numberAt' r⟩
instance (a:Addr):SimI P F N (noView a):=⟨Sim.noView' a⟩
instance (a:Addr):SimI P F N (behindNumber a):=⟨Sim.behindNumber' a⟩
instance (a:Addr):SimI P F N (byteOf a):=⟨Sim.byteOf' a⟩
instance (a b:Addr):SimI P F N (sameAddr a b):=⟨fbc a b⟩
instance (x y:Option Addr):SimI P F N (samePointer x y):=⟨Sim.samePointer' x y⟩
instance (a:Addr) (m:Mode):SimI P F N (Go.load a m):=⟨Sim.load' a m⟩
instance (a:Addr) (x:Value) (m:Mode):SimI P F N (Go.store a x m):=⟨Sim.store' a x m⟩
instance (b:Nat):SimI P F N (Go.askRoom b):=⟨Sim.askRoom' b⟩
def fcz: ∀(d:Nat) (t:TypeId) (x y:Value),Sim P F N (Op.equalIn d t x y)
 | 0,_,_,_=>by
   unfold Op.equalIn;exact smA
 | d+1,_,_,_=>by
   unfold Op.equalIn;have ih:=fcz d;exact smA
instance (d:Nat) (t:TypeId) (x y:Value):SimI P F N (Op.equalIn d t x y):=⟨fcz d t x y⟩
def fpl (t:TypeId) (x y:Value):Sim P F N (Op.equal t x y):=by
 unfold Op.equal;exact smA
instance (t:TypeId) (x y:Value):SimI P F N (Op.equal t x y):=⟨fpl t x y⟩
def sw: ∀(d:Nat) (t:TypeId) (x y:Value),Sim P F N (Op.eqGuardIn d t x y)
 | 0,_,_,_=>by
   unfold Op.eqGuardIn;exact smA
 | d+1,_,_,_=>by
   unfold Op.eqGuardIn;have ih:=sw d;exact smA
instance (d:Nat) (t:TypeId) (x y:Value):SimI P F N (Op.eqGuardIn d t x y):=⟨sw d t x y⟩
def fd0 (op:BinOp) (t:TypeId) (x y:Operand) (a b:Value):Sim P F N (eqGuard op t x y a b):=by
 unfold eqGuard;exact smA
instance (op:BinOp) (t:TypeId) (x y:Operand) (a b:Value):SimI P F N (eqGuard op t x y a b):=⟨fd0 op t x y a b⟩
def fbd: ∀(e:Bool) (d:Nat) (t:TypeId) (x:Value),Sim P F N (Instr.checkKey e d t x)
 | _,0,_,_=>by
   unfold Instr.checkKey;exact smA
 | e,d+1,_,_=>by
   unfold Instr.checkKey;have ih:=fbd e d;exact smA
instance (e:Bool) (d:Nat) (t:TypeId) (x:Value):SimI P F N (Instr.checkKey e d t x):=⟨fbd e d t x⟩
def my: ∀(t:TypeId) (k:Value) (l:List MapEntry) (i:Nat),Sim P F N (Instr.findAsking t k l i)
 | _,_,[],_=>by
   unfold Instr.findAsking;exact smA
 | t,k,_::l,_=>by
   unfold Instr.findAsking;have ih:=my t k l;exact smA
instance (t:TypeId) (k:Value) (l:List MapEntry) (i:Nat):SimI P F N (Instr.findAsking t k l i):=⟨my t k l i⟩
def fkg (t:TypeId) (k:Value) (l:List MapEntry):Sim P F N (Instr.findKey t k l):=by
 unfold Instr.findKey;exact smA
instance (t:TypeId) (k:Value) (l:List MapEntry):SimI P F N (Instr.findKey t k l):=⟨fkg t k l⟩
def fhz (op:BinOp) (k:IntKind) (x y:Int):Sim P F N (Op.intArith op k x y):=by
 unfold Op.intArith;exact smA
instance (op:BinOp) (k:IntKind) (x y:Int):SimI P F N (Op.intArith op k x y):=⟨fhz op k x y⟩
def fnu (op:BinOp) (k:IntKind) (x y:Int):Sim P F N (Op.intDiv op k x y):=by
 unfold Op.intDiv;exact smA
instance (op:BinOp) (k:IntKind) (x y:Int):SimI P F N (Op.intDiv op k x y):=⟨fnu op k x y⟩
def fkh (op:BinOp) (k:IntKind) (x y:Int):Sim P F N (Op.intBits op k x y):=by
 unfold Op.intBits;exact smA
instance (op:BinOp) (k:IntKind) (x y:Int):SimI P F N (Op.intBits op k x y):=⟨fkh op k x y⟩
def fnv (op:BinOp) (x y:Int):Sim P F N (Op.intCmp op x y):=by
 unfold Op.intCmp;exact smA
instance (op:BinOp) (x y:Int):SimI P F N (Op.intCmp op x y):=⟨fnv op x y⟩
def fpm (op:BinOp) (k:IntKind) (x:Int) (k':IntKind) (y:Int):Sim P F N (Op.shift op k x k' y):=by
 unfold Op.shift;exact smA
instance (op:BinOp) (k:IntKind) (x:Int) (k':IntKind) (y:Int):SimI P F N (Op.shift op k x k' y):=⟨fpm op k x k' y⟩
def fi0 (op:BinOp) (x y:ByteArray):Sim P F N (Op.stringOp op x y):=by
 unfold Op.stringOp;exact smA
instance (op:BinOp) (x y:ByteArray):SimI P F N (Op.stringOp op x y):=⟨fi0 op x y⟩
def fi1 (op:UnOp) (x:Value):Sim P F N (Op.unary op x):=by
 unfold Op.unary;exact smA
instance (op:UnOp) (x:Value):SimI P F N (Op.unary op x):=⟨fi1 op x⟩
def fi2 (x:Value):Sim P F N (Instr.sureAddr x):=by
 unfold Instr.sureAddr;exact smA
instance (x:Value):SimI P F N (Instr.sureAddr x):=⟨fi2 x⟩
def fah (t:TypeId) (x:Value):Sim P F N (Instr.loadAt t x):=by
 unfold Instr.loadAt;exact smA
instance (t:TypeId) (x:Value):SimI P F N (Instr.loadAt t x):=⟨fah t x⟩
def ny (t:TypeId) (x v:Value):Sim P F N (Instr.storeAt t x v):=by
 unfold Instr.storeAt;exact smA
instance (t:TypeId) (x v:Value):SimI P F N (Instr.storeAt t x v):=⟨ny t x v⟩
def fnw (a:Addr) (c b:Nat):Sim P F N (partAt a c b):=by
 unfold partAt;exact smA
instance (a:Addr) (c b:Nat):SimI P F N (partAt a c b):=⟨fnw a c b⟩
def ff1 (a:Addr) (f:Field):Sim P F N (fieldPlace a f):=by
 unfold fieldPlace;exact smA
instance (a:Addr) (f:Field):SimI P F N (fieldPlace a f):=⟨ff1 a f⟩
def fd1 (s:TypeId) (x:Value) (f:Nat):Sim P F N (Instr.fieldAt s x f):=by
 unfold Instr.fieldAt;exact smA
instance (s:TypeId) (x:Value) (f:Nat):SimI P F N (Instr.fieldAt s x f):=⟨fd1 s x f⟩
def fd2 (t:TypeId) (x i:Value):Sim P F N (Instr.indexAt t x i):=by
 unfold Instr.indexAt;exact smA
instance (t:TypeId) (x i:Value):SimI P F N (Instr.indexAt t x i):=⟨fd2 t x i⟩
def fi3 (t:TypeId) (h:Bool) (o:Value):Sim P F N (Instr.alloc t h o):=by
 unfold Instr.alloc;exact smA
instance (t:TypeId) (h:Bool) (o:Value):SimI P F N (Instr.alloc t h o):=⟨fi3 t h o⟩
def fpn (t:TypeId) (v:Value):Sim P F N (Instr.box t v):=by
 unfold Instr.box;exact smA
instance (t:TypeId) (v:Value):SimI P F N (Instr.box t v):=⟨fpn t v⟩
def fi4 (t:TypeId) (ps:Array (Nat×Value)):Sim P F N (Instr.build t ps):=by
 unfold Instr.build;exact smA
instance (t:TypeId) (ps:Array (Nat×Value)):SimI P F N (Instr.build t ps):=⟨fi4 t ps⟩
def mz (t:TypeId) (l:Nat) (ps:Array (Nat×Value)):Sim P F N (Instr.buildSlice t l ps):=by
 unfold Instr.buildSlice;exact smA
instance (t:TypeId) (l:Nat) (ps:Array (Nat×Value)):SimI P F N (Instr.buildSlice t l ps):=⟨mz t l ps⟩
def ff2 (x:Value) (y:Nat) (c:BoundsCode):Sim P F N (Instr.sliceBound x y c):=by
 unfold Instr.sliceBound;exact smA
instance (x:Value) (y:Nat) (c:BoundsCode):SimI P F N (Instr.sliceBound x y c):=⟨ff2 x y c⟩
def fd3 (b:Bool) (l c:Nat) (x y z:Option Value):Sim P F N (Instr.sliceBounds b l c x y z):=by
 unfold Instr.sliceBounds;exact smA
instance (b:Bool) (l c:Nat) (x y z:Option Value):SimI P F N (Instr.sliceBounds b l c x y z):=⟨fd3 b l c x y z⟩
def fpo (t:TypeId) (v:Value) (x y z:Option Value):Sim P F N (Instr.slice t v x y z):=by
 unfold Instr.slice;exact smA
instance (t:TypeId) (v:Value) (x y z:Option Value):SimI P F N (Instr.slice t v x y z):=⟨fpo t v x y z⟩
def fd4 (t:TypeId) (v:Value) (x y z:Option Value):Sim P F N (Instr.sliceAt t v x y z):=by
 unfold Instr.sliceAt;exact smA
instance (t:TypeId) (v:Value) (x y z:Option Value):SimI P F N (Instr.sliceAt t v x y z):=⟨fd4 t v x y z⟩
def fbe (t:TypeId) (v:Value):Sim P F N (Instr.makeChan t v):=by
 unfold Instr.makeChan;exact smA
instance (t:TypeId) (v:Value):SimI P F N (Instr.makeChan t v):=⟨fbe t v⟩
def fbf (f:Fn) (x y:Array Value):Sim P F N (Instr.makeFunc f x y):=by
 unfold Instr.makeFunc;exact smA
instance (f:Fn) (x y:Array Value):SimI P F N (Instr.makeFunc f x y):=⟨fbf f x y⟩
def df (t:TypeId) (v:Value):Sim P F N (Instr.makeInterface t v):=by
 unfold Instr.makeInterface;exact smA
instance (t:TypeId) (v:Value):SimI P F N (Instr.makeInterface t v):=⟨df t v⟩
def fd5 (t:TypeId) (v:Option Value):Sim P F N (Instr.makeMap t v):=by
 unfold Instr.makeMap;exact smA
instance (t:TypeId) (v:Option Value):SimI P F N (Instr.makeMap t v):=⟨fd5 t v⟩
def sx (t:TypeId) (v x:Value):Sim P F N (Instr.makeSlice t v x):=by
 unfold Instr.makeSlice;exact smA
instance (t:TypeId) (v x:Value):SimI P F N (Instr.makeSlice t v x):=⟨sx t v x⟩
def fd6 (v:Value) (i:Nat):Sim P F N (Instr.extract v i):=by
 unfold Instr.extract;exact smA
instance (v:Value) (i:Nat):SimI P F N (Instr.extract v i):=⟨fd6 v i⟩
def n9 (x:Value) (s t:TypeId) (b:Bool):Sim P F N (Instr.typeAssert x s t b):=by
 unfold Instr.typeAssert;exact smA
instance (x:Value) (s t:TypeId) (b:Bool):SimI P F N (Instr.typeAssert x s t b):=⟨n9 x s t b⟩
def ffj (t:TypeId) (x i:Value) (b:Bool):Sim P F N (Instr.lookup t x i b):=by
 unfold Instr.lookup;repeat' first|with_reducible (first|exact sm0|exact sm1 rfl|exact sm2 fi|exact vd _|exact au (vd _) _|refine Sim.getObj' _ (λ_=>?_) ?_ (λ_=>?_) (λ_ _=>?_) (λ_ _ _=>?_)|contradiction|refine sm3 ?_ ?_|refine sm4 ?_ ?_|refine sm5 _ ?_ _ _|refine sm6 _ ?_ _ _|refine sm7 _ ?_ _|refine sm8 ?_|intro _)|(refine VT ?_;first|(simp only[VV];done)|rfl)|split|dsimp only
instance (t:TypeId) (x i:Value) (b:Bool):SimI P F N (Instr.lookup t x i b):=⟨ffj t x i b⟩
def fbw (x y:Value):Sim P F N (Instr.keyThatStays x y):=by
 unfold Instr.keyThatStays;exact smA
instance (x y:Value):SimI P F N (Instr.keyThatStays x y):=⟨fbw x y⟩
def t4 (t:TypeId) (m k v:Value):Sim P F N (Instr.mapUpdate t m k v):=by
 unfold Instr.mapUpdate;repeat' first|with_reducible (first|exact sm0|exact sm1 rfl|exact sm2 fi|exact vd _|exact au (vd _) _|refine Sim.getObj' _ (λ_=>?_) ?_ (λ_=>?_) (λ_ _=>?_) (λ_ _ _=>?_)|contradiction|exact Sim.setObj' rfl (.inr rfl)|refine sm3 ?_ ?_|refine sm4 ?_ ?_|refine sm5 _ ?_ _ _|refine sm6 _ ?_ _ _|refine sm7 _ ?_ _|refine sm8 ?_|intro _)|(refine VT ?_;first|(simp only[VV];done)|rfl)|split|dsimp only
instance (t:TypeId) (m k v:Value):SimI P F N (Instr.mapUpdate t m k v):=⟨t4 t m k v⟩
def fi5 (t:TypeId) (x:Value):Sim P F N (Instr.range t x):=by
 unfold Instr.range;repeat' first|with_reducible (first|exact sm0|exact sm1 rfl|exact sm2 fi|exact vd _|exact au (vd _) _|refine Sim.getObj' _ (λ_=>?_) ?_ (λ_=>?_) (λ_ _=>?_) (λ_ _ _=>?_)|contradiction|refine Sim.pureBind ?_|exact Sim.stuckBind _ _|split|refine sm3 ?_ ?_|refine sm4 ?_ ?_|refine sm5 _ ?_ _ _|refine sm6 _ ?_ _ _|refine sm7 _ ?_ _|refine sm8 ?_|intro _)|(refine VT ?_;first|(simp only[VV];done)|rfl)|split|dsimp only
instance (t:TypeId) (x:Value):SimI P F N (Instr.range t x):=⟨fi5 t x⟩
def fpp (ts:Array TypeId) (t:TypeId) (xs:Array Value):Sim P F N (Builtin.len_ ts t xs):=by
 unfold Builtin.len_;repeat' first|with_reducible (first|exact sm0|exact sm1 rfl|exact sm2 fi|exact vd _|exact au (vd _) _|refine Sim.getObj' _ (λ_=>?_) ?_ (λ_=>?_) (λ_ _=>?_) (λ_ _ _=>?_)|contradiction|refine sm3 ?_ ?_|refine sm4 ?_ ?_|refine sm5 _ ?_ _ _|refine sm6 _ ?_ _ _|refine sm7 _ ?_ _|refine sm8 ?_|intro _)|(refine VT ?_;first|(simp only[VV];done)|rfl)|split|dsimp only
instance (ts:Array TypeId) (t:TypeId) (xs:Array Value):SimI P F N (Builtin.len_ ts t xs):=⟨fpp ts t xs⟩
def fpq (ts:Array TypeId) (t:TypeId) (xs:Array Value):Sim P F N (Builtin.cap_ ts t xs):=by
 unfold Builtin.cap_;repeat' first|with_reducible (first|exact sm0|exact sm1 rfl|exact sm2 fi|exact vd _|exact au (vd _) _|refine Sim.getObj' _ (λ_=>?_) ?_ (λ_=>?_) (λ_ _=>?_) (λ_ _ _=>?_)|contradiction|refine sm3 ?_ ?_|refine sm4 ?_ ?_|refine sm5 _ ?_ _ _|refine sm6 _ ?_ _ _|refine sm7 _ ?_ _|refine sm8 ?_|intro _)|(refine VT ?_;first|(simp only[VV];done)|rfl)|split|dsimp only
instance (ts:Array TypeId) (t:TypeId) (xs:Array Value):SimI P F N (Builtin.cap_ ts t xs):=⟨fpq ts t xs⟩
def fm3 (x:Value) (b:Bool) (t:TypeId):Sim P F N (Instr.next x b t):=by
 unfold Instr.next;repeat' first|with_reducible (first|exact sm0|exact sm1 rfl|exact sm2 fi|exact vd _|exact au (vd _) _|refine Sim.getObj' _ (λ_=>?_) ?_ (λ_=>?_) (λ_ _=>?_) (λ_ _ _=>?_)|contradiction|exact Sim.setObj' rfl (.inr rfl)|exact Sim.setObj' rfl (.inl (.inr rfl))|refine sm3 ?_ ?_|refine sm4 ?_ ?_|refine sm5 _ ?_ _ _|refine sm6 _ ?_ _ _|refine sm7 _ ?_ _|refine sm8 ?_|intro _)|(refine VT ?_;first|(simp only[VV];done)|rfl)|split|dsimp only
instance (x:Value) (b:Bool) (t:TypeId):SimI P F N (Instr.next x b t):=⟨fm3 x b t⟩
def fi6 (x:Value):Sim P F N (Instr.entry x):=by
 unfold Instr.entry;repeat' first|with_reducible (first|exact sm0|exact sm1 rfl|exact sm2 fi|exact vd _|exact au (vd _) _|refine Sim.getObj' _ (λ_=>?_) ?_ (λ_=>?_) (λ_ _=>?_) (λ_ _ _=>?_)|contradiction|refine sm3 ?_ ?_|refine sm4 ?_ ?_|refine sm5 _ ?_ _ _|refine sm6 _ ?_ _ _|refine sm7 _ ?_ _|refine sm8 ?_|intro _)|(refine VT ?_;first|(simp only[VV];done)|rfl)|split|dsimp only
instance (x:Value):SimI P F N (Instr.entry x):=⟨fi6 x⟩
def fbx (p:Program) (d:Nat) (e:TypeId) (off:Nat) (n:Int):cellAtBytes p d e 0 off n=none:=by
 unfold cellAtBytes;simp only[Nat.zero_mul];cases byteOfCell p d e (off%p.cellsOf e) with
 | none=>split <;>rfl
 | some h=>
   split
   ·rfl
   ·refine f02 ?_;simp only[f4n,f1r];by_cases hh:Int.ofNat (off / p.cellsOf e*p.bytesOf e+h)+n<0
    ·exact .inl hh
    ·exact .inr (by show(0:Int)<=_;omega)
def fgj (ts:Array TypeId) (t:TypeId) (xs:Array Value):Sim P F N (Builtin.unsafeAdd_ ts t xs):=by
 have hv : ∀(a:Addr) (n:Int) (e:TypeId),Vain (V P F) (match (some (e,0):Option (TypeId×Nat)) with
  | some (e,cells)=>do
    let p <- program
    match cellAtBytes p p.depth e (cells / p.cellsOf e) a.off n with
         | some off=>Pure.pure (Value.pointer (some { a with off:=off }))
         | none=>unsupported (Unsupported.unsafePointer "Add")
  | _=>unsupported (Unsupported.unsafePointer "Add"):Sem Value):=λa n e v=>⟨.unsupported (.unsafePointer "Add"),v,by
    simp[fbx,Go.program,Bind.bind,Sem.bind,Sem.run,Go.unsupported],rfl⟩
 obtain⟨l⟩:=xs;rcases l with _|⟨x,_|⟨y,_|⟨z,l⟩⟩⟩
 ·exact Sim.stuck' _
 ·cases x <;>exact Sim.stuck' _
 rotate_left
 ·cases x <;>exact Sim.stuck' _
 cases x
 case pointer =>
    unfold Builtin.unsafeAdd_;refine Sim.bind' (Sim.asInt' y) λn=>?_;dsimp only;repeat' first|with_reducible (first|exact sm0|exact sm1 rfl|exact sm2 fi|refine Sim.shape' _ (λ_=>?_) (λe n=>.inr (hv _ _ _))|refine sm3 ?_ ?_|refine sm4 ?_ ?_|refine sm5 _ ?_ _ _|refine sm6 _ ?_ _ _|refine sm7 _ ?_ _|refine sm8 ?_|intro _)|(refine VT ?_;first|(simp only[VV];done)|rfl)|refine Sim.shape' _ (λ_=>?_) (λe n=>.inr (hv _ _ _))|split|dsimp only
 all_goals exact Sim.stuck' _
instance (ts:Array TypeId) (t:TypeId) (xs:Array Value):SimI P F N (Builtin.unsafeAdd_ ts t xs):=⟨fgj ts t xs⟩
def ff3 (op:BinOp) (k:FloatKind) (x y:Nat):Sim P F N (Op.floatArith op k x y):=by
 unfold Op.floatArith;exact smA
instance (op:BinOp) (k:FloatKind) (x y:Nat):SimI P F N (Op.floatArith op k x y):=⟨ff3 op k x y⟩
def fi7 (op:BinOp) (k:FloatKind) (x y:Nat):Sim P F N (Op.floatCmp op k x y):=by
 unfold Op.floatCmp;exact smA
instance (op:BinOp) (k:FloatKind) (x y:Nat):SimI P F N (Op.floatCmp op k x y):=⟨fi7 op k x y⟩
def fby (k:FloatKind) (x:Nat) (d:FloatKind):Sim P F N (Conv.floatToFloat k x d):=by
 unfold Conv.floatToFloat;exact smA
instance (k:FloatKind) (x:Nat) (d:FloatKind):SimI P F N (Conv.floatToFloat k x d):=⟨fby k x d⟩
def fki (op:BinOp) (k:FloatKind) (x y:Nat):Sim P F N (Op.Complex.arith op k x y):=by
 unfold Op.Complex.arith;exact smA
instance (op:BinOp) (k:FloatKind) (x y:Nat):SimI P F N (Op.Complex.arith op k x y):=⟨fki op k x y⟩
def fpr (op:BinOp) (k:FloatKind) (x y:Nat):Sim P F N (Op.Complex.cmp op k x y):=by
 unfold Op.Complex.cmp;exact smA
instance (op:BinOp) (k:FloatKind) (x y:Nat):SimI P F N (Op.Complex.cmp op k x y):=⟨fpr op k x y⟩
def fnx (k:FloatKind) (x:Nat) (d:FloatKind):Sim P F N (Op.Complex.conv k x d):=by
 unfold Op.Complex.conv
 exact smA
instance (k:FloatKind) (x:Nat) (d:FloatKind):SimI P F N (Op.Complex.conv k x d):=⟨fnx k x d⟩
def fps (x y:Nat):Sim P F N (Op.Complex.add x y):=by
 unfold Op.Complex.add;exact smA
instance (x y:Nat):SimI P F N (Op.Complex.add x y):=⟨fps x y⟩
def fpt (x y:Nat):Sim P F N (Op.Complex.sub x y):=by
 unfold Op.Complex.sub;exact smA
instance (x y:Nat):SimI P F N (Op.Complex.sub x y):=⟨fpt x y⟩
def fpu (x y:Nat):Sim P F N (Op.Complex.mul x y):=by
 unfold Op.Complex.mul;exact smA
instance (x y:Nat):SimI P F N (Op.Complex.mul x y):=⟨fpu x y⟩
def fpv (x y:Nat):Sim P F N (Op.Complex.quo x y):=by
 unfold Op.Complex.quo;exact smA
instance (x y:Nat):SimI P F N (Op.Complex.quo x y):=⟨fpv x y⟩
def fgk (a b c d:Nat):Sim P F N (Op.Complex.product a b c d):=by
 unfold Op.Complex.product;exact smA
instance (a b c d:Nat):SimI P F N (Op.Complex.product a b c d):=⟨fgk a b c d⟩
def fd7 (s a b c d:Nat):Sim P F N (Op.Complex.corrected s a b c d):=by
 unfold Op.Complex.corrected;exact smA
instance (s a b c d:Nat):SimI P F N (Op.Complex.corrected s a b c d):=⟨fd7 s a b c d⟩
def ff4 (a b c d:Nat):Sim P F N (Op.Complex.quotient a b c d):=by
 unfold Op.Complex.quotient;exact smA
instance (a b c d:Nat):SimI P F N (Op.Complex.quotient a b c d):=⟨ff4 a b c d⟩
def fgl (op:BinOp) (k:FloatKind) (a b c d:Nat):Sim P F N (Op.complexOp op k a b c d):=by
 unfold Op.complexOp;exact smA
instance (op:BinOp) (k:FloatKind) (a b c d:Nat):SimI P F N (Op.complexOp op k a b c d):=⟨fgl op k a b c d⟩
def fgm (a b:Addr):Sim P F N (Op.twoPlaces a b):=by
 unfold Op.twoPlaces;exact smA
instance (a b:Addr):SimI P F N (Op.twoPlaces a b):=⟨fgm a b⟩
def fkj (k:IntKind) (a b:Addr):Sim P F N (Op.addrSub k a b):=by
 unfold Op.addrSub;exact smA
instance (k:IntKind) (a b:Addr):SimI P F N (Op.addrSub k a b):=⟨fkj k a b⟩
def fkk (k:BinOp) (a b:Addr):Sim P F N (Op.addrCmp k a b):=by
 unfold Op.addrCmp;exact smA
instance (k:BinOp) (a b:Addr):SimI P F N (Op.addrCmp k a b):=⟨fkk k a b⟩
def fkl (k:IntKind) (a:Addr) (n:Int):Sim P F N (Op.addrMod k a n):=by
 unfold Op.addrMod;repeat' first|with_reducible (first|exact sm0|exact sm1 rfl|exact sm2 fi|refine Sim.shape' _ (λ_=>?_) (λe n=>.inl rfl)|refine sm3 ?_ ?_|refine sm4 ?_ ?_|refine sm5 _ ?_ _ _|refine sm6 _ ?_ _ _|refine sm7 _ ?_ _|refine sm8 ?_|intro _)|(refine VT ?_;first|(simp only[VV];done)|rfl)|split|dsimp only
instance (k:IntKind) (a:Addr) (n:Int):SimI P F N (Op.addrMod k a n):=⟨fkl k a n⟩
def fi8 (a:Addr) (b:Bool):Sim P F N (asNumber a b):=by
 unfold asNumber;exact smA
instance (a:Addr) (b:Bool):SimI P F N (asNumber a b):=⟨fi8 a b⟩
def fd8 (t:TypeId) (x y:Value):Sim P F N (movedNumber t x y):=by
 unfold movedNumber;exact smA
instance (t:TypeId) (x y:Value):SimI P F N (movedNumber t x y):=⟨fd8 t x y⟩
def fbz (t:TypeId) (x y:Value):Sim P F N (movedPointer t x y):=by
 unfold movedPointer;exact smA
instance (t:TypeId) (x y:Value):SimI P F N (movedPointer t x y):=⟨fbz t x y⟩
def fi9 (op:BinOp) (t:TypeId) (x y:Value):Sim P F N (binOp op t x y):=by
 unfold binOp;exact smA
instance (op:BinOp) (t:TypeId) (x y:Value):SimI P F N (binOp op t x y):=⟨fi9 op t x y⟩
end
section
variable {α β γ:Type} {P:Program} {F:Array Func} {N:Nat->Prop}
def fbg (k:IntKind) (n:Int):Sim P F N (Conv.intToInt k n):=Sim.pure' _
instance (k:IntKind) (n:Int):SimI P F N (Conv.intToInt k n):=⟨fbg k n⟩
def fpw (x:Value):Sim P F N (Builtin.lenOf x):=by
 unfold Builtin.lenOf;exact smA
instance (x:Value):SimI P F N (Builtin.lenOf x):=⟨fpw x⟩
def ff5 (s n:Nat) (x:Value):Sim P F N (Builtin.firstCells s n x):=by
 unfold Builtin.firstCells;exact smA
instance (s n:Nat) (x:Value):SimI P F N (Builtin.firstCells s n x):=⟨ff5 s n x⟩
def Tot (P:Program) (e:Sem α):Prop:= ∀v,(∃x v1,e.run P v=.ok x v1)\/ ∃h v1,e.run P v=.halt h v1/\hard h=true
def fm4 (x:α):Tot P (Pure.pure x:Sem α):=λv=>.inl ⟨x,v,rfl⟩
def fm5 {e:Sem β} {f:β->Sem α} (he:Tot P e) (hf: ∀x,Tot P (f x)):Tot P (e >>= f):=λv=>by
 rcases he v with⟨x,v1,h⟩|⟨h',v1,h,hh⟩
 ·rcases hf x v1 with⟨y,v2,g⟩|⟨h',v2,g,hh⟩
  ·exact .inl ⟨y,v2,(qw h).trans g⟩
  ·exact .inr ⟨h',v2,(qw h).trans g,hh⟩
 ·exact .inr ⟨h',v1,f2r h,hh⟩
def yl {e:Sem β} {f:β->Sem α} (he:Tot P e) (hf: ∀x,Vain P (f x)):Vain P (e >>= f):=λv=>by
 rcases he v with⟨x,v1,h⟩|⟨h',v1,h,hh⟩
 ·obtain⟨h',v2,g,hh⟩:=hf x v1;exact⟨h',v2,(qw h).trans g,hh⟩
 ·exact⟨h',v1,f2r h,hh⟩
def fpx (r:Nat):Tot P (Go.shape r):=λv=>.inl ⟨_,v,rfl⟩
def fny (a:Addr):Tot P (Go.frozen a):=λv=>.inl ⟨_,v,rfl⟩
def fc8 (m:Mark):Tot P (Go.mark m):=λv=>.inl ⟨(),v,rfl⟩
def ff6 (a:Addr) (n:Nat):Tot P (Builtin.holdsCells a n):=by
 unfold Builtin.holdsCells;refine fm5 (fpx _) λs=>?_;split <;>exact fm4 _
def fia (s l n:Nat) (b:Option Addr) (x:Value):Tot P (Builtin.mayShare s l n b x):=by
 unfold Builtin.mayShare;repeat' first|with_reducible (first|exact fm4 _|exact ff6 _ _|exact fny _|refine fm5 ?_ (λ_=>?_))|split|dsimp only
def xv {s l n:Nat} {b:Option Addr} {x:Value} {f:Bool->Sem α} (h: ∀r,Vain (V P F) (f r)):Sim P F N (Builtin.mayShare s l n b x >>= f):=Vain.sim (yl (fia _ _ _ _ _) h)
def ffk (ts :Array TypeId) (t:TypeId) (xs:Array Value):Sim P F N (Builtin.append_ ts t xs):=by
 unfold Builtin.append_;split
 ·refine Sim.bind' (Sim.underlying' _) λ_=>?_;split
  ·split
   ·refine Sim.bind' (Sim.sizeOf' _) λ_=>?_;dsimp only;split
    ·refine Sim.bind' (Sim.underlying' _) λ_=>Sim.bind' (Sim.pure' _) λzs=>?_;cases zs
     ·simp only[f0g,f0s,Bool.not_false,f0e,false_or];repeat' first|with_reducible (first|exact sm0|exact sm1 rfl|exact sm2 fi|exact Sim.markRoom'|refine xv (λ_=>?_)|refine yl (fc8 _) (λ_=>?_)|exact xu fi|refine sm3 ?_ ?_|refine sm4 ?_ ?_|refine sm5 _ ?_ _ _|refine sm6 _ ?_ _ _|refine sm7 _ ?_ _|refine sm8 ?_|intro _)|(refine VT ?_;first|(simp only[VV];done)|rfl)|split|dsimp only
     ·simp only[f0e,Bool.not_true,f0g,f0s,true_or];repeat' first|with_reducible (first|exact sm0|exact sm1 rfl|exact sm2 fi|exact Sim.markRoom'|refine xv (λ_=>?_)|refine yl (fc8 _) (λ_=>?_)|exact xu fi|refine sm3 ?_ ?_|refine sm4 ?_ ?_|refine sm5 _ ?_ _ _|refine sm6 _ ?_ _ _|refine sm7 _ ?_ _|refine sm8 ?_|intro _)|(refine VT ?_;first|(simp only[VV];done)|rfl)|split|dsimp only
    ·refine Sim.bind' (Sim.pure' _) λzs=>?_;cases zs
     ·simp only[f0g,f0s,Bool.not_false,f0e,false_or];repeat' first|with_reducible (first|exact sm0|exact sm1 rfl|exact sm2 fi|exact Sim.markRoom'|refine xv (λ_=>?_)|refine yl (fc8 _) (λ_=>?_)|exact xu fi|refine sm3 ?_ ?_|refine sm4 ?_ ?_|refine sm5 _ ?_ _ _|refine sm6 _ ?_ _ _|refine sm7 _ ?_ _|refine sm8 ?_|intro _)|(refine VT ?_;first|(simp only[VV];done)|rfl)|split|dsimp only
     ·simp only[f0e,Bool.not_true,f0g,f0s,true_or];repeat' first|with_reducible (first|exact sm0|exact sm1 rfl|exact sm2 fi|exact Sim.markRoom'|refine xv (λ_=>?_)|refine yl (fc8 _) (λ_=>?_)|exact xu fi|refine sm3 ?_ ?_|refine sm4 ?_ ?_|refine sm5 _ ?_ _ _|refine sm6 _ ?_ _ _|refine sm7 _ ?_ _|refine sm8 ?_|intro _)|(refine VT ?_;first|(simp only[VV];done)|rfl)|split|dsimp only
   ·exact Sim.stuck' _
  ·exact Sim.stuck' _
 ·exact Sim.stuck' _
instance (ts:Array TypeId) (t:TypeId) (xs:Array Value):SimI P F N (Builtin.append_ ts t xs):=⟨ffk ts t xs⟩
def fai (ts:Array TypeId) (t:TypeId) (p:Value) (a m:String):Sim P F N (Builtin.ssaWrapNilChk_ ts t #[p,strVal a,strVal m]):=by
 cases p with
 | pointer o=>
   cases o with
   | some x=>exact Sim.pure' _
   | none=>
     unfold Builtin.ssaWrapNilChk_;refine Sim.bind' (Sim.choose' _) λ_=>?_;dsimp only;exact smA
 | _=>exact Sim.stuck' _
instance (ts:Array TypeId) (t:TypeId) (p:Value) (a m:String):SimI P F N (Builtin.ssaWrapNilChk_ ts t #[p,strVal a,strVal m]):=⟨fai ts t p a m⟩
def fib (t:TypeId) (x:Place):Sim P F N (x.get t):=by
 unfold Place.get;exact smA
instance (t:TypeId) (x:Place):SimI P F N (x.get t):=⟨fib t x⟩
def faj: ∀(l:List FieldStep) (t:TypeId) (x:Place),Sim P F N (follow l t x)
 | [],_,_=>by
   unfold follow;exact smA
 | _::l,_,_=>by
   unfold follow;have ih:=faj l;exact smA
instance (l:List FieldStep) (t:TypeId) (x:Place):SimI P F N (follow l t x):=⟨faj l t x⟩
def na (t:TypeId) (x:Place) (b:Bool) (n:Option String):Sim P F N (receiverAt t x b n):=by
 unfold receiverAt;exact smA
instance (t:TypeId) (x:Place) (b:Bool) (n:Option String):SimI P F N (receiverAt t x b n):=⟨na t x b n⟩
def fak: ∀(n:Nat) (t:TypeId) (v:Value) (s:String),Sim P F N (method n t v s)
 | 0,_,_,_=>by
   unfold method;exact smA
 | n+1,_,_,_=>by
   unfold method;have ih:=fak n;exact smA
instance (n:Nat) (t:TypeId) (v:Value) (s:String):SimI P F N (method n t v s):=⟨fak n t v s⟩
def l8: ∀(l:List FieldStep) (t:TypeId) (x:Option Value),Sim P F N (followBlind l t x)
 | [],_,_=>by
   unfold followBlind;exact smA
 | _::l,_,_=>by
   unfold followBlind;have ih:=l8 l;exact smA
instance (l:List FieldStep) (t:TypeId) (x:Option Value):SimI P F N (followBlind l t x):=⟨l8 l t x⟩
def l9: ∀(n:Nat) (t:TypeId) (v:Value) (s:String),Sim P F N (nilAhead n t v s)
 | 0,_,_,_=>by
   unfold nilAhead;exact smA
 | n+1,_,_,_=>by
   unfold nilAhead;have ih:=l9 n;exact smA
instance (n:Nat) (t:TypeId) (v:Value) (s:String):SimI P F N (nilAhead n t v s):=⟨l9 n t v s⟩
def zh (h:Value):Sim P F N (Extern.Rtype.ofHandle h):=by
 unfold Extern.Rtype.ofHandle;exact smA
instance (h:Value):SimI P F N (Extern.Rtype.ofHandle h):=⟨zh h⟩
def fnz (t:TypeId):Sim P F N (Extern.Rtype.handle t):=by
 unfold Extern.Rtype.handle;exact smA
instance (t:TypeId):SimI P F N (Extern.Rtype.handle t):=⟨fnz t⟩
def fal (s:String) (t:TypeId):Sim P F N (Extern.Rtype.noPack s t):=by
 unfold Extern.Rtype.noPack;exact smA
instance (s:String) (t:TypeId):SimI P F N (Extern.Rtype.noPack s t):=⟨fal s t⟩
def f6z (s:String) (t:TypeId):Sim P F N (Extern.Rtype.noPackHeld s t):=by
 unfold Extern.Rtype.noPackHeld;exact smA
instance (s:String) (t:TypeId):SimI P F N (Extern.Rtype.noPackHeld s t):=⟨f6z s t⟩
def fd9 (s:String) (t:TypeId):Sim P F N (Extern.Rtype.noPackNamed s t):=by
 unfold Extern.Rtype.noPackNamed;exact smA
instance (s:String) (t:TypeId):SimI P F N (Extern.Rtype.noPackNamed s t):=⟨fd9 s t⟩
def fam (s:String) (t:TypeId):Sim P F N (Extern.Rtype.noPackMethods s t):=by
 unfold Extern.Rtype.noPackMethods;exact smA
instance (s:String) (t:TypeId):SimI P F N (Extern.Rtype.noPackMethods s t):=⟨fam s t⟩
def fpy (t:TypeId):Sim P F N (Extern.Rtype.spelt t):=by
 unfold Extern.Rtype.spelt;exact smA
instance (t:TypeId):SimI P F N (Extern.Rtype.spelt t):=⟨fpy t⟩
def fpz (t:TypeId):Sim P F N (Extern.Rtype.under t):=by
 unfold Extern.Rtype.under;exact smA
instance (t:TypeId):SimI P F N (Extern.Rtype.under t):=⟨fpz t⟩
def fm6 (t:TypeId):Sim P F N (Extern.Rtype.kind t):=by
 unfold Extern.Rtype.kind;exact smA
instance (t:TypeId):SimI P F N (Extern.Rtype.kind t):=⟨fm6 t⟩
def fkm (t:TypeId):Sim P F N (Extern.Rtype.hasName t):=by
 unfold Extern.Rtype.hasName;exact smA
instance (t:TypeId):SimI P F N (Extern.Rtype.hasName t):=⟨fkm t⟩
def fq0 (t:TypeId):Sim P F N (Extern.Rtype.elem? t):=by
 unfold Extern.Rtype.elem?;exact smA
instance (t:TypeId):SimI P F N (Extern.Rtype.elem? t):=⟨fq0 t⟩
def ff7 (t u:TypeId):Sim P F N (Extern.Rtype.implements t u):=by
 unfold Extern.Rtype.implements;exact smA
instance (t u:TypeId):SimI P F N (Extern.Rtype.implements t u):=⟨ff7 t u⟩
def iq (t u:TypeId):Sim P F N (Extern.Rtype.directlyAssignable t u):=by
 unfold Extern.Rtype.directlyAssignable;exact smA
instance (t u:TypeId):SimI P F N (Extern.Rtype.directlyAssignable t u):=⟨iq t u⟩
def ftj (t:TypeId) (a:Addr) (f:Nat):Sim P F N (Extern.ReflectliteValue.mk t a f):=by
 unfold Extern.ReflectliteValue.mk;exact smA
instance (t:TypeId) (a:Addr) (f:Nat):SimI P F N (Extern.ReflectliteValue.mk t a f):=⟨ftj t a f⟩
def fbh (x:Value):Sim P F N (Extern.ReflectliteValue.unpack x):=by
 unfold Extern.ReflectliteValue.unpack;exact smA
instance (x:Value):SimI P F N (Extern.ReflectliteValue.unpack x):=⟨fbh x⟩
def xw (s:String) (k:Nat):Sim P F N (Extern.ReflectliteValue.valueError s k:Sem α):=by
 unfold Extern.ReflectliteValue.valueError;exact smA
instance (s:String) (k:Nat):SimI P F N (Extern.ReflectliteValue.valueError s k:Sem α):=⟨xw s k⟩
def nf (x : Value):Sim P F N (Extern.ReflectliteValue.partsAny x):=by
 cases x with
 | agg cs=>
   obtain⟨l⟩:=cs;rcases l with _|⟨h,_|⟨y,_|⟨z,_|⟨_,_⟩⟩⟩⟩;rotate_left 3
   ·cases z with
    | int k n=>
      cases k
      case u64=>
         rcases n with(_|n)|n
         ·exact Sim.pure' _
         ·cases y with
          | pointer o=>
            cases o with
            | none=>exact Sim.stuck' _
            | some a=>exact Sim.bind' (zh _) λ_=>Sim.pure' _
          | _=>exact Sim.stuck' _
         ·cases y with
          | pointer o=>
            cases o with
            | none=>exact Sim.stuck' _
            | some a=>exact Sim.bind' (zh _) λ_=>Sim.pure' _
          | _=>exact Sim.stuck' _
      all_goals (cases y with
         | pointer o=>cases o <;>exact Sim.stuck' _
         | _=>exact Sim.stuck' _)
    | _=>cases y with
      | pointer o=>cases o <;>exact Sim.stuck' _
      | _=>exact Sim.stuck' _
   all_goals exact Sim.stuck' _
 | _=>exact Sim.stuck' _
instance (x:Value):SimI P F N (Extern.ReflectliteValue.partsAny x):=⟨nf x⟩
def f6x (x:Value):Sim P F N (Extern.ReflectliteValue.parts x):=by
 unfold Extern.ReflectliteValue.parts;exact smA
instance (x:Value):SimI P F N (Extern.ReflectliteValue.parts x):=⟨f6x x⟩
def fda (t:TypeId) (a:Addr) (f k:Nat):Sim P F N (Extern.ReflectliteValue.isNil t a f k):=by
 unfold Extern.ReflectliteValue.isNil;exact smA
instance (t:TypeId) (a:Addr) (f k:Nat):SimI P F N (Extern.ReflectliteValue.isNil t a f k):=⟨fda t a f k⟩
def ffl (t:TypeId) (a:Addr) (f k:Nat):Sim P F N (Extern.ReflectliteValue.elem t a f k):=by
 unfold Extern.ReflectliteValue.elem;exact smA
instance (t:TypeId) (a:Addr) (f k:Nat):SimI P F N (Extern.ReflectliteValue.elem t a f k):=⟨ffl t a f k⟩
def lf (t:TypeId):Sim P F N (Extern.ReflectliteType.toType t):=by
 unfold Extern.ReflectliteType.toType;exact smA
instance (t:TypeId):SimI P F N (Extern.ReflectliteType.toType t):=⟨lf t⟩
def zy (x:Value):Sim P F N (Extern.ReflectliteType.ofRtype x):=by
 cases x with
 | agg cs=>
   obtain⟨l⟩:=cs;rcases l with _|⟨h,_|⟨y,l⟩⟩
   ·exact Sim.stuck' _
   ·exact Sim.bind' (zh _) λ_=>Sim.bind' (fal _ _) λ_=>Sim.pure' _
   ·exact Sim.stuck' _
 | _=>exact Sim.stuck' _
instance (x:Value):SimI P F N (Extern.ReflectliteType.ofRtype x):=⟨zy x⟩
def ffm (t:TypeId):Sim P F N (Extern.ReflectliteType.elem t):=by
 unfold Extern.ReflectliteType.elem;exact smA
instance (t:TypeId):SimI P F N (Extern.ReflectliteType.elem t):=⟨ffm t⟩
def ij (t u:TypeId):Sim P F N (Extern.ReflectliteType.implements_ t u):=by
 unfold Extern.ReflectliteType.implements_;exact smA
instance (t u:TypeId):SimI P F N (Extern.ReflectliteType.implements_ t u):=⟨ij t u⟩
def ik (t u:TypeId):Sim P F N (Extern.ReflectliteType.assignableTo t u):=by
 unfold Extern.ReflectliteType.assignableTo;exact smA
instance (t u:TypeId):SimI P F N (Extern.ReflectliteType.assignableTo t u):=⟨ik t u⟩
end
section
variable {α β γ:Type} {P:Program} {F:Array Func} {N:Nat->Prop}
def fq1 (g:TypeId->Bool): ∀(d:Nat) (e:TypeId) (c o n:Nat),rowAt (V P F) g d e c o n=rowAt P g d e c o n
 | 0,_,_,_,_=>rfl
 | d+1,_,_,_,_=>by unfold rowAt;simp only[fq1 g d,rq,vf,yk];rfl
def m9: ∀(d:Nat) (e:TypeId) (c o:Nat) (u:TypeId) (n:Nat),liesAt (V P F) d e c o u n=liesAt P d e c o u n
 | 0,_,_,_,_,_=>rfl
 | d+1,_,_,_,_,_=>by unfold liesAt;simp only[m9 d,fq1,ix,rq,yw]
def zv (a:Addr) (m:Nat) (r:ByteArray->Sem α) (hr: ∀s,Sim P F (λx=>N x\/x=a.block) (r s)): ∀(n:Nat) (b:Addr) (j:ByteArray),b.block=a.block->Sim P F (λx=>N x\/x=a.block) (loadBytes b j n >>= r)
 | 0,_,_,_=>hr _
 | n+1,b,j,hb=>by
   show Sim P F _ (Sem.bind (Sem.load .plain b (λx=>_)) r);refine Sim.load .plain b λx=>?_;dsimp only[Sem.bind];split
   ·exact zv a m r hr n (b.add 1) _ hb
   ·exact Sim.stuck _
def ff8 (a:Addr) (r:ByteArray->Sem α) (hr: ∀s,Sim P F (λx=>N x\/x=a.block) (r s)) (n:Nat) (hn:n≠0) (j:ByteArray):Sim P F N (loadBytes a j n >>= r):=by
 obtain⟨n,rfl⟩: ∃k,n=k+1:=⟨n-1,by omega⟩;show Sim P F _ (Sem.bind (Sem.load .plain a (λx=>_)) r);refine Sim.loadN .plain a λx=>?_;dsimp only[Sem.bind];split
 ·exact zv a n r hr n (a.add 1) _ rfl
 ·exact Sim.stuck _
def fo0 (a:Addr) (n:Nat) (h:N a.block):Sim P F N (Go.freeze a n):=Sim.freeze a n h (Sim.pure _)
def i3 (l:Nat) (r:Loop->Sem α) (hr: ∀x,iz x=true->Sim P F (λy=>N y\/y=l) (r x)):Sim P F N (Instr.getLoop l >>= r):=by
 show Sim P F N (Sem.bind (Sem.getObj l (λo=>_)) r);refine Sim.getObjOk l (λo ho=>?_) (λv=>⟨_,v,rfl,rfl⟩) (λ_ v=>⟨_,v,rfl,rfl⟩);dsimp only[Sem.bind];split
 ·exact hr _ ho
 ·exact Sim.stuck _
def fdb (l:Nat):Sim P F N (Instr.getLoop l):=by
 have:=i3 (P:=P) (F:=F) (N:=N) l Pure.pure (λx _=>Sim.pure' x)
 have e:(Instr.getLoop l >>= Pure.pure)=Instr.getLoop l:=by
    show Sem.bind (Instr.getLoop l) Sem.pure=_;unfold Instr.getLoop;show Sem.getObj l (λo=>_)=Sem.getObj l (λo=>_)
    congr 1
    funext o
    cases o <;>rfl
 rwa[e] at this
instance (l:Nat):SimI P F N (Instr.getLoop l):=⟨fdb l⟩
def lh {r:Loop} (h:iz r=true) (s:LoopState):iz { r with state:=s }=true:=h
def fkn {r:Loop} (h:iz r=true) (s:LoopState) {j:Option Code} (hj: ∀c,j=some c->(va c&&um c)=true):iz { r with state:=s,pending:=j }=true:=by
 simp only[iz,f04] at h ⊢;refine⟨h.1,?_⟩;cases j with
 | none=>rfl
 | some c=>exact hj c rfl
def ng (l:Nat):Sim P F N (Instr.beginRound l):=by
 unfold Instr.beginRound;refine i3 l _ λr hr=>Sim.bind' (Sim.setObj' (lh hr _) (.inr rfl)) λ_=>?_;split
 ·exact Sim.pure' _
 all_goals exact Sim.runtimePanic' _
instance (l:Nat):SimI P F N (Instr.beginRound l):=⟨ng l⟩
def fic (l:Nat) {j:Option Code} (hj: ∀c,j=some c->(va c&&um c)=true):Sim P F N (Instr.endRound l j):=by
 unfold Instr.endRound;exact i3 l _ λr hr=>Sim.bind' (Sim.setObj' (fkn hr _ hj) (.inr rfl)) λ_=>Sim.pure' _
def fdc (l:Nat):Sim P F N (Instr.endLoop l):=by
 unfold Instr.endLoop;refine i3 l _ λr hr=>?_;dsimp only;split
 ·exact Sim.bind' (Sim.runtimePanic' _) λ_=>Sim.bind' (Sim.setObj' (lh hr _) (.inr rfl)) λ_=>Sim.pure' _
 ·exact Sim.bind' (Sim.setObj' (lh hr _) (.inr rfl)) λ_=>Sim.pure' _
instance (l:Nat):SimI P F N (Instr.endLoop l):=⟨fdc l⟩
def fid (l:Nat) (args:Array Value):Sim P F N (Instr.yield l args):=by
 unfold Instr.yield;refine i3 l _ λr hr=>?_;dsimp only;split
 ·exact Sim.bind' (Sim.stuck' _) λ_=>Sim.pure' _
 ·exact Sim.pure' _
instance (l:Nat) (args:Array Value):SimI P F N (Instr.yield l args):=⟨fid l args⟩
def fgn (fn:FuncId) (tmps:Array Value) (ps:Array Tmp) {a b:Code} (ha:va a=true) (hb:va b=true) (j:um a=true) (m:um b=true) (ar:Option Nat):Sim P F N (Instr.enterLoop fn tmps ps a b ar):=by
 have ok: ∀s d,fey (.loop { state:=s,pending:=none,fn:=fn,tmps:=tmps,params:=ps,assign:=a,body:=b,defers:=d })=true:=λs d=>by simp[fey,iz,ha,hb,j,m]
 unfold Instr.enterLoop;cases ar with
 | some l=>exact Sim.bind' (fdb l) λx=>Sim.bind' (Sim.pure' _) λy=>Sim.bind' (Sim.newObj' (ok _ _)) λ_=>Sim.pure' _
 | none=>exact Sim.bind' (Sim.newObj' rfl) λx=>Sim.bind' (Sim.pure' _) λy=>Sim.bind' (Sim.newObj' (ok _ _)) λ_=>Sim.pure' _
def il (b:Nat):Sim P F N (Instr.takeDeferred b):=by
 unfold Instr.takeDeferred;refine Sim.getObj' _ (λo=>?_) (λv=>⟨_,v,rfl,rfl⟩) (λ_=>Sim.stuck' _) (λ_ _=>rfl);split
 ·exact Sim.bind' (Sim.setObj' rfl (.inr rfl)) λ_=>Sim.pure' _
 ·exact Sim.stuck' _
instance (b:Nat):SimI P F N (Instr.takeDeferred b):=⟨il b⟩
def Hid (v:World) (r:Nat):Prop:= ∃o,v.heap[r]? =some o/\((∃e,o=.cells #[] e (0,0))\/o=hidO\/ ∃(x:HidC),o=.chan x.cap x.buf false x.s x.q x.tm)
def Rel.hid {H:Hide} {v w:World} (rel:Rel H v w) {r:Nat} {o:Obj} (h:H r=some o):Hid v r:=by
 obtain⟨hv,hr⟩:=rel.laid r o h;refine⟨o,hv,?_⟩;rcases hr with⟨e,c,rfl,_⟩|⟨rfl,_⟩|⟨tm,_,rfl,_⟩
 ·exact .inl ⟨e,rfl⟩
 ·exact .inr (.inl rfl)
 ·exact .inr (.inr ⟨tm,rfl⟩)
def Hid.load {v:World} {a:Addr} (h:Hid v a.block) (m:Mode) (k:Value->Sem α): ∃x v1,(Sem.load m a k).run P v=.halt x v1/\hard x=true:=by
 obtain⟨o,hv,ho⟩:=h;refine⟨.stuck "load: no such cell",v,?_,rfl⟩;rcases ho with⟨e,rfl⟩|rfl|⟨tm,rfl⟩ <;>simp[Sem.run,World.cell?,World.farLoad,World.noCell,hv]
def Sim.shapeH (r:Nat) {k:Option (TypeId×Nat)->Sem α} (hk: ∀s,Sim P F (λx=>N x\/x=r) (k s)) (hh: ∀v s,Hid v r-> ∃h v1,(k s).run (V P F) v=.halt h v1/\hard h=true):Sim P F N (Go.shape r >>= k):=by
 show Sim P F N (Sem.bind (Sem.shape r .pure) k);intro H v w hN rel;cases hH:H r with
 | none=>
   have hs:v.shape? r=w.shape? r:=by unfold World.shape?;rw[rel.same r hH]
   exact SimAt.eq (e':=k (w.shape? r)) rel (by show(k (v.shape? r)).run (V P F) v=_;rw[hs]) (λes=>rfl) (hk _ H v w (λx hx=>hx.elim (hN x) λe=>e▸hH) rel)
 | some o=>
   obtain⟨h,v1,e1,e2⟩:=hh v (v.shape? r) (rel.hid hH);exact SimAt.hard (v1:=v1) e1 e2
def fdd (a:Addr) (u:TypeId) (n:Nat) {f:Bool->Sem α} (hk: ∀b,Sim P F (λx=>N x\/x=a.block) (f b)) (hh: ∀v b,Hid v a.block-> ∃h v1,(f b).run (V P F) v=.halt h v1/\hard h=true):Sim P F N (variablesAt a u n >>= f):=by
 show Sim P F N (Go.program >>= λp=>Go.shape a.block >>= λs=>(match s with
    | some (e,cells)=>Pure.pure (liesAt p p.depth e (cells / p.cellsOf e) a.off u n)
    | none=>Pure.pure false) >>= f)
 refine Sim.programBind ?_ (Sim.shapeH _ (λs=>?_) λv s hv=>?_)
 ·simp only[m9,yw,vf]
 ·split <;>exact hk _
 ·split <;>exact hh v _ hv
def Nok (P:Program) (e:Sem α):Prop:= ∀v x v1,e.run P v≠ .ok x v1
def fde (x:Value):Nok P (goPanic x:Sem α):=λv y v1 h=>by cases h
def fgo {e:Sem β} {f:β->Sem α} (h: ∀x,Nok P (f x)):Nok P (e >>= f):=λv y v1 hr=>by
 cases he:e.run P v with
 | ok x v2=>exact h x v2 y v1 ((qw he).symm.trans hr)
 | halt x v2=>
   have:=(f2r (f:=f) he).symm.trans hr;cases this
def uj (e:RuntimeError):Nok P (runtimePanic e:Sem α):=by
 unfold runtimePanic;refine fgo λp=>?_;split;all_goals first|exact fde _|exact fgo λ_=>fgo λ_=>fde _
def f7d (e:RuntimeError) (f:β->Sem α):Sim P F N (runtimePanic e >>= f):=Sim.bindOf (Sim.runtimePanic' e) λx ⟨v,v1,h⟩=>absurd h (uj e v x v1)
def im (ts:Array TypeId) (t:TypeId) (xs:Array Value):Sim P F N (Builtin.unsafeString_ ts t xs):=by
 obtain⟨l⟩:=xs;rcases l with _|⟨x,_|⟨y,_|⟨z,l⟩⟩⟩
 ·exact Sim.stuck' _
 ·cases x <;>exact Sim.stuck' _
 rotate_left
 ·cases x <;>exact Sim.stuck' _
 cases x with
 | pointer p=>
   unfold Builtin.unsafeString_;refine Sim.bind' (Sim.asInt' y) λn=>?_;dsimp only
   have body:0<n-> ∀(a:Addr) (e:TypeId),Sim P F N (variablesAt a e n.toNat >>= λb=>if b=true then (do
        let s <- loadBytes a .empty n.toNat
        freeze a n.toNat
        Pure.pure (Value.string s)) else unsupported (.unsafePointer "String: not so many bytes at ptr")):=by
    intro h0 a e
    ·refine fdd a e _ (λb=>?_) (λv b hv=>?_)
     ·split
      ·exact ff8 a _ (λs=>Sim.bind' (fo0 a _ (.inr rfl)) λ_=>Sim.pure' _) _ fe _
      ·exact Sim.unsupported' fi
     ·split
      ·obtain⟨k,hk⟩: ∃k,n.toNat=k+1:=⟨n.toNat-1,by omega⟩;rw[hk];exact hv.load .plain _
      ·exact⟨_,v,rfl,rfl⟩
   split
   ·repeat' first|with_reducible (first|exact sm0|exact Sim.unsupported' fi|exact body fe _ _|exact f7d _ _|refine Sim.bind' ?_ (λ_=>?_))|split
   ·exact Sim.stuck' _
 | _=>exact Sim.stuck' _
instance (ts:Array TypeId) (t:TypeId) (xs:Array Value):SimI P F N (Builtin.unsafeString_ ts t xs):=⟨im ts t xs⟩
def Sim.shapeH2 (r:Nat) {k:Option (TypeId×Nat)->Sem α} (hk: ∀s,Sim P F (λx=>N x\/x=r) (k s)) (hh: ∀v,Hid v r-> ∃h v1,(k (v.shape? r)).run (V P F) v=.halt h v1/\hard h=true):Sim P F N (Go.shape r >>= k):=by
 show Sim P F N (Sem.bind (Sem.shape r .pure) k);intro H v w hN rel;cases hH:H r with
 | none=>
   have hs:v.shape? r=w.shape? r:=by unfold World.shape?;rw[rel.same r hH]
   exact SimAt.eq (e':=k (w.shape? r)) rel (by show(k (v.shape? r)).run (V P F) v=_;rw[hs]) (λes=>rfl) (hk _ H v w (λx hx=>hx.elim (hN x) λe=>e▸hH) rel)
 | some o=>
   obtain⟨h,v1,e1,e2⟩:=hh v (rel.hid hH);exact SimAt.hard (v1:=v1) e1 e2
def Sim.shapeC (r:Nat) {e:Sem α} (h:Sim P F N e):Sim P F N (Go.shape r >>= λ_=>e):=by
 show Sim P F N (Sem.bind (Sem.shape r .pure) λ_=>e);intro H v w hN rel;exact SimAt.eq (e':=e) rel rfl (λes=>rfl) (h H v w hN rel)
def fc0 (a:Addr) (u:TypeId) (n:Nat) {f:Bool->Sem α} {e:Sem α} (hf: ∀b,f b=e) (h:Sim P F N e):Sim P F N (variablesAt a u n >>= f):=by
 obtain rfl:f=λ_=>e:=funext hf
 show Sim P F N (Go.program >>= λp=>Go.shape a.block >>= λs=>(match s with
    | some (e,cells)=>Pure.pure (liesAt p p.depth e (cells / p.cellsOf e) a.off u n)
    | none=>Pure.pure false) >>= λ_=>e)
 refine Sim.programBind ?_ ?_
 ·simp only[m9,yw,vf]
 ·have:(λs:Option (TypeId×Nat)=>(match s with
   | some (e,cells)=>Pure.pure (liesAt P P.depth e (cells / P.cellsOf e) a.off u n)
   | none=>Pure.pure false:Sem Bool) >>= λ_=>e)=λ_=>e:=by
   funext s
   cases s <;>rfl
  rw[this];exact Sim.shapeC _ h
def fo1 (p:Program) (j:TypeId->Bool) (d:Nat) (e:TypeId) (off n:Nat) (hn:0<n):rowAt p j d e 0 off n=false:=by
 cases d with
 | zero=>rfl
 | succ d=>
   unfold rowAt;have h1:decide (off / p.cellsOf e+n<=0)=false:=by simp;omega
   have h2:decide (off / p.cellsOf e<0)=false:=by simp
   simp only[h1,h2,Bool.and_false,Bool.false_and,Bool.or_self,ite_self]
def fko (p:Program) (d:Nat) (e:TypeId) (off:Nat) (u:TypeId) (n:Nat) (hn:0<n) (hu: ∀m u',p.underlying u≠some (.array m u')):liesAt p d e 0 off u n=false:=by
 cases d with
 | zero=>rfl
 | succ d=>
   unfold liesAt;rw[fo1 _ _ _ _ _ _ hn];simp only[Bool.false_or]
def Hid.viewAt {v:World} {r:Nat} (h:Hid v r) (k:Option (Addr×TypeId)->Sem α):(Go.viewAt r >>= k).run (V P F) v=(k none).run (V P F) v:=by
 obtain⟨o,hv,ho⟩:=h
 have e:(Go.viewAt r).run (V P F) v=.ok none v:=by
    unfold Go.viewAt;rcases ho with⟨e,rfl⟩|rfl|⟨tm,rfl⟩ <;>simp[Go.shape,Go.getObj,Bind.bind,Sem.bind,Sem.run,World.shape?,hv,Pure.pure]
 exact qw e
def fdf (J: ∃e,P.underlying 99=some (.pointer e)/\ ∀m u,P.underlying e≠some (.array m u)) {ts:Array TypeId} (W:ts[0]? =some 99) (t:TypeId) (xs:Array Value):Sim P F N (Builtin.unsafeSlice_ ts t xs):=by
 obtain⟨I,hu,C⟩:=J;obtain⟨l⟩:=xs;rcases l with _|⟨x,_|⟨y,_|⟨z,l⟩⟩⟩
 ·exact Sim.stuck' _
 ·cases x <;>exact Sim.stuck' _
 rotate_left
 ·cases x <;>exact Sim.stuck' _
 cases x with
 | pointer p=>
   unfold Builtin.unsafeSlice_;refine Sim.bind' (Sim.asInt' y) λn=>?_;dsimp only;rw[W];dsimp only;refine Sim.bindOf (Sim.elemOf' 99) λel ⟨v,v1,hel⟩=>?_;obtain rfl:el=I:=by
    simp[elemOf,underlying,Go.program,Bind.bind,Sem.bind,Sem.run,rq,hu,Pure.pure] at hel;exact hel.1.symm
   have D: ∀{β:Type} (j:String) (f:β->Sem Value),Sim P F N (unsupported (.unsafePointer j) >>= f):=λj f=>Sim.bindOf (Sim.unsupported' fi) λx ⟨v,v1,h⟩=>by cases h
   have q: ∀{β:Type} (j:String) (M:Nat->Prop) (f:β->Sem Value),Sim P F M (unsupported (.unsafePointer j) >>= f):=λj M f=>Sim.bindOf (Sim.unsupported' fi) λx ⟨v,v1,h⟩=>by cases h
   have A: ¬n<0-> ∀(a:Addr) (X R:Sem Value),Sim P F N X->Sim P F (λx=>N x\/x=a.block) X->Sim P F (λx=>N x\/x=a.block) R->(∀v,Hid v a.block-> ∃h v1,R.run (V P F) v=.halt h v1/\hard h=true)->
        Sim P F N (sizeOf el >>= λs=>variablesAt a el n.toNat >>= λb=>if (decide (n=0)||decide (s=0)||b)=true then X else R):=by
    intro hn a X R hX U hR O;refine Sim.bind' (Sim.sizeOf' _) λs=>?_;by_cases h0:(decide (n=0)||decide (s=0))=true
    ·exact fc0 a el _ (e:=X) (λb=>by rw[h0];simp) hX
    ·have h0:(decide (n=0)||decide (s=0))=false:=by simpa using h0
     have B:0<n.toNat:=by
      simp only[Bool.or_eq_false_iff,f1u] at h0;omega
     rw[h0];show Sim P F N (Go.program >>= λp=>Go.shape a.block >>= λs=>(match s with
      | some (e,cells)=>Pure.pure (liesAt p p.depth e (cells / p.cellsOf e) a.off el n.toNat)
      | none=>Pure.pure false) >>= λb=>if (false||b)=true then X else R)
     refine Sim.programBind ?_ (Sim.shapeH2 _ (λs=>?_) λv hv=>?_)
     ·simp only[m9,yw,vf]
     ·split
      ·show Sim P F _ (if (false||liesAt _ _ _ _ _ _ _)=true then X else R);split
       ·exact U
       ·exact hR
      ·exact hR
     ·have:(match v.shape? a.block with
         | some (e,cells)=>Pure.pure (liesAt P P.depth e (cells / P.cellsOf e) a.off el n.toNat)
         | none=>Pure.pure false:Sem Bool)=Pure.pure false:=by
         obtain⟨o,hv,ho⟩:=hv;rcases ho with⟨e,rfl⟩|rfl|⟨tm,rfl⟩ <;>simp only[World.shape?,hv];simp only[f3s,f06,Nat.zero_div];rw[fko _ _ _ _ _ _ B C]
      rw[this];exact O v hv
   by_cases hn:n<0
   ·rw[f02 hn];exact f7d _ _
   rw[fx9 hn];by_cases hm:n>IntKind.i64.max
   ·rw[f02 hm];exact D _ _
   rw[fx9 hm];cases p with
   | none=>
     dsimp only;split
     ·exact Sim.pure' _
     ·exact Sim.runtimePanic' _
   | some a=>
     dsimp only;refine Sim.bind' (Sim.typeInfo' _) λi=>?_;by_cases h2:n.toNat*i.bytes>=2 ^ 64
     ·rw[f02 h2];exact D _ _
     rw[fx9 h2];refine A hn a _ _ (Sim.pure' _) (Sim.pure' _) (Sim.bind' (Sim.viewAt' _) λo=>?_) λv hv=>?_
     ·cases o with
      | none=>exact Sim.unsupported' fi
      | some so=>
        obtain⟨seen,u⟩:=so;dsimp only;by_cases h3:(a.off !=0||a.spot.isSome)=true
        ·rw[f02 h3];exact q _ _ _
        rw[fx9 h3];refine Sim.bind' (Sim.typeInfo' _) λi2=>?_;by_cases h4:n.toNat*i2.bytes>2 ^ 64-2 ^ 47
        ·rw[f02 h4];exact q _ _ _
        rw[fx9 h4];refine Sim.programBind rfl ?_;split
        ·exact Sim.bind' (Sim.newObj' rfl) λ_=>Sim.pure' _
        ·exact Sim.unsupported' fi
     ·rw[hv.viewAt];exact⟨_,v,rfl,rfl⟩
 | _=>exact Sim.stuck' _
def av (ts:Array TypeId) (t:TypeId) (xs:Array Value):Sim P F N (Builtin.unsafeSliceData_ ts t xs):=by
 obtain⟨l⟩:=xs;rcases l with _|⟨x,_|⟨y,l⟩⟩
 ·exact Sim.stuck' _
 ·cases x with
  | slice o j c=>
    cases o with
    | none=>exact Sim.pure' _
    | some a=>
      show Sim P F N (if c≠0 then Pure.pure (Value.pointer (some a)) else do
        if (<- viewAt a.block).isSome then Pure.pure (Value.pointer (some a))
        else Pure.pure (Value.pointer (some ⟨<- newObj (.view a (<- elemOf t)),0,none⟩)):Sem Value)
      repeat' first|with_reducible (first|exact sm0|exact Sim.newObj' rfl|refine Sim.bind' ?_ (λ_=>?_))|split
  | _=>exact Sim.stuck' _
 ·cases x <;>exact Sim.stuck' _
instance (ts:Array TypeId) (t:TypeId) (xs:Array Value):SimI P F N (Builtin.unsafeSliceData_ ts t xs):=⟨av ts t xs⟩
def ni (k:FloatKind) (x:Nat) (d:IntKind):Sim P F N (Conv.floatToInt k x d):=by
 unfold Conv.floatToInt;exact smA
instance (k:FloatKind) (x:Nat) (d:IntKind):SimI P F N (Conv.floatToInt k x d):=⟨ni k x d⟩
def fkp (s d:TypeId) (x:Value) (hs: ∃k,P.underlying s=some (.int k)) (hd: ∃k,P.underlying d=some (.int k)):Sim P F N (convert s d x):=by
 obtain⟨k,hs⟩:=hs;obtain⟨k',hd⟩:=hd
 have us: ∀(f:TypeDesc->Sem Value),Sim P F N (f (.int k))->Sim P F N (underlying s >>= f):=λf h=>Sim.bindOf (Sim.underlying' s) λy ⟨v,v1,hy⟩=>by
    have:y=.int k:=by
     simp[underlying,Go.program,Bind.bind,Sem.bind,Sem.run,rq,hs,Pure.pure] at hy;exact hy.1.symm
    rw[this];exact h
 have ud: ∀(f:TypeDesc->Sem Value),Sim P F N (f (.int k'))->Sim P F N (underlying d >>= f):=λf h=>Sim.bindOf (Sim.underlying' d) λy ⟨v,v1,hy⟩=>by
    have:y=.int k':=by
     simp[underlying,Go.program,Bind.bind,Sem.bind,Sem.run,rq,hd,Pure.pure] at hy;exact hy.1.symm
    rw[this];exact h
 unfold convert;refine us _ (ud _ ?_);cases x with
 | int k n=>exact fbg _ _
 | float k n=>exact ni _ _ _
 | pointer o=>cases o <;>exact Sim.unsupported' fi
 | _=>exact Sim.unsupported' fi
def fdg (z:Sem Value) (f:TypeId->Addr->Nat->Nat->Sem Value) (hz:Sim P F N z) (hf: ∀t a x y,Sim P F N (f t a x y)) (xs:Array Value):Sim P F N (Extern.ReflectliteValue.methodAny z f xs):=by
 obtain⟨l⟩:=xs;rcases l with _|⟨x,_|⟨y,l⟩⟩
 ·exact Sim.stuck' _
 ·refine Sim.bind' (nf _) λo=>?_;rcases o with _|⟨t,a,fl⟩
  ·exact hz
  ·exact hf _ _ _ _
 ·exact Sim.stuck' _
def fbi (z:Sem Value) (f:TypeId->Addr->Nat->Nat->Sem Value) (hz:Sim P F N z) (hf: ∀t a x y,Sim P F N (f t a x y)) (xs:Array Value):Sim P F N (Extern.ReflectliteValue.method z f xs):=by
 obtain⟨l⟩:=xs;rcases l with _|⟨x,_|⟨y,l⟩⟩
 ·exact Sim.stuck' _
 ·refine Sim.bind' (f6x _) λo=>?_;rcases o with _|⟨t,a,fl⟩
  ·exact hz
  ·exact hf _ _ _ _
 ·exact Sim.stuck' _
def fbj (f:TypeId->Sem Value) (hf: ∀t,Sim P F N (f t)) (xs:Array Value):Sim P F N (Extern.ReflectliteType.method f xs):=by
 obtain⟨l⟩:=xs;rcases l with _|⟨x,_|⟨y,l⟩⟩
 ·exact Sim.stuck' _
 ·exact Sim.bind' (zy _) λo=>hf _
 ·exact Sim.stuck' _
def nk (s:String) (f:TypeId->TypeId->Sem Bool) (hf: ∀t u,Sim P F N (f t u)) (xs:Array Value):Sim P F N (Extern.ReflectliteType.relation s f xs):=by
 obtain⟨l⟩:=xs;rcases l with _|⟨x,_|⟨y,_|⟨z,l⟩⟩⟩
 ·exact Sim.stuck' _
 ·exact Sim.stuck' _
 ·cases y with
  | nilIface=>exact Sim.panicString' _
  | iface t u=>exact Sim.bind' (zy _) λ_=>Sim.bind' (zy _) λ_=>Sim.bind' (hf _ _) λ_=>Sim.pure' _
  | _=>exact Sim.stuck' _
 ·cases y <;>exact Sim.stuck' _
def fdh (f:TypeId->Sem Value) (hf: ∀t,Sim P F N (f t)) (xs:Array Value):Sim P F N (Extern.ReflectliteType.abiMethod f xs):=by
 obtain⟨l⟩:=xs;rcases l with _|⟨x,_|⟨y,l⟩⟩
 ·exact Sim.stuck' _
 ·exact Sim.bind' (zh _) λo=>Sim.bind' (fal _ _) λ_=>hf _
 ·exact Sim.stuck' _
def fbk (xs:Array Value):Sim P F N (Extern.ReflectliteType.typeOf xs):=by
 obtain⟨l⟩:=xs;rcases l with _|⟨x,_|⟨y,l⟩⟩
 ·exact Sim.stuck' _
 ·cases x with
  | nilIface=>exact Sim.pure' _
  | iface t u=>exact lf _
  | _=>exact Sim.stuck' _
 ·cases x <;>exact Sim.stuck' _
instance (xs:Array Value):SimI P F N (Extern.ReflectliteType.typeOf xs):=⟨fbk xs⟩
def f7e (xs:Array Value):Sim P F N (Extern.MapsClone.clone xs):=by
 obtain⟨l⟩:=xs;rcases l with _|⟨x,_|⟨y,l⟩⟩
 ·exact Sim.stuck' _
 ·cases x with
  | iface t u=>
    cases u with
    | map o=>
      cases o with
      | none=>exact Sim.unsupported' fi
      | some r=>
        show Sim P F N (Go.getObj r >>= λo=>_);refine Sim.getObj' _ (λo=>?_) (λv=>⟨_,v,rfl,rfl⟩) (λ_=>Sim.stuck' _) (λ_ _=>rfl);split
        ·exact Sim.bind' (Sim.newObj' rfl) λ_=>Sim.pure' _
        ·exact Sim.stuck' _
    | _=>exact Sim.stuck' _
  | _=>exact Sim.stuck' _
 ·cases x with
  | iface t u=>cases u with
    | map o=>cases o <;>exact Sim.stuck' _
    | _=>exact Sim.stuck' _
  | _=>exact Sim.stuck' _
instance (xs:Array Value):SimI P F N (Extern.MapsClone.clone xs):=⟨f7e xs⟩
def fie (xs:Array Value):Sim P F N (Extern.AbiNoEscape.same xs):=by
 obtain⟨l⟩:=xs;rcases l with _|⟨x,_|⟨y,l⟩⟩
 ·exact Sim.stuck' _
 ·exact Sim.pure' _
 ·exact Sim.stuck' _
instance (xs:Array Value):SimI P F N (Extern.AbiNoEscape.same xs):=⟨fie xs⟩
def fif (xs:Array Value):Sim P F N (Extern.ReflectliteValue.set xs):=by
 obtain⟨l⟩:=xs;rcases l with _|⟨x,_|⟨y,_|⟨z,l⟩⟩⟩
 ·exact Sim.stuck' _
 ·exact Sim.stuck' _
 ·unfold Extern.ReflectliteValue.set;refine Sim.bind' (f6x _) λo=>Sim.bind' (f6x _) λo'=>?_;rcases o with _|⟨t,a,fl⟩
  ·exact Sim.unsupported' fi
  rcases o' with _|⟨t',a',j⟩
  ·exact Sim.unsupported' fi
  dsimp only;exact smA
 ·exact Sim.stuck' _
instance (xs:Array Value):SimI P F N (Extern.ReflectliteValue.set xs):=⟨fif xs⟩
end
structure FOk (P:Program) (F:Array Func):Prop where
 ints: ∀s d,(s,d)∈convs->(∃k,P.underlying s=some (.int k))/\ ∃k,P.underlying d=some (.int k)
 lies: ∃e,P.underlying 99=some (.pointer e)/\ ∀m u,P.underlying e≠some (.array m u)
 each: ∀f,(∃fn,P.funcs[f]? =some fn/\F[f]? =some fn/\fn.name≠ "runtime.NumGoroutine" /\
  (fn.body=none->Extern.findNext fn=none/\ ∃e,Extern.find fn=some e/\ ∀N xs,Sim P F N (e xs)))\/
  (∃fn fn',P.funcs[f]? =some fn/\F[f]? =some fn'/\fn.name≠ "runtime.NumGoroutine" /\fn'.name≠ "runtime.NumGoroutine" /\fn.body.isSome=true/\fn'.body.isSome=true)\/
  (∀xs,Vain (V P F) (callFunc f xs))
section
variable {α β γ:Type} {P:Program} {F:Array Func} {N:Nat->Prop}
def li (hF:FOk P F) (f:FuncId) (xs:Array Value):Sim P F N (callFunc f xs):=by
 rcases hF.each f with⟨fn,h1,h2,h3,h4⟩|⟨fn,m,h1,h2,h3,h4,h5,h6⟩|h
 ·unfold callFunc;refine Sim.programBind (by show(match F[f]? with|none=>_|some fn=>_)=(match P.funcs[f]? with|none=>_|some fn=>_);rw[h1,h2]) ?_;rw[h1];simp only[f5g,h3,f0s];split
  ·rename_i hb;obtain⟨g1,e,g2,g3⟩:=h4 (by simpa using hb);rw[g1,g2];refine Sim.bind' (Sim.markExtern f (Sim.pure _)) λ_=>?_;exact Sim.bind' (g3 _ _) λ_=>Sim.pure' _
  ·exact Sim.pure' _
 ·unfold callFunc;have hb:fn.body≠none:=λe=>by rw[e] at h5;cases h5
  have j:m.body≠none:=λe=>by rw[e] at h6;cases h6
  intro H v w hN rel;refine SimAt.eq (e':=Sem.pure (.enter f xs)) rel ?_ (λes=>?_) (SimAt.pure rel _)
  ·show(Sem.bind (.program .pure) _).run (V P F) v=_;simp[Sem.bind,Sem.run,h2,h4,j,Pure.pure]
  ·show(Sem.bind (.program .pure) _).runT P w es=_;simp[-Sem.runT_eq,Sem.bind,Sem.runT,h1,h3,hb,Pure.pure]
 ·exact Vain.sim (h xs)
def fkq (f:Value) (xs:Array Value):Sim P F N (Deferred.ofValue f xs):=by
 cases f <;>first|exact Sim.pure' _|exact Sim.stuck' _
def o4 (ρ:Operand->Value) (c:Call) (t:TypeId):Sim P F N (resolve ρ c t):=by
 unfold resolve;dsimp only;split
 ·exact Sim.pure' _
 ·exact Sim.pure' _
 ·exact fkq _ _
def nl (hF:FOk P F) (r:Value) (n:String) (xs:Array Value):Sim P F N (callMethod r n xs):=by
 unfold callMethod;split
 ·refine Sim.programBind (by simp only[fkd]) (Sim.bind' (fak _ _ _ _) λx=>?_);obtain⟨f,r⟩:=x;exact li hF _ _
 ·exact Sim.runtimePanic' _
 ·exact Sim.stuck' _
def fdi (t:TypeId) (v:Value) (p:Array FieldStep) (b:Bool):Sim P F N (receiverVia t v p b):=by
 unfold receiverVia;refine Sim.bind' (faj _ _ _) λx=>?_;obtain⟨a,c⟩:=x;exact na _ _ _ _
def fkr (hF:FOk P F) {b:Builtin} {ts:Array TypeId} (hb:okB b ts=true) (t:TypeId) (cs:Array Bool) (xs:Array Value):Sim P F N (builtin b ts t cs xs):=by
 cases b <;>first
    | exact Sim.bind' (ffk _ _ _) λ_=>Sim.pure' _
    | exact Sim.bind' (fpp _ _ _) λ_=>Sim.pure' _
    | exact Sim.bind' (fpq _ _ _) λ_=>Sim.pure' _
    | exact Sim.bind' (av _ _ _) λ_=>Sim.pure' _
    | exact Sim.bind' (im _ _ _) λ_=>Sim.pure' _
    | exact Sim.bind' (fdf hF.lies (by simpa[okB] using hb) _ _) λ_=>Sim.pure' _
    | (simp[okB] at hb;done)
def fan (hF:FOk P F) {t:Target} (ht:okT t=true) (xs:Array Value):Sim P F N (invoke t xs):=by
 unfold invoke;split
 ·exact Sim.runtimePanic' _
 ·exact fkr hF ht _ _ _
 ·exact li hF _ _
 ·split
  ·exact nl hF _ _ _
  ·exact Sim.stuck' _
 ·split
  ·exact Sim.bind' (Sim.underlying' _) λ_=>nl hF _ _ _
  ·exact Sim.stuck' _
 ·split
  ·exact Sim.bind' (fdi _ _ _ _) λ_=>li hF _ _
  ·exact Sim.stuck' _
 ·exact fid _ _
 ·exact Sim.stuck' _
 ·cases ht
def xn {ρ:Operand->Value} {c:Call} {t:TypeId} {v v1:World} {d:Deferred} (hc:(match c.callee with | .builtin b=>okB b c.argTypes|_=>true)=true) (h:(resolve ρ c t).run P v=.ok d v1):okT d.target=true:=by
 unfold resolve at h;dsimp only at h;split at h
 ·rename_i b hb;rw[hb] at hc;simp[Pure.pure,Sem.run] at h;rw[<- h.1];exact hc
 ·simp[Pure.pure,Sem.run] at h;rw[<- h.1];rfl
 ·unfold Deferred.ofValue at h;split at h
  ·simp[Pure.pure,Sem.run] at h;rw[<- h.1];rfl
  ·simp[Pure.pure,Sem.run] at h;rw[<- h.1];rfl
  ·simp[Go.stuck,Sem.run] at h
def af (hF:FOk P F) (ρ:Operand->Value) {o:Oper} (ho:okOp o=true):Sim P F N (execOp ρ o):=by
 unfold okOp at ho;unfold execOp;cases hop:o.op with
 | move x=>exact Sim.pure' _
 | assign x=>exact Sim.pure' _
 | pick c a b=>exact Sim.bind' (Sim.asBool' _) λ_=>Sim.pure' _
 | alloc e=>exact Sim.bind' (fi3 _ _ _) λ_=>Sim.pure' _
 | box e x=>exact Sim.bind' (fpn _ _) λ_=>Sim.pure' _
 | build t ps=>exact Sim.bind' (fi4 _ _) λ_=>Sim.pure' _
 | buildSlice t l ps=>exact Sim.bind' (mz _ _ _) λ_=>Sim.pure' _
 | load t a=>exact Sim.bind' (fah _ _) λ_=>Sim.pure' _
 | store t a x=>exact Sim.bind' (ny _ _ _) λ_=>Sim.pure' _
 | binOp op t x y u=>exact Sim.bind' (Sim.bind' (fd0 _ _ _ _ _ _) λ_=>fi9 _ _ _ _) λ_=>Sim.pure' _
 | unOp op t x=>exact Sim.bind' (fi1 _ _) λ_=>Sim.pure' _
 | makeInterface t x=>exact Sim.bind' (df _ _) λ_=>Sim.pure' _
 | makeFunc f x y=>exact Sim.bind' (fbf _ _ _) λ_=>Sim.pure' _
 | makeMap t r=>exact Sim.bind' (fd5 _ _) λ_=>Sim.pure' _
 | makeChan t r=>exact Sim.bind' (fbe _ _) λ_=>Sim.pure' _
 | makeSlice t l c=>exact Sim.bind' (sx _ _ _) λ_=>Sim.pure' _
 | slice t x l h m=>exact Sim.bind' (fd4 _ _ _ _ _) λ_=>Sim.pure' _
 | fieldAddr t x f=>exact Sim.bind' (fd1 _ _ _) λ_=>Sim.pure' _
 | indexAddr t x i=>exact Sim.bind' (fd2 _ _ _) λ_=>Sim.pure' _
 | lookup t x i b=>exact Sim.bind' (ffj _ _ _ _) λ_=>Sim.pure' _
 | mapUpdate t m k x=>exact Sim.bind' (t4 _ _ _ _) λ_=>Sim.pure' _
 | range t x=>exact Sim.bind' (fi5 _ _) λ_=>Sim.pure' _
 | next i b=>exact Sim.bind' (fm3 _ _ _) λ_=>Sim.pure' _
 | entry i=>exact Sim.bind' (fi6 _) λ_=>Sim.pure' _
 | typeAssert x s t b=>exact Sim.bind' (n9 _ _ _ _) λ_=>Sim.pure' _
 | extract t i=>exact Sim.bind' (fd6 _ _) λ_=>Sim.pure' _
 | send c x=>exact Sim.pure' _
 | call c=>
   rw[hop] at ho;exact Sim.bindOf (o4 _ _ _) λd ⟨v,v1,h⟩=>fan hF (xn ho h) _
 | defer c=>exact Sim.bind' (o4 _ _ _) λ_=>Sim.pure' _
 | convert s d x=>
   rw[hop] at ho;obtain⟨h1,h2⟩:=hF.ints s d (by simpa using ho);exact Sim.bind' (fkp _ _ _ h1 h2) λ_=>Sim.pure' _
 | nilCheck x=>
   dsimp only;split
   ·exact Sim.runtimePanic' _
   ·exact Sim.runtimePanic' _
   ·exact Sim.runtimePanic' _
   ·split
    ·exact Sim.runtimePanic' _
    ·refine Sim.programBind (by simp only[fkd]) (Sim.bind' (l9 _ _ _ _) λ_=>?_);split
     ·exact Sim.bind' (Sim.unsupported' fi) λ_=>Sim.pure' _
     ·exact Sim.pure' _
    ·exact Sim.pure' _
   ·exact Sim.pure' _
 | select cs b=>exact Sim.bind' (cw _ (λx=>Sim.bind' (Sim.zeroValue' _) λ_=>Sim.pure' _) _) λ_=>Sim.pure' _
 | _=>rw[hop] at ho;cases ho
end
section
variable {α β:Type} {P:Program}
def fc1 (P:Program) (e:Sem α) (Q:α->Prop):Prop:= ∀v x v1,e.run P v=.ok x v1->Q x
def vz {x:α} {Q:α->Prop} (h:Q x):fc1 P (Pure.pure x:Sem α) Q:=λv y v1 e=>by
 simp[Pure.pure,Sem.run] at e;rw[<- e.1];exact h
def ux {e:Sem β} {f:β->Sem α} {Q:α->Prop} (h: ∀x,fc1 P (f x) Q):fc1 P (e >>= f) Q:=λv y v1 hr=>by
 cases he:e.run P v with
 | ok x v2=>exact h x v2 y v1 ((qw he).symm.trans hr)
 | halt x v2=>
   have:=(f2r (f:=f) he).symm.trans hr;cases this
def aw {e:Sem α} {Q:α->Prop} (h:Nok P e):fc1 P e Q:=λv x v1 hr=>absurd hr (h v x v1)
end
def vr (cm:Prop):Next->Prop
 | .value _ | .skip | .enter .. =>True
 | .comm cases b sh=>cm/\((b=false/\sh=.select/\ ∃x z,cases=#[{ chan:=x,send:=none,zero:=z }])\/(b=true/\sh=.send/\ ∃x y z,cases=#[{ chan:=x,send:=some y,zero:=z }]))
 | .defer d=>okT d.target=true
 | .round _ _ _ a b=>(va a=true/\va b=true)/\um a=true/\um b=true
 | _=>False
def NextCall:Next->Prop
 | .value _ | .enter .. =>True
 | _=>False
def NextCall.ok {cm:Prop} {x:Next} (h:NextCall x):vr cm x:=by cases x <;>first|trivial|cases h
section
variable {α β:Type} {P:Program} {F:Array Func} {cm:Prop}
def xo (hF:FOk P F) (f:FuncId) (xs:Array Value):fc1 (V P F) (callFunc f xs) NextCall:=by
 intro v x v1 h;rcases hF.each f with⟨fn,h1,h2,h3,h4⟩|⟨fn,m,h1,h2,h3,h4,h5,h6⟩|hv
 ·have h:(match F[f]? with
       | none=>Go.stuck "call: no such function"
       | some fn=>if fn.name== "runtime.NumGoroutine" then Pure.pure Next.numGoroutine else if fn.body.isNone then (do
          mark (.extern f)
          if let some e:=Extern.findNext fn then return <- e xs
          match Extern.find fn with
          | some e=>Pure.pure (.value (<- e xs))
          | none=>if fn.name.endsWith ".init" && !fn.name.startsWith "(" && !fn.name.startsWith "gosem." then Pure.pure (.value (.tuple #[])) else unsupported (.extern fn.name)) else Pure.pure (.enter f xs):Sem Next).run (V P F) v=.ok x v1:=h
  rw[h2] at h;simp only[f5g,h3,f0s] at h;split at h
  ·rename_i hb;obtain⟨g1,e,g2,_⟩:=h4 (by simpa using hb);rw[g1,g2] at h;exact ux (Q:=NextCall) (λ_=>ux λy=>vz (x:=.value y) km) v x v1 h
  ·exact vz (Q:=NextCall) (x:=.enter f xs) km v x v1 h
 ·have j:m.body≠none:=λe=>by rw[e] at h6;cases h6
  have e:(callFunc f xs).run (V P F) v=.ok (.enter f xs) v:=by
   show(Sem.bind (.program .pure) _).run (V P F) v=_;simp[Sem.bind,Sem.run,h2,h4,j,Pure.pure]
  rw[e] at h;cases h;trivial
 ·obtain⟨h',v2,e1,_⟩:=hv xs v;rw[e1] at h;cases h
def xx (hF:FOk P F) (r:Value) (n:String) (xs:Array Value):fc1 (V P F) (callMethod r n xs) NextCall:=by
 unfold callMethod;split
 ·refine ux λp=>ux λx=>?_;obtain⟨f,r⟩:=x;exact xo hF _ _
 ·exact aw (uj _)
 ·exact λv x v1 h=>by cases h
def ut (v:World):Prop:= ∀(b:Nat) (o:Obj),v.heap[b]? =some o->okSt o=true
def fdj (l:Nat) (xs:Array Value) {v v1:World} {x:Next} (ho:ut v) (h:(Instr.yield l xs).run P v=.ok x v1):vr cm x:=by
 unfold Instr.yield at h;have h:(Sem.getObj l (λo=>Sem.bind (match o with
  | .loop r=>Pure.pure r
  | _=>Go.stuck "range over a function: no such loop" :Sem Loop) λr=>(do
    if xs.size≠r.params.size then Go.stuck "yield: the wrong number of arguments"
    Pure.pure (.round l r.fn ((r.params.zip xs).foldl (λtmps (t,a)=>tmps.setIfInBounds t a) r.tmps) r.assign r.body)))).run P v=.ok x v1:=h
 cases hv:v.heap[l]? with
 | none=>simp[Sem.run,hv] at h
 | some o=>
   have j:=ho l o hv;cases o with
   | loop r=>
     simp only[Sem.run,hv] at h
     have hr:(va r.assign=true/\va r.body=true)/\um r.assign=true/\um r.body=true:=by
        simp only[okSt,iz,f04] at j;exact j.1
     dsimp only[Pure.pure,Sem.bind] at h;split at h
     ·cases h
     ·cases h;exact hr
   | cells=>simp[Sem.run,hv] at h
   | _=>
     simp only[Sem.run,hv] at h;cases h
def lj (hF:FOk P F) {t:Target} (ht:okT t=true) (xs:Array Value) {v v1:World} {x:Next} (ho:ut v) (h:(invoke t xs).run (V P F) v=.ok x v1):vr cm x:=by
 unfold invoke at h;split at h
 ·exact aw (Q:=vr cm) (uj _) v x v1 h
 ·rename_i b ts ty cs;have hb:okB b ts=true:=ht;clear ht;cases b <;>first
   | exact ux (Q:=vr cm) (λy=>vz (x:=.value y) km) v x v1 h
   | (simp[okB] at hb;done)
 ·exact(xo hF _ _ v x v1 h).ok
 ·split at h
  ·exact(xx hF _ _ _ v x v1 h).ok
  ·cases h
 ·split at h
  ·exact(ux (Q:=NextCall) (λy=>xx hF _ _ _) v x v1 h).ok
  ·cases h
 ·split at h
  ·exact(ux (Q:=NextCall) (λy=>xo hF _ _) v x v1 h).ok
  ·cases h
 ·exact fdj _ _ ho h
 ·cases h
 ·cases ht
def t7 {ρ:Operand->Value} {c:Call} {t:TypeId} {v v1:World} {d:Deferred} (h:(resolve ρ c t).run P v=.ok d v1):v1=v:=by
 unfold resolve at h;dsimp only at h;split at h
 ·cases h;rfl
 ·cases h;rfl
 ·unfold Deferred.ofValue at h;split at h <;>cases h <;>rfl
def fig (hF:FOk P F) (ρ:Operand->Value) {o:Oper} (hp:okOp o=true) (j:cm\/ncOp o=true) {v v1:World} {x:Next} (ho:ut v) (h:(execOp ρ o).run (V P F) v=.ok x v1):vr cm x:=by
 unfold okOp at hp;unfold execOp at h;unfold ncOp at j;have gv: ∀s:Sem Value,fc1 (V P F) (do Pure.pure (Next.value (<- s))) (vr cm):=λs=>ux λy=>vz (x:=Next.value y) km;have gu: ∀s:Sem Unit,fc1 (V P F) (do s;Pure.pure Next.skip) (vr cm):=λs=>ux λy=>vz (x:=Next.skip) km
 cases hop:o.op <;>rw[hop] at hp h j <;>dsimp only at h j <;>first
    | (cases hp;done)
    | exact gv _ v x v1 h
    | exact gu _ v x v1 h
    | exact vz (Q:=vr cm) (x:=.value _) km v x v1 h
    | skip
 case pick c a b => exact ux (Q:=vr cm) (λy=>vz (x:=Next.value _) km) v x v1 h
 case nilCheck y=>
    have gp: ∀y:Value,fc1 (V P F) (Pure.pure (Next.value y)) (vr cm):=λy=>vz (x:=Next.value y) km;split at h
    ·exact aw (Q:=vr cm) (uj _) v x v1 h
    ·exact aw (Q:=vr cm) (uj _) v x v1 h
    ·exact aw (Q:=vr cm) (uj _) v x v1 h
    ·split at h
     ·exact aw (Q:=vr cm) (uj _) v x v1 h
     ·refine ux (Q:=vr cm) (λp=>ux λb=>?_) v x v1 h;split
      ·exact ux λ_=>gp _
      ·exact gp _
     ·exact gp _ v x v1 h
    ·exact gp _ v x v1 h
 case call c=>
    have h:(resolve ρ c o.type >>= λd=>invoke d.target d.args).run (V P F) v=.ok x v1:=h;cases hr:(resolve ρ c o.type).run (V P F) v with
    | ok d v2=>
      have e:=t7 hr;subst e;exact lj hF (xn hp hr) _ ho ((qw hr).symm.trans h)
    | halt y v2=>
      have:=(f2r (f:=λd=>invoke d.target d.args) hr).symm.trans h;cases this
 case defer c=>
    have h:(resolve ρ c o.type >>= λd=>Pure.pure (Next.defer d)).run (V P F) v=.ok x v1:=h;cases hr:(resolve ρ c o.type).run (V P F) v with
    | ok d v2=>
      have:=(qw (f:=λd=>Pure.pure (Next.defer d)) hr).symm.trans h;cases this;exact xn hp hr
    | halt y v2=>
      have:=(f2r (f:=λd=>Pure.pure (Next.defer d)) hr).symm.trans h;cases this
 case send y z => exact vz (Q:=vr cm) (x:=Next.comm _ _ _) ⟨j.elim id (λe=>by cases e),.inr ⟨rfl,rfl,_,_,_,rfl⟩⟩ v x v1 h
 case select cs b=>
    obtain⟨l⟩:=cs;simp only[f04,f2y] at hp;obtain⟨rfl,hp⟩:=hp
    match l,hp with
    | [c],hp=>
      have hc:c.send=none:=by simpa using hp
      rw[f3y] at h;simp only[List.mapM_cons,List.mapM_nil] at h;simp[hc] at h;cases hz:(zeroValue c.elem).run (V P F) v with
      | ok z v2=>
        rw[hz] at h;simp only[Result.andThen_ok,Result.ok.injEq] at h;obtain⟨rfl,_⟩:=h;exact⟨j.elim id (λe=>by cases e),.inl ⟨rfl,rfl,_,_,rfl⟩⟩
      | halt y v2=>rw[hz] at h;cases h
end
open Go.Conc
inductive Touch where
 | fin (v:Value)
 | dret
 | raise (chain:List PanicEntry)
def Touch.on:Touch->Frame->Frame
 | .fin v,c=>c.finish v
 | .dret,c=>match c.mode with
   | .panicking ({ recovered:=true,.. }::older)=>
     match older.dropWhile (!·.goexit) with
     | []=>{ c with mode:=.returning }
     | rest=>{ c with mode:=.panicking rest }
   | _=>c
 | .raise ch,c=>c.raise ch
inductive LRes where
 | push (fr:Frame) (ab:List Frame)
 | enter (f:FuncId) (args:Array Value) (kind:CallKind) (fr:Frame)
 | touch (t:Touch)
 | comm (fr:Frame) (cases:Array CommCase) (blocking:Bool) (shape:CommShape)
def LRes.plug (P:Program) (r:LRes) (c:Frame) (cs:List Frame) (w:World) (es:Array Event):GStep:=
 match r with
 | .push fr ab=>.go (G fr (ab++c::cs)) w es
 | .enter f args kind fr=>.go (G (Frame.enter P f args kind) (fr::c::cs)) w es
 | .touch t=>.go (G (t.on c) cs) w es
 | .comm fr cases b sh=>.comm (G fr (c::cs)) cases b sh w es
def ff9 (P:Program) (fr:Frame) (w:World) (r:LRes) (w':World) (es:Array Event):Prop:=
 ∀(main:Bool) (c:Frame) (cs:List Frame),stepG P main (G fr (c::cs)) w=r.plug P c cs w' es
def Dead (P:Program) (fr:Frame) (v:World):Prop:=
 ∀(main:Bool) (c:Frame) (cs:List Frame),∃o u es,stepG P main (G fr (c::cs)) v=.ended o u es
def vt (fr:Frame):Bool:=match fr.mode with
 | .panicking _=>true
 | _=>false
def LRes.calm:LRes->Bool
 | .push fr ab=> !vt fr&&ab.all λx=> !vt x
 | .enter _ _ _ fr=> !vt fr
 | .touch (.raise _)=>false
 | _=>true
def wk:Item->Bool
 | .code c | .inLoop c=>va c
 | .inBlock _ | .inRangeFunc _ | .endRangeFunc _ | .beginRound=>true
 | .inRegion ops _=>ops.all fpj
 | .inScope _ | .call .. | .extern .. =>false
def o5:Item->Bool
 | .code c | .inLoop c=>um c
 | .inRegion ops _=>ops.all de
 | _=>true
def fdk:Item->Bool
 | .code c | .inLoop c=>yb c
 | .inRegion ops _=>ops.all ncOp
 | _=>true
def More (q n:Prop) (i:Item):Prop:=(q->o5 i=true)/\(n->fdk i=true)
def Nc (P:Program) (F:Array Func):Prop:=P.funcs≠F
def fgp (ch:List PanicEntry):Prop:= ∀e∈ch,e.recovered=false/\e.goexit=false
structure FrOk (P:Program) (F:Array Func) (fr:Frame):Prop where
 kind:fr.kind=.normal\/fr.kind=.deferred
 todo: ∀i∈fr.todo,wk i=true
 round: ∀i∈fr.todo,More (fr.roundOf.isSome=true) (Nc P F) i
 defers: ∀d∈fr.defers,okT d.target=true
 chain: ∀ch,fr.mode=.panicking ch->fgp ch/\ch≠[]
 fn:fr.roundOf=none->P.funcs[fr.fn]? =F[fr.fn]?
 back:fr.roundOf.isSome=true->fr.mode≠ .returning
def Touch.ok:Touch->Prop
 | .raise ch=>fgp ch/\ch≠[]
 | _=>True
def fgq (P:Program) (F:Array Func):LRes->Prop
 | .push fr ab=>FrOk P F fr/\ ∀x∈ab,FrOk P F x
 | .enter _ _ kind fr=>FrOk P F fr/\(kind=.normal\/kind=.deferred)
 | .touch t=>t.ok
 | .comm fr cases b sh=>FrOk P F fr/\ ¬Nc P F/\((b=false/\sh=.select/\ ∃x z,cases=#[{ chan:=x,send:=none,zero:=z }])\/(b=true/\sh=.send/\ ∃x y z,cases=#[{ chan:=x,send:=some y,zero:=z }]))
def ffn (k:CallKind):LRes->Prop
 | .push f ab=>(ab=[]/\f.kind=k)\/ ∃j x,ab=j++[x]/\x.kind=k
 | .enter _ _ _ g=>g.kind=k
 | .touch .dret=>k≠ .normal
 | .touch _=>True
 | .comm g .. =>g.kind=k
def S1 (P:Program) (F:Array Func) (H:Hide) (fr:Frame) (v w:World):Prop:=
 Dead (V P F) fr v\/ ∃r v' es,ff9 (V P F) fr v r v' es/\fgq P F r/\ffn fr.kind r/\ut v'/\(vt fr=true->r.calm=false)/\
    (r.calm=true-> ∃k,v.heap.size<=v'.heap.size/\v'.tape=v.tape/\v'.drawn=v.drawn+k/\
      (Agree v w k-> ∃w' j,ff9 P fr w r w' j/\w'.tape=w.tape/\w'.drawn=w.drawn+k/\Rel H v' w'/\ ∀e∈j,EvOK H w'.heap.size e))
section
variable {P:Program} {F:Array Func} {H:Hide} {fr fr':Frame} {v w:World}
def FrOk.same {fr fr':Frame} (h:FrOk P F fr) (h1:fr'.kind=fr.kind) (h2: ∀i∈fr'.todo,wk i=true/\More (fr.roundOf.isSome=true) (Nc P F) i) (h3:fr'.roundOf=fr.roundOf) (h4:fr'.defers=fr.defers) (h5:fr'.mode=fr.mode) (h6:fr'.fn=fr.fn):FrOk P F fr':=
 ⟨h1▸h.kind,λi hi=>(h2 i hi).1,λi hi=>by rw[h3];exact(h2 i hi).2,h4▸h.defers,h5▸h.chain,λhn=>h6▸h.fn (h3▸hn),λhr=>h5▸h.back (h3▸hr)⟩
def fdl {q:Prop} (h:vt fr=false) (h':vt fr=true):q:=by rw[h] at h';cases h'
def fq2 (j:vt fr=false) (rel:Rel H v w) (h: ∀(Q:Program) (main:Bool) (c:Frame) (cs:List Frame) (u:World),stepG Q main (G fr (c::cs)) u=.go (G fr' (c::cs)) u) (ok:FrOk P F fr') (m:fr'.kind=fr.kind:=by rfl):S1 P F H fr v w:=by
 refine .inr ⟨.push fr' [],v,#[],λmain c cs=>h _ main c cs v,⟨ok,by simp⟩,.inl ⟨rfl,m⟩,rel.objs,fdl j,λ_=>⟨0,fx8 _,rfl,rfl,λ_=>⟨w,#[],λmain c cs=>h _ main c cs w,rfl,rfl,rel,by simp⟩⟩⟩
def fih (s:GStep):GStep.after #[] s=s:=by cases s <;>simp[GStep.after]
def ye (P:Program) (r:LRes) (c:Frame) (cs:List Frame) (w:World) (a es:Array Event):GStep.after a (r.plug P c cs w es)=r.plug P c cs w (a++es):=by cases r <;>rfl
def zr (fr:Frame):Next->LRes
 | .value x=>.push (fr.finish x) []
 | .skip=>.push (fr.finish undef) []
 | .enter f args=>.enter f args .normal fr
 | .round l f tmps a b=>.push (Frame.round l f tmps a b .normal) [fr]
 | .defer d=>.push ({ fr with defers:=d::fr.defers }.finish undef) []
 | .comm cases b sh=>.comm fr cases b sh
 | _=>.push fr []
def f6y {Q:Program} {s:Sem Next} {u u':World} {x:Next} {es:Array Event} (h:s.runT Q u #[]=(.ok x u',es)) {cm:Prop} (hx:vr cm x) (hk:fr.kind=.normal\/fr.kind=.deferred)
    (ht: ∀i∈fr.todo,wk i=true) (c:Frame) (cs:List Frame):stepG.apply Q true fr (c::cs) none s u=(zr fr x).plug Q c cs u' (seen Q fr.fn es):=by
 have j:(fr.kind==CallKind.early)=false:=by rcases hk with h|h <;>rw[h] <;>rfl
 unfold stepG.apply;simp only[h,f0e,j,f0g,f0s];cases x
 case enter f args=>
    simp only[GStep.after,zr,LRes.plug,G,f1t];cases e:fr.todo with
    | nil=>rfl
    | cons i k=>
      have:=ht i pb;cases i <;>first|rfl|cases this
 all_goals first|cases hx;done|(simp[GStep.after,zr,LRes.plug,G])
def ax {Q:Program} {s:Sem Next} {u u':World} {x:Value} {es:Array Event} (h:s.runT Q u #[]=(.halt (.panic x) u',es)) (hk:fr.kind=.normal\/fr.kind=.deferred)
    (c:Frame) (cs:List Frame):stepG.apply Q true fr (c::cs) none s u=(LRes.push (fr.raise [{ v:=x,recovered:=false }]) []).plug Q c cs u' (seen Q fr.fn es):=by
 have j:(fr.kind==CallKind.early)=false:=by rcases hk with h|h <;>rw[h] <;>rfl
 unfold stepG.apply;simp only[h,f0e,j,f0g,f0s];simp[GStep.after,LRes.plug,G]
def uu {α:Type} {Q:Program} {s:Sem α} {u:World} {r:Result α} (h:s.run Q u=r): ∃es,s.runT Q u #[]=(r,es):=
 ⟨(s.runT Q u #[]).2,f2v ((f0d Q s u #[]).trans h) rfl⟩
def dg {Q:Program} {s:Sem Next} {u u':World} {x:Halt} (h:s.run Q u=.halt x u') (hx:hard x=true) (c:Frame) (cs:List Frame): ∃o u1 es,stepG.apply Q true fr (c::cs) none s u=.ended o u1 es:=by
 obtain⟨es,e⟩:=uu h;unfold stepG.apply;simp only[e,f0e];cases x with
 | stuck s=>exact⟨_,_,_,rfl⟩
 | unsupported y=>cases y <;>first|(cases hx;done)|exact⟨_,_,_,rfl⟩
 | _=>cases hx
def ffo (fr:Frame) (ch:List PanicEntry): ∃j,(fr.raise ch).mode=.panicking j:=by
 unfold Frame.raise;cases fr.mode <;>exact⟨_,rfl⟩
def t8 (h:FrOk P F fr) {ch:List PanicEntry} (hc:fgp ch) (hn:ch≠[]):FrOk P F (fr.raise ch):=by
 have e:(fr.raise ch).kind=fr.kind/\(fr.raise ch).todo=fr.todo/\(fr.raise ch).roundOf=fr.roundOf/\(fr.raise ch).defers=fr.defers/\(fr.raise ch).fn=fr.fn:=by
    unfold Frame.raise;split <;>exact⟨rfl,rfl,rfl,rfl,rfl⟩
 obtain⟨e1,e2,e3,e4,e5⟩:=e;refine⟨e1▸h.kind,e2▸h.todo,by rw[e3,e2];exact h.round,e4▸h.defers,λj hm=>?_,λhn=>e5▸h.fn (e3▸hn),λ_ hb=>by obtain⟨j,h'⟩:=ffo fr ch;rw[h'] at hb;cases hb⟩;unfold Frame.raise at hm;split at hm
 ·rename_i old ho;cases hm;refine⟨λe he=>?_,by simp[hn]⟩;rcases fz0.1 he with he|he
  ·exact hc e he
  ·exact(h.chain _ ho).1 e he
 ·cases hm;exact⟨hc,hn⟩
def vu (fr:Frame) (ch:List PanicEntry):vt (fr.raise ch)=true:=by
 obtain⟨j,h'⟩:=ffo fr ch;unfold vt;rw[h']
def eu (x:Value):fgp [{ v:=x,recovered:=false }]:=by intro e he;simp at he;subst he;exact⟨rfl,rfl⟩
def dh (h:FrOk P F fr) (x:Value):FrOk P F (fr.finish x):=by
 have ht:=h.todo;have hr:=h.round;unfold Frame.finish;split
 ·rename_i ops i rest k e;rw[e] at ht hr;refine h.same rfl (λj hj=>?_) rfl rfl rfl rfl;simp only[fy3] at hj;rcases hj with rfl|hj
  ·exact⟨ht (.inRegion ops (i::rest)) fi,hr (.inRegion ops (i::rest)) fi⟩
  ·exact⟨ht _ ql,hr _ ql⟩
 ·rename_i l k e;rw[e] at ht hr;refine h.same rfl (λj hj=>?_) rfl rfl rfl rfl;simp only[fy3] at hj;rcases hj with rfl|hj
  ·exact⟨rfl,λ_=>rfl,λ_=>rfl⟩
  ·exact⟨ht _ ql,hr _ ql⟩
 ·rename_i k e;rw[e] at ht hr;exact h.same rfl (λj hj=>⟨ht _ ql,hr _ ql⟩) rfl rfl rfl rfl
 ·rename_i d wr re sa k e;rw[e] at ht;cases ht (.call d wr re sa) fi
 ·rename_i r a k e;rw[e] at ht;cases ht (.extern r a) fi
 ·exact h
def fks (fr:Frame) (x:Value):(fr.finish x).mode=fr.mode:=by unfold Frame.finish;split <;>rfl
def fgr (l:Nat) (f:FuncId) (tmps:Array Value) {a b:Code} (hx:(va a=true/\va b=true)/\um a=true/\um b=true) {kind:CallKind} (hk:kind=.normal\/kind=.deferred):FrOk P F (Frame.round l f tmps a b kind):=by
 obtain⟨⟨ha,hb⟩,j,m⟩:=hx;refine⟨hk,λi hi=>?_,λi hi=>?_,by simp[Frame.round],λch hm=>by simp[Frame.round] at hm,λhn=>by simp[Frame.round] at hn,λ_=>by simp[Frame.round]⟩
 ·simp only[Frame.round,fy3,fz8,f0z] at hi;rcases hi with rfl|rfl|rfl
  ·exact ha
  ·rfl
  ·exact hb
 ·simp only[Frame.round,fy3,fz8,f0z] at hi;rcases hi with rfl|rfl|rfl
  ·exact⟨λ_=>j,λ_=>uq _ j⟩
  ·exact⟨λ_=>rfl,λ_=>rfl⟩
  ·exact⟨λ_=>m,λ_=>uq _ m⟩
def next_ok {x:Next} (hx:vr (¬Nc P F) x) (ok:FrOk P F fr):fgq P F (zr fr x):=by
 cases x with
 | value y=>exact⟨dh ok y,by simp⟩
 | skip=>exact⟨dh ok _,by simp⟩
 | enter f args=>exact⟨ok,.inl rfl⟩
 | round l f tmps a b=>exact⟨fgr l f tmps hx (.inl rfl),by simpa[zr] using ok⟩
 | defer d=>
   refine⟨dh (fr:={ fr with defers:=d::fr.defers }) ⟨ok.kind,ok.todo,ok.round,λe he=>?_,ok.chain,ok.fn,ok.back⟩ _,by simp⟩;simp only[fy3] at he;rcases he with rfl|he
   ·exact hx
   ·exact ok.defers e he
 | comm cs b sh=>exact⟨ok,hx⟩
 | _=>cases hx
def ay (fr:Frame) (x:Value):(fr.finish x).kind=fr.kind:=by unfold Frame.finish;split <;>rfl
def ma (fr:Frame) (ch:List PanicEntry):(fr.raise ch).kind=fr.kind:=by unfold Frame.raise;split <;>rfl
def fq3 {k:CallKind} (h:fr.kind=k) (x:Next):ffn k (zr fr x):=by
 cases x with
 | value y=>exact .inl ⟨rfl,(ay _ _).trans h⟩
 | skip=>exact .inl ⟨rfl,(ay _ _).trans h⟩
 | enter f args=>exact h
 | round l f tmps a b=>exact .inr ⟨[],fr,rfl,h⟩
 | defer d=>exact .inl ⟨rfl,(ay _ _).trans h⟩
 | comm cs b sh=>exact h
 | _=>exact .inl ⟨rfl,h⟩
def ym {α:Type} {s:Sem α} (hs:Sim P F (λ_=>False) s) (rel:Rel H v w):
    (∃h v1,s.run (V P F) v=.halt h v1/\hard h=true)\/
    ∃ R:World->Result α,((∃x,R=.ok x)\/ ∃x,R=.halt (.panic x))/\ ∃v1 k,s.run (V P F) v=R v1/\ut v1/\v.heap.size<=v1.heap.size/\v1.tape=v.tape/\v1.drawn=v.drawn+k/\(∃w0,Rel H v1 w0)/\
      (Agree v w k-> ∃w1 new,s.runT P w #[]=(R w1,new)/\w1.tape=w.tape/\w1.drawn=w.drawn+k/\Rel H v1 w1/\ ∀e∈new,EvOK H w1.heap.size e):=by
 have h:=hs H v w (λ_ hf=>hf.elim) rel;have j:=λu (ru:Rel H v u)=>hs H v u (λ_ hf=>hf.elim) ru;unfold SimAt at h j;cases hr:s.run (V P F) v with
 | ok x v1=>
   simp only[hr] at h j;obtain⟨w0,r0⟩:=Mirror.some rel j;obtain⟨h1,h2,k,h3,h4⟩:=h;exact .inr ⟨.ok x,.inl ⟨x,rfl⟩,v1,k,rfl,r0.objs,h1,h2,h3,⟨w0,r0⟩,λha=>by simpa using h4 #[] ha⟩
 | halt x v1=>
   simp only[hr] at h j;cases x with
   | panic y=>
     obtain⟨w0,r0⟩:=Mirror.some rel j;obtain⟨h1,h2,k,h3,h4⟩:=h;exact .inr ⟨.halt (.panic y),.inr ⟨y,rfl⟩,v1,k,rfl,r0.objs,h1,h2,h3,⟨w0,r0⟩,λha=>by simpa using h4 #[] ha⟩
   | _=>exact .inl ⟨_,v1,rfl,h⟩
def fm7 (J:vt fr=false) {s:Sem Next} {fr0:Frame} {v0 w00:World} {e0v:Array Event} {k0:Nat} (hs:Sim P F (λ_=>False) s) (hn: ∀v v1 x,ut v->s.run (V P F) v=.ok x v1->vr (¬Nc P F) x) (ok:FrOk P F fr0)
    (A:Rel H v0 w00) (h1:v.heap.size<=v0.heap.size) (h2:v0.tape=v.tape) (h3:v0.drawn=v.drawn+k0)
    (hv: ∀(main:Bool) (c:Frame) (cs:List Frame),stepG (V P F) main (G fr (c::cs)) v=GStep.after e0v (stepG.apply (V P F) true fr0 (c::cs) none s v0))
    (hw:Agree v w k0-> ∃w0 q,(∀(main:Bool) (c:Frame) (cs:List Frame),stepG P main (G fr (c::cs)) w=GStep.after q (stepG.apply P true fr0 (c::cs) none s w0))/\w0.tape=w.tape/\w0.drawn=w.drawn+k0/\Rel H v0 w0/\ ∀e∈q,EvOK H w0.heap.size e) (D:fr0.kind=fr.kind:=by rfl):S1 P F H fr v w:=by
 rcases ym hs A with⟨x,v1,hx,hh⟩|⟨R,hR,v1,k,hr,ho,hsz,O,aa,⟨ab,W⟩,_⟩
 ·refine .inl λmain c cs=>?_;obtain⟨o,u,es,e⟩:=dg (fr:=fr0) hx hh c cs;exact⟨o,u,e0v++es,by rw[hv,e];rfl⟩
 ·obtain ⟨I,C⟩:=uu hr;rcases hR with⟨x,rfl⟩|⟨x,rfl⟩
  ·have hx:=hn v0 v1 x A.objs hr;refine .inr ⟨zr fr0 x,v1,e0v++seen (V P F) fr0.fn I,λmain c cs=>?_,next_ok hx ok,fq3 D x,ho,fdl J,λ_=>⟨k0+k,f08 h1 hsz,O.trans h2,by omega,λha=>?_⟩⟩
   ·rw[hv,f6y C hx ok.kind ok.todo,ye]
   ·obtain⟨w0,q,M,t0,d0,m,X⟩:=hw (ha.le fe);rcases ym hs m with⟨y,v2,hy,hh⟩|⟨R',U,v2,k',B,_,_,_,Y,_,h4⟩
    ·rw[hr] at hy;cases hy
    ·rw[hr] at B
     have e1:R'=.ok x/\v2=v1:=by
       rcases U with⟨y,rfl⟩|⟨y,rfl⟩
       ·cases B;exact⟨rfl,rfl⟩
       ·cases B
     obtain⟨rfl,rfl⟩:=e1;obtain rfl:k'=k:=by omega
     obtain⟨w1,new,g1,g2,g3,g4,g5⟩:=h4 (λj hj=>by
       have:=ha (k0+j) fe;rw[h2,h3,t0,d0];simpa[f3r] using this)
     refine⟨w1,q++seen P fr0.fn new,λmain c cs=>?_,g2.trans t0,by omega,g4,λe he=>?_⟩
     ·rw[M,f6y g1 hx ok.kind ok.todo,ye]
     ·rcases f4c.1 he with he|he
      ·exact(X e he).mono (by rw[<- m.size,<- g4.size];exact hsz)
      ·exact g5 e (f3e he)
  ·refine .inr ⟨.push (fr0.raise [{ v:=x,recovered:=false }]) [],v1,e0v++seen (V P F) fr0.fn I,λmain c cs=>?_,⟨t8 ok (eu x) fi,by simp⟩,.inl ⟨rfl,(ma _ _).trans D⟩,ho,fdl J,λhc=>?_⟩
   ·rw[hv,ax C ok.kind,ye]
   ·simp[LRes.calm,vu] at hc
def fii (j:vt fr=false) {s:Sem Next} {fr0:Frame} (hs:Sim P F (λ_=>False) s) (hn: ∀v v1 x,ut v->s.run (V P F) v=.ok x v1->vr (¬Nc P F) x) (ok:FrOk P F fr0) (rel:Rel H v w)
    (h: ∀(Q:Program) (main:Bool) (c:Frame) (cs:List Frame) (u:World),stepG Q main (G fr (c::cs)) u=stepG.apply Q true fr0 (c::cs) none s u) (m:fr0.kind=fr.kind:=by rfl):S1 P F H fr v w:=
 fm7 (v0:=v) (w00:=w) (e0v:=#[]) (k0:=0) j hs hn ok rel (fx8 _) rfl rfl (λmain c cs=>by rw[h,fih])
    (λ_=>⟨w,#[],λmain c cs=>by rw[h,fih],rfl,rfl,rel,by simp⟩) m
end
section
variable {P:Program} {F:Array Func} {H:Hide} {fr fr':Frame} {v w:World}
def o6 {α:Type} (K:α->LRes) (T:Program->Frame->List Frame->Halt->World->GStep) (Q:Program) (c:Frame) (cs:List Frame):Result α->GStep
 | .ok x u1=>(K x).plug Q c cs u1 #[]
 | .halt h u1=>T Q c cs h u1
def ftk {α:Type} (Y:α->Prop):Result α->Prop
 | .halt .blocked _ | .halt .waiting _=>False
 | .halt h _=>hard h=true\/ ∃x,h=.panic x
 | .ok x _=>Y x
def fm8 {α:Type} {s:Sem α} (Y:α->Prop) (hs:Sim P F (λ_=>False) s) (rel:Rel H v w) (K:α->LRes) (T:Program->Frame->List Frame->Halt->World->GStep)
    (hq: ∀(Q:Program) (main:Bool) (c:Frame) (cs:List Frame) (u:World) (r:Result α) (es:Array Event),s.runT Q u #[]=(r,es)->ftk Y r->stepG Q main (G fr (c::cs)) u=GStep.after (seen Q fr.fn es) (o6 K T Q c cs r))
    (hK: ∀v v1 x,ut v->s.run (V P F) v=.ok x v1->fgq P F (K x)/\Y x)
    (hT: ∀Q c cs h u1,hard h=true-> ∃o u2 es,T Q c cs h u1=.ended o u2 es)
    (q:vt fr=true-> ∀x,(K x).calm=false) (fr1:Frame) (hP:(∀Q c cs x u1,∃o u2 es,T Q c cs (.panic x) u1=.ended o u2 es)\/((∀Q c cs x u1,T Q c cs (.panic x) u1=(LRes.push (fr1.raise [{ v:=x,recovered:=false }]) []).plug Q c cs u1 #[])/\FrOk P F fr1)) (B: ∀x,ffn fr.kind (K x)) (J:fr1.kind=fr.kind:=by rfl):S1 P F H fr v w:=by
 rcases ym hs rel with⟨x,v1,hx,hh⟩|⟨R,hR,v1,k,hr,ho,hsz,C,I,⟨O,D⟩,h4⟩
 ·refine .inl λmain c cs=>?_;obtain⟨o,u2,es,e⟩:=hT (V P F) c cs x v1 hh;obtain⟨m,j⟩:=uu hx;exact⟨o,u2,seen (V P F) fr.fn m++es,by rw[hq _ _ _ _ _ _ _ j (by cases x <;>first|exact .inl hh|cases hh)];simp only[o6,e];rfl⟩
 ·obtain⟨m,j⟩:=uu hr;rcases hR with⟨x,rfl⟩|⟨x,rfl⟩
  ·obtain⟨M,A⟩:=hK v v1 x rel.objs hr;refine .inr ⟨K x,v1,seen (V P F) fr.fn m++ #[],λmain c cs=>?_,M,B x,ho,λhp=>q hp x,λ_=>⟨k,hsz,C,I,λha=>?_⟩⟩
   ·rw[hq _ _ _ _ _ _ _ j A];simp only[o6,ye]
   ·obtain⟨w1,new,g1,g2,g3,g4,g5⟩:=h4 ha;exact⟨w1,seen P fr.fn new++ #[],λmain c cs=>by rw[hq _ _ _ _ _ _ _ g1 A];simp only[o6,ye],g2,g3,g4,λe he=>g5 e (f3e (by simpa using he))⟩
  ·rcases hP with hP|⟨hP,ok⟩
   ·refine .inl λmain c cs=>?_;obtain⟨o,u2,es,e⟩:=hP (V P F) c cs x v1;exact⟨o,u2,seen (V P F) fr.fn m++es,by rw[hq _ _ _ _ _ _ _ j (.inr ⟨_,rfl⟩)];simp only[o6,e];rfl⟩
   ·refine .inr ⟨.push (fr1.raise [{ v:=x,recovered:=false }]) [],v1,seen (V P F) fr.fn m++ #[],λmain c cs=>?_,⟨t8 ok (eu x) fi,by simp⟩,.inl ⟨rfl,(ma _ _).trans J⟩,ho,(λ_=>by simp[LRes.calm,vu]),λhc=>?_⟩
    ·rw[hq _ _ _ _ _ _ _ j (.inr ⟨_,rfl⟩)];simp only[o6,hP,ye]
    ·simp[LRes.calm,vu] at hc
def c9 (fr:Frame) (x:Value):LRes:=.touch (if fr.kind=.normal then .fin x else .dret)
def wn (hk:fr.kind=.normal\/fr.kind=.deferred) (Q:Program) (main:Bool) (c:Frame) (cs:List Frame) (x:Value) (u:World):doReturn Q main fr (c::cs) none x u=(c9 fr x).plug Q c cs u #[]:=by
 unfold doReturn c9;rcases hk with h|h
 ·simp only[h,LRes.plug,f0e,Touch.on];rfl
 ·simp only[h,LRes.plug,Touch.on,fx9 (show ¬CallKind.deferred=.normal by simp)];rfl
def fdm (x:Value):fgq P F (c9 fr x):=by
 unfold c9;split <;>trivial
def o7 (fr:Frame) (x:Value):ffn fr.kind (c9 fr x):=by
 unfold c9;split
 ·trivial
 ·assumption
def fwh:Option Code->Bool
 | none=>true
 | some .ret=>true
 | _=>false
def ftl (A:vt fr=false) (ok:FrOk P F fr) (rel:Rel H v w) (j:Option Code)
    (hn:fr.roundOf=none-> ∀(Q:Program) (main:Bool) (c:Frame) (cs:List Frame) (u:World),stepG Q main (G fr (c::cs)) u=if fwh j then .go (G { fr with mode:=.returning } (c::cs)) u else .ended (.stuck "exit, goto: no such block or label" (fr.pos Q)) u)
    (hs : ∀l,fr.roundOf=some l-> ∀(Q:Program) (main:Bool) (c:Frame) (cs:List Frame) (u:World),stepG Q main (G fr (c::cs)) u=GStep.after (seen Q fr.fn ((Instr.endRound l j).runT Q u #[]).2) (match ((Instr.endRound l j).runT Q u #[]).1 with
        | .ok v w=>doReturn Q main fr (c::cs) none v w
        | .halt _ w=>.ended (.stuck "range over a function: no such loop" (fr.pos Q)) w))
    (hj: ∀c,j=some c->(va c&&um c)=true):S1 P F H fr v w:=by
 cases hr:fr.roundOf with
 | none=>
   have B:FrOk P F { fr with mode:=.returning }:=⟨ok.kind,ok.todo,ok.round,ok.defers,(λch e=>by cases e),ok.fn,(λe=>by rw[show fr.roundOf=none from hr] at e;cases e)⟩;cases hb:fwh j with
   | true=>exact fq2 A rel (λQ main c cs u=>by rw[hn hr,hb];rfl) B
   | false=>exact .inl λmain c cs=>⟨_,_,_,by rw[hn hr,hb];rfl⟩
 | some l=>
   refine fm8 (λ_=>True) (fic l hj) rel (c9 fr) (λQ c cs x u1=>.ended (.stuck "range over a function: no such loop" (fr.pos Q)) u1) (λQ main c cs u r es he _=>?_) (λ_ _ x _ _=>⟨fdm x,trivial⟩) (λQ c cs x u1 _=>⟨_,_,_,rfl⟩) (fdl A) fr (.inl λQ c cs x u1=>⟨_,_,_,rfl⟩) (o7 fr);rw[hs l hr,he];cases r with
   | ok x u1=>simp only[o6,wn ok.kind Q main c cs x u1]
   | halt x u1=>rfl
def FrOk.with_todo (ok:FrOk P F fr) {k:List Item} (h: ∀i∈k,wk i=true/\More (fr.roundOf.isSome=true) (Nc P F) i):FrOk P F { fr with todo:=k }:=
 ok.same rfl h rfl rfl rfl rfl
def FrOk.head (ok:FrOk P F fr) {i:Item} {k:List Item} (e:fr.todo=i::k):wk i=true/\More (fr.roundOf.isSome=true) (Nc P F) i:=⟨ok.todo i pb,ok.round i pb⟩
def FrOk.tail (ok:FrOk P F fr) {i:Item} {k:List Item} (e:fr.todo=i::k): ∀j∈k,wk j=true/\More (fr.roundOf.isSome=true) (Nc P F) j:=λj hj=>⟨ok.todo j (by rw[e];simp[hj]),ok.round j (by rw[e];simp[hj])⟩
def yx {i:Item} {k:List Item} {q n:Prop} (h:wk i=true/\More q n i) (hk: ∀j∈k,wk j=true/\More q n j): ∀j∈i::k,wk j=true/\More q n j:=by
 intro j hj;rcases fy3.1 hj with rfl|hj
 ·exact h
 ·exact hk j hj
def fdn {q n:Prop} (id:Nat): ∀(k k':List Item),(∀j∈k,wk j=true/\More q n j)->exitTo id k=some k'-> ∀j∈k',wk j=true/\More q n j
 | [],k',_,h=>by simp[exitTo] at h
 | i ::k,k',hk,h=>by
   have m: ∀j∈k,wk j=true/\More q n j:=λj hj=>hk j ql;cases i with
   | inBlock A=>
     simp only[exitTo] at h;split at h
     ·cases h;exact m
     ·exact fdn id k k' m h
   | _=>simp only[exitTo] at h;exact fdn id k k' m h
def fq4:Hide:=⟨λ_=>none,λ_=>none,false⟩
def Rel.refl {v:World} (h:ut v):Rel fq4 v v:=⟨rfl,λ_ _=>rfl,(λ_ _ h=>by cases h),rfl,rfl,h,(λ_ _ h=>by cases h),(λh=>by cases h)⟩
def fgs {α:Type}: ∀(a:Ask α) (w:World),(w.ask a).2.heap=w.heap
 | .done _,w=>rfl
 | .ask j range k,w=>by
   unfold World.ask;dsimp only;split
   ·exact fgs _ w
   ·rw[fgs (k _) _]
def ftm (c:Sys) (w:World):(w.sys c).2.heap=w.heap:=by
 have h:=fgs (Kernel.perform c w.os) w;unfold World.sys;split
 ·rfl
 ·rename_i r os w' _ e;rw[e] at h;exact h
def fq5 (x:Value) {v:World} (ho:ut v):
    (∃h v1,(Instr.panic x).run (V P F) v=.halt h v1/\hard h=true)\/ ∃y v1,(Instr.panic x).run (V P F) v=.halt (.panic y) v1/\ut v1:=by
 have hp: ∀(u:World),ut u-> ∀e:RuntimeError,(∃h v1,(runtimePanic e:Sem Value).run (V P F) u=.halt h v1/\hard h=true)\/ ∃y v1,(runtimePanic e:Sem Value).run (V P F) u=.halt (.panic y) v1/\ut v1:=λu hu e=>by
    rcases ym (P:=P) (F:=F) (Sim.runtimePanic' e) (Rel.refl hu) with⟨h,v1,h1,h2⟩|⟨R,hR,v1,k,hr,ho,_⟩
    ·exact .inl ⟨h,v1,h1,h2⟩
    ·rcases hR with⟨y,rfl⟩|⟨y,rfl⟩
     ·exact absurd hr (uj e u y v1)
     ·exact .inr ⟨y,v1,hr,ho⟩
 cases x with
 | iface t y=>exact .inr ⟨_,v,rfl,ho⟩
 | nilIface=>
   have j:ut (v.sys .env).2:=λb o hb=>ho b o (by rw[ftm] at hb;exact hb);unfold Instr.panic Instr.panicnil;simp only[Bind.bind,Sem.bind,Go.sys,Sem.run];split
   ·simp only[Sem.bind,Sem.run,Go.program,Pure.pure];split
    ·exact .inr ⟨_,_,rfl,j⟩
    ·exact hp _ j _
   ·exact .inl ⟨_,_,rfl,rfl⟩
 | _=>exact .inl ⟨_,v,rfl,rfl⟩
def fbl (o:Oper) (ρ:Operand->Value) {x:Operand} (j:o.op=.panic x) (Q:Program) (v:World):(execOp ρ o).run Q v=(Instr.panic (ρ x) >>= λy=>Pure.pure (Next.value y):Sem Next).run Q v:=by
 unfold execOp;rw[j]
def s1_oper (M:vt fr=false) (hF:FOk P F) (ok:FrOk P F fr) (rel:Rel H v w) {ops:Array Oper} {j:Nat} {rest:List Nat} {k:List Item} (ht:fr.todo=.inRegion ops (j::rest)::k)
    (hq: ∀(Q:Program) (main:Bool) (c:Frame) (cs:List Frame) (u:World),stepG Q main (G fr (c::cs)) u=stepG.oper Q true fr (c::cs) none u):S1 P F H fr v w:=by
 have m:fr.oper? =ops[j]? :=by unfold Frame.oper?;rw[ht]
 obtain⟨J,O⟩:=ok.head ht;cases ho:ops[j]? with
 | none=>exact .inl λmain c cs=>⟨_,_,_,by rw[hq];unfold stepG.oper;rw[m,ho]⟩
 | some o=>
   have q:o∈ops:=Array.mem_of_getElem? ho;have A:fpj o=true:=f4q.1 J o q;have C: ∀(Q:Program) (main:Bool) (c:Frame) (cs:List Frame) (u:World),stepG Q main (G fr (c::cs)) u=stepG.apply Q true fr (c::cs) none (execOp fr.eval o) u:=λQ main c cs u=>by
    rw[hq];unfold stepG.oper;simp only[m,ho];cases hr:fr.roundOf with
    | none=>rfl
    | some l=>
      have hn:de o=true:=f4q.1 (O.1 (by rw[hr];rfl)) o q;unfold de at hn;cases e:o.op <;>first|rfl|(rw[e] at hn;cases hn)
   by_cases B:okOp o=true
   ·exact fii M (af hF fr.eval B) (λv v1 x hv h=>fig hF fr.eval B (by
     by_cases I:Nc P F
     ·exact .inr (f4q.1 (O.2 I) o q)
     ·exact .inl I) hv h) ok rel C
   ·have D: ∃x,o.op=.panic x:=by
     unfold fpj at A;simp only[B,Bool.false_or] at A;cases e:o.op <;>rw[e] at A <;>first|exact⟨_,rfl⟩|cases A
    obtain⟨x,hx⟩:=D;rcases fq5 (P:=P) (F:=F) (fr.eval x) rel.objs with⟨h,v1,h1,h2⟩|⟨y,v1,h1,h2⟩
    ·refine .inl λmain c cs=>?_;obtain⟨o',u,es,e⟩:=dg (fr:=fr) (Q:=V P F) (s:=execOp fr.eval o) (u:=v) (x:=h) (u':=v1) (by rw[fbl o fr.eval hx];exact f2r h1) h2 c cs;exact⟨o',u,es,by rw[C,e]⟩
    ·have hr:(execOp fr.eval o).run (V P F) v=.halt (.panic y) v1:=by rw[fbl o fr.eval hx];exact f2r h1
     obtain⟨es,R⟩:=uu hr;refine .inr ⟨.push (fr.raise [{ v:=y,recovered:=false }]) [],v1,seen (V P F) fr.fn es,λmain c cs=>?_,⟨t8 ok (eu y) fi,by simp⟩,.inl ⟨rfl,ma _ _⟩,h2,fdl M,λhc=>?_⟩
     ·rw[C,ax R ok.kind]
     ·simp[LRes.calm,vu] at hc
def fdo (ok:FrOk P F fr):FrOk P F (fr.finish undef):=dh ok _
def ftn {α β:Type} {Q:Program} {e:Sem β} (he:Nok Q e) (f:β->Sem α):Nok Q (e >>= f):=λv x v1 h=>by
 cases hv:e.run Q v with
 | ok y v2=>exact he v y v2 hv
 | halt y v2=>
   have:=(f2r (f:=f) hv).symm.trans h;cases this
def run_endLoop {l:Nat} {Q:Program} {v v1:World} {j:Option Code} (ho:ut v) (h:(Instr.endLoop l).run Q v=.ok j v1): ∀c,j=some c->va c=true/\um c=true:=by
 have h:(Sem.getObj l (λo=>Sem.bind (match o with
  | .loop r=>Pure.pure r
  | _=>Go.stuck "range over a function: no such loop" :Sem Loop) λr=>(do
    if r.state== .busy then runtimePanic (.error "range function recovered a loop body panic and did not resume panicking")
    setObj l (.loop { r with state:=.exhausted })
    Pure.pure r.pending))).run Q v=.ok j v1:=h
 cases hv:v.heap[l]? with
 | none=>simp[Sem.run,hv] at h
 | some o=>
   have m:=ho l o hv;cases o with
   | loop r=>
     simp only[Sem.run,hv] at h;have hp:(match r.pending with|some c=>va c&&um c|none=>true)=true:=by
      simp only[okSt,iz,f04] at m;exact m.2
     dsimp only[Pure.pure,Sem.bind] at h;split at h
     ·exact absurd h (ftn (uj _) _ v j v1)
     ·simp only[Bind.bind,Sem.bind,Go.setObj,Sem.run,hv] at h;cases h;intro c hc;rw[hc] at hp;simpa using hp
   | cells=>simp[Sem.run,hv] at h
   | _=>
     simp only[Sem.run,hv] at h;cases h
def ffa {fn:FuncId} {tmps:Array Value} {ps:Array Tmp} {a b:Code} {ar:Option Nat} {Q:Program} {v v1:World} {l:Nat} {mark:List Deferred} (h:(Instr.enterLoop fn tmps ps a b ar).run Q v=.ok (l,mark) v1): ∀d∈mark,okT d.target=true:=by
 cases ar with
 | none=>
   simp only[Instr.enterLoop,Bind.bind,Sem.bind,Go.newObj,Sem.run,Pure.pure,Result.ok.injEq,f2e] at h;obtain⟨⟨_,rfl⟩,_⟩:=h;simp[okT]
 | some k=>
   cases hg:(Instr.getLoop k).run Q v with
   | ok r v2=>
     simp only[Instr.enterLoop,fz9,hg] at h;simp[go_sem] at h;obtain⟨⟨_,rfl⟩,_⟩:=h;simp
   | halt x v2=>
     simp only[Instr.enterLoop,fz9,hg] at h;cases h
def s1_run (hF:FOk P F) (ok:FrOk P F fr) (hm:fr.mode=.run) (rel:Rel H v w):S1 P F H fr v w:=by
 have C:vt fr=false:=by unfold vt;rw[hm]
 have m: ∀(Q:Program) (main:Bool) (c:Frame) (cs:List Frame) (u:World),stepG Q main (G fr (c::cs)) u=stepG.exec Q main true fr (c::cs) none u:=λQ main c cs u=>by
    simp[stepG,G,hm]
 have D: ∀(j:Option Code),(∀c,j=some c->(va c&&um c)=true)->(∀(Q:Program) (main:Bool) (c:Frame) (cs:List Frame) (u:World),stepG.exec Q main true fr (c::cs) none u=match fr.roundOf with
  | none=>if fwh j then .go (G { fr with mode:=.returning } (c::cs)) u else .ended (.stuck "exit, goto: no such block or label" (fr.pos Q)) u
  | some l=>GStep.after (seen Q fr.fn ((Instr.endRound l j).runT Q u #[]).2) (match ((Instr.endRound l j).runT Q u #[]).1 with
    | .ok v w=>doReturn Q main fr (c::cs) none v w
    | .halt _ w=>.ended (.stuck "range over a function: no such loop" (fr.pos Q)) w))->S1 P F H fr v w:=λj hj h=>
    ftl C ok rel j (λhr Q main c cs u=>by rw[m,h];split <;>simp_all) (λl hr Q main c cs u=>by rw[m,h];split <;>simp_all) hj
 have A: ∀(k:List Item),(∀j∈k,wk j=true/\More (fr.roundOf.isSome=true) (Nc P F) j)->(∀(Q:Program) (main:Bool) (c:Frame) (cs:List Frame) (u:World),stepG.exec Q main true fr (c::cs) none u=.go (G { fr with todo:=k } (c::cs)) u)->S1 P F H fr v w:=λk hk h=>
    fq2 C rel (λQ main c cs u=>by rw[m,h]) (ok.with_todo hk)
 cases ht:fr.todo with
 | nil=>exact D none fi λQ main c cs u=>by unfold stepG.exec;simp only[ht];rfl
 | cons i k=>
   have hh:=ok.head ht;have hk:=ok.tail ht;cases i with
   | code c=>
     have h1:va c=true:=hh.1;have h2:(fr.roundOf.isSome=true->um c=true)/\(Nc P F->yb c=true):=hh.2;cases c with
     | ret=>exact D (some .ret) (λc e=>by cases e;rfl) λQ main c cs u=>by unfold stepG.exec;simp only[ht];rfl
     | skip=>exact A k hk λQ main c cs u=>by unfold stepG.exec;simp only[ht];rfl
     | seq a b=>
       simp only[va,um,yb,f04] at h1 h2;exact A (.code a:: .code b::k) (yx ⟨h1.1,λq=>(h2.1 q).1,λq=>(h2.2 q).1⟩ (yx ⟨h1.2,λq=>(h2.1 q).2,λq=>(h2.2 q).2⟩ hk)) λQ main c cs u=>by unfold stepG.exec;simp only[ht];rfl
     | cond x a b=>
       simp only[va,um,yb,f04] at h1 h2;by_cases hb: ∃t,fr.eval x=.bool t
       ·obtain⟨t,hb⟩:=hb;refine A (.code (if t then a else b)::k) (yx ?_ hk) λQ main c cs u=>by unfold stepG.exec;simp only[ht,hb];rfl
        cases t
        ·exact⟨h1.2,λq=>(h2.1 q).2,λq=>(h2.2 q).2⟩
        ·exact⟨h1.1,λq=>(h2.1 q).1,λq=>(h2.2 q).1⟩
       ·refine .inl λmain c cs=>?_;rw[m];unfold stepG.exec;simp only[ht];split
        ·rename_i t e;exact absurd ⟨t,e⟩ hb
        ·exact⟨_,_,_,rfl⟩
     | block id a=>exact A (.code a:: .inBlock id::k) (yx ⟨h1,h2⟩ (yx ⟨rfl,λ_=>rfl,λ_=>rfl⟩ hk)) λQ main c cs u=>by unfold stepG.exec;simp only[ht];rfl
     | loop a=>exact A (.code a:: .inLoop a::k) (yx ⟨h1,h2⟩ (yx ⟨h1,h2⟩ hk)) λQ main c cs u=>by unfold stepG.exec;simp only[ht];rfl
     | exit id=>
       cases he:exitTo id k with
       | none=>exact D (some (.exit id)) (λc e=>by cases e;rfl) λQ main c cs u=>by unfold stepG.exec;simp only[ht,he];rfl
       | some k'=>exact A k' (fdn id k k' hk he) λQ main c cs u=>by unfold stepG.exec;simp only[ht,he];rfl
     | region id ops U=>
       have hr: ∀l,wk (.inRegion ops l)=true/\More (fr.roundOf.isSome=true) (Nc P F) (.inRegion ops l):=λl=>⟨h1,h2⟩;cases U with
       | false=>exact A (.inRegion ops (List.range ops.size)::k) (yx (hr _) hk) λQ main c cs u=>by unfold stepG.exec;simp only[ht];rfl
       | true=>
         have I: ∀(Q:Program) (main:Bool) (c:Frame) (cs:List Frame) (u:World),stepG Q main (G fr (c::cs)) u=
          .go (G { fr with todo:=.inRegion ops (Region.schedule (Q.follows .mixedOrders) ops (u.tape u.drawn (.order fr.fn id)))::k } (c::cs)) { u with drawn:=u.drawn+1 }:=λQ main c cs u=>by
            rw[m];unfold stepG.exec;simp only[ht];rfl
         refine .inr ⟨.push { fr with todo:=.inRegion ops (Region.schedule (P.follows .mixedOrders) ops (v.tape v.drawn (.order fr.fn id)))::k } [],{ v with drawn:=v.drawn+1 },#[],λmain c cs=>I _ main c cs v,⟨ok.with_todo (yx (hr _) hk),by simp⟩,.inl ⟨rfl,rfl⟩,rel.objs,fdl C,λ_=>⟨1,fx8 _,rfl,rfl,λha=>?_⟩⟩;have h0:=ha 0 fe;simp only[f5p] at h0;refine⟨{ w with drawn:=w.drawn+1 },#[],λmain c cs=>?_,rfl,rfl,⟨rel.size,rel.same,rel.laid,rel.os,rel.output,rel.objs,rel.kept,rel.chans⟩,by simp⟩;rw[I,<- h0];rfl
     | refuse ak=>exact .inl λmain c cs=>⟨_,_,_,by rw[m];unfold stepG.exec;simp only[ht];rfl⟩
     | rangeFunc f ps a b=>
       simp only[va,f04] at h1;obtain⟨⟨ha,hb⟩,ad,ah⟩:=h1
       have I: ∀(Q:Program) (main:Bool) (c:Frame) (cs:List Frame) (u u1:World) (l:Nat) (mark:List Deferred) (es:Array Event),(Instr.enterLoop fr.fn fr.tmps ps a b fr.roundOf).runT Q u #[]=(.ok (l,mark) u1,es)->
            stepG Q main (G fr (c::cs)) u=GStep.after (seen Q fr.fn es) (stepG.apply Q true { fr with todo:=.inRangeFunc l::k,defers:=mark++fr.defers } (c::cs) none
             (do let d <- resolve { fr with todo:=.inRangeFunc l::k,defers:=mark++fr.defers }.eval { callee:=.value f,args:=#[.const (.func (.yield l) #[] #[])],argTypes:=#[] } 0;invoke d.target d.args) u1):=λQ main c cs u u1 l mark es h=>by
        rw[m];unfold stepG.exec;simp only[ht,h]
       have J: ∀(Q:Program) (main:Bool) (c:Frame) (cs:List Frame) (u u1:World) (h:Halt) (es:Array Event),(Instr.enterLoop fr.fn fr.tmps ps a b fr.roundOf).runT Q u #[]=(.halt h u1,es)->
            stepG Q main (G fr (c::cs)) u=GStep.after (seen Q fr.fn es) (.ended (.stuck "range over a function: no such loop" (fr.pos Q)) u1):=λQ main c cs u u1 h es hh=>by
        rw[m];unfold stepG.exec;simp only[ht,hh]
       rcases ym (fgn fr.fn fr.tmps ps ha hb ad ah fr.roundOf) rel with⟨x,v1,hx,hh⟩|⟨R,hR,v1,k1,hr,an,hsz,aa,ac,⟨Y,O⟩,h4⟩
       ·refine .inl λmain c cs=>?_;obtain⟨es,hT⟩:=uu hx;exact⟨_,_,_,J _ main c cs _ _ _ _ hT⟩
       ·rcases hR with⟨⟨l,mark⟩,rfl⟩|⟨x,rfl⟩
        ·obtain⟨W,X⟩:=uu hr;refine fm7 C (v0:=v1) (w00:=Y) (e0v:=seen (V P F) fr.fn W) (k0:=k1) (fr0:={ fr with todo:=.inRangeFunc l::k,defers:=mark++fr.defers })
          (s:=do let d <- resolve { fr with todo:=.inRangeFunc l::k,defers:=mark++fr.defers }.eval { callee:=.value f,args:=#[.const (.func (.yield l) #[] #[])],argTypes:=#[] } 0;invoke d.target d.args) ?_ ?_ ?_ O hsz aa ac (λmain c cs=>I _ main c cs v v1 l mark W X) (λab=>?_)
         ·exact Sim.bindOf (o4 _ _ _) λd ⟨v,v1,h⟩=>fan hF (xn (by rfl) h) _
         ·intro v2 v3 x ae hx;cases hrs:(resolve { fr with todo:=.inRangeFunc l::k,defers:=mark++fr.defers }.eval { callee:=.value f,args:=#[.const (.func (.yield l) #[] #[])],argTypes:=#[] } 0).run (V P F) v2 with
          | ok d v4=>
            have e:=t7 hrs;subst e;exact lj hF (xn (by rfl) hrs) _ ae ((qw hrs).symm.trans hx)
          | halt y v4=>
            have:=(f2r (f:=λd=>invoke d.target d.args) hrs).symm.trans hx;cases this
         ·refine⟨ok.kind,λj hj=>(yx (q:=fr.roundOf.isSome=true) (n:=Nc P F) (i:=.inRangeFunc l) ⟨rfl,λ_=>rfl,λ_=>rfl⟩ hk j hj).1,λj hj=>(yx (q:=fr.roundOf.isSome=true) (n:=Nc P F) (i:=.inRangeFunc l) ⟨rfl,λ_=>rfl,λ_=>rfl⟩ hk j hj).2,λd hd=>?_,ok.chain,ok.fn,ok.back⟩;rcases fz0.1 hd with hd|hd
          ·exact ffa hr d hd
          ·exact ok.defers d hd
         ·obtain⟨w1,new,g1,g2,g3,g4,g5⟩:=h4 ab;exact⟨w1,seen P fr.fn new,λmain c cs=>I _ main c cs w w1 l mark new g1,g2,g3,g4,λe he=>g5 e (f3e he)⟩
        ·refine .inl λmain c cs=>?_;obtain⟨es,hT⟩:=uu hr;exact⟨_,_,_,J _ main c cs _ _ _ _ hT⟩
     | scope a=>cases h1
     | label l=>cases h1
     | goto l=>cases h1
   | inBlock id=>exact A k hk λQ main c cs u=>by unfold stepG.exec;simp only[ht];rfl
   | inLoop a=>exact A (.code a:: .inLoop a::k) (yx hh (yx hh hk)) λQ main c cs u=>by unfold stepG.exec;simp only[ht];rfl
   | inScope a=>cases hh.1
   | inRegion ops l=>
     cases l with
     | nil=>exact A k hk λQ main c cs u=>by unfold stepG.exec;simp only[ht];rfl
     | cons j rest=>
       cases hw:((ops[j]?).map (Region.wanted · (yielded ops fr.tmps))).getD false with
       | true=>exact s1_oper C hF ok rel ht λQ main c cs u=>by rw[m];unfold stepG.exec;simp only[ht,hw];rfl
       | false=>exact fq2 C rel (λQ main c cs u=>by rw[m];unfold stepG.exec;simp only[ht,hw];rfl) (fdo ok) (ay _ _)
   | inRangeFunc l=>exact .inl λmain c cs=>⟨_,_,_,by rw[m];unfold stepG.exec;simp only[ht];rfl⟩
   | endRangeFunc l=>
     refine fm8 (λ_=>True) (fdc l) rel (λj=>.push { fr with todo:=(j.map Item.code).toList++k } []) (λQ c cs h u1=>match h with
      | .panic x=>.go (G (fr.raise [{ v:=x,recovered:=false }]) (c::cs)) u1
      | _=>.ended (.stuck "range over a function: no such loop" (fr.pos Q)) u1) (λQ main c cs u r es he _=>?_) (λv v1 j hv hj=>⟨⟨ok.with_todo λi hi=>?_,by simp⟩,trivial⟩) (λQ c cs h u1 hh=>?_) (fdl C) fr (.inr ⟨λQ c cs x u1=>rfl,ok⟩) (λ_=>.inl ⟨rfl,rfl⟩)
     ·rw[m];unfold stepG.exec;simp only[ht,he];cases r with
      | ok x u1=>rfl
      | halt h u1=>cases h <;>rfl
     ·rcases fz0.1 hi with hi|hi
      ·cases j with
       | none=>simp at hi
       | some c=>
         simp at hi;subst hi;exact⟨(run_endLoop hv hj c rfl).1,λ_=>(run_endLoop hv hj c rfl).2,λ_=>uq _ (run_endLoop hv hj c rfl).2⟩
      ·exact hk i hi
     ·cases h <;>first|exact⟨_,_,_,rfl⟩|cases hh
   | beginRound=>
     refine fii C (fr0:=fr) (s:=do fr.roundOf.elim (Go.stuck "beginRound: no round") Instr.beginRound;Pure.pure Next.skip) ?_ ?_ ok rel λQ main c cs u=>by rw[m];unfold stepG.exec;simp only[ht]
     ·refine Sim.bind' ?_ λ_=>Sim.pure' _;cases fr.roundOf with
      | none=>exact Sim.stuck' _
      | some l=>exact ng l
     ·intro v v1 x _ h;exact ux (Q:=vr (¬Nc P F)) (λy=>vz (x:=Next.skip) km) v x v1 h
   | call=>cases hh.1
   | extern=>cases hh.1
def fkt (fn:Func) (tmps:Array Value):Sim P F (λ_=>False) (results fn tmps):=by
 unfold results;refine Sim.bind' (cw _ (λx=>?_) _) λvs=>Sim.pure' _;cases x with
 | tmp t=>exact Sim.pure' _
 | cell a t=>exact Sim.bind' (Sim.asAddr' _) λb=>Sim.loadVar' t b
def fdp {b:Nat} {Q:Program} {v v1:World} {ds:List Deferred} (ho:ut v) (h:(Instr.takeDeferred b).run Q v=.ok ds v1): ∀d∈ds,okT d.target=true:=by
 have h:(Sem.getObj b (λo=>(match o with
  | .deferred (some ds)=>(do setObj b (.deferred none);Pure.pure ds)
  | _=>Go.stuck "range over a function: the deferred calls have been taken" :Sem (List Deferred)))).run Q v=.ok ds v1:=h
 cases hv:v.heap[b]? with
 | none=>simp[Sem.run,hv] at h
 | some o=>
   have j:=ho b o hv;cases o with
   | deferred x=>
     cases x with
     | none=>simp only[Sem.run,hv] at h;cases h
     | some l=>
       simp only[Sem.run,hv,Bind.bind,Sem.bind,Go.setObj,Pure.pure] at h;cases h;exact λd hd=>f1x.1 j d hd
   | cells=>simp[Sem.run,hv] at h
   | _=>simp only[Sem.run,hv] at h;cases h
def fq6 (hF : FOk P F) (ok:FrOk P F fr) (hm:fr.mode≠ .run) (rel:Rel H v w):S1 P F H fr v w:=by
 have C: ∀(Q:Program) (main:Bool) (c:Frame) (cs:List Frame) (u:World),stepG Q main (G fr (c::cs)) u=unwind Q main fr (c::cs) none u:=λQ main c cs u=>by
    unfold stepG G;dsimp only;split
    ·rename_i e;cases e
    ·exact absurd fx4 hm
    ·rfl
 cases hd:fr.defers with
 | cons d ds =>
   have X:okT d.target=true:=ok.defers d (by rw[hd];simp);have q: ∀O,(∀d∈O,okT d.target=true)->FrOk P F { fr with defers:=O }:=λO h=>⟨ok.kind,ok.todo,ok.round,h,ok.chain,ok.fn,ok.back⟩;have A: ∀e∈ds,okT e.target=true:=λe he=>ok.defers e (by rw[hd];simp[he]);by_cases M: ∃b,d.target=.collected b
   ·obtain⟨b,hb⟩:=M;obtain⟨tg,args⟩:=d;subst hb;refine fm8 (λ_=>True) (il b) rel (λcalls=>.push { fr with defers:=calls++ds } []) (λQ c cs h u1=>.ended (.stuck "the deferred calls of a range-over-func loop have been taken" (fr.pos Q)) u1) (λQ main c cs u r es he _=>?_) (λv v1 j hv hj=>⟨⟨q _ λe he=>?_,by simp⟩,trivial⟩) (λQ c cs h u1 hh=>⟨_,_,_,rfl⟩) (λhp x=>by simp only[LRes.calm];rw[show vt { fr with defers:=x++ds }=vt fr from rfl,hp];rfl) fr (.inl λQ c cs x u1=>⟨_,_,_,rfl⟩) (λ_=>.inl ⟨rfl,rfl⟩)
    ·rw[C];unfold unwind;simp only[hd,he];cases r <;>rfl
    ·rcases fz0.1 he with he|he
     ·exact fdp hv hj e he
     ·exact A e he
   ·have U: ∀(Q:Program) (main:Bool) (c:Frame) (cs:List Frame) (u:World),stepG Q main (G fr (c::cs)) u=callDeferred Q { fr with defers:=ds } (c::cs) none d u:=λQ main c cs u=>by
       rw[C];unfold unwind;simp only[hd];split
       ·rename_i b _ _ e;simp only[f0n] at e;exact absurd ⟨b,by rw[e.1]⟩ M
       ·rename_i e;simp only[f0n] at e;rw[e.1,e.2]
       ·rename_i e;cases e
    by_cases J:d.target=.nil/\ ∃ch,fr.mode=.panicking ch
    ·refine .inl λmain c cs=>?_;obtain⟨e1,ch,e2⟩:=J;rw[U];unfold callDeferred;rw[f02 (by rw[e1];simp only[e2];rfl)];exact⟨_,_,_,rfl⟩
    ·refine fm8 (vr (¬Nc P F)) (fan hF X d.args) rel (λx=>match x with
      | .enter f args=>.enter f args .deferred { fr with defers:=ds }
      | .round l f tmps a b=>.push (Frame.round l f tmps a b .deferred) [{ fr with defers:=ds }]
      | _=>.push { fr with defers:=ds } []) (λQ c cs h u1=>match h with
      | .panic x=>.go (G ({ fr with defers:=ds }.raise [{ v:=x,recovered:=false }]) (c::cs)) u1
      | .unsupported u=>.ended (.unsupported u (fr.pos Q)) u1
      | .stuck s=>.ended (.stuck s (fr.pos Q)) u1
      | _=>callDeferred Q { fr with defers:=ds } (c::cs) none d u1) (λQ main c cs u r es he ha=>?_) (λv v1 x hv hx=>?_) (λQ c cs h u1 hh=>?_) (λhp x=>by have ab:vt { fr with defers:=ds }=true:=hp;cases x <;>simp[LRes.calm,ab]) { fr with defers:=ds } (.inr ⟨λQ c cs x u1=>rfl,q ds A⟩) (λx=>by cases x <;>first|exact .inl ⟨rfl,rfl⟩|rfl|exact .inr ⟨[],_,rfl,rfl⟩)
     ·rw [U];unfold callDeferred
      rw [fx9 (by
         intro hc;simp only[f04] at hc;refine J ⟨?_,?_⟩
         ·have:=hc.1;split at this
          ·assumption
          ·cases this
         ·have:=hc.2;split at this
          ·exact⟨_,by assumption⟩
          ·cases this)]
      simp only[he];cases r with
      | ok x u1=>cases x <;>first|rfl|exact ha.elim
      | halt h u1=>cases h <;>first|rfl|exact ha.elim|(rcases ha with ha|⟨_,ha⟩ <;>cases ha)
     ·have:=lj (cm:= ¬Nc P F) hF X d.args hv hx;refine⟨?_,this⟩;cases x with
      | enter f args=>exact⟨q ds A,.inr rfl⟩
      | round l f tmps a b=>exact⟨fgr l f tmps this (.inr rfl),by simpa using q ds A⟩
      | value y=>exact⟨q ds A,by simp⟩
      | skip=>exact⟨q ds A,by simp⟩
      | defer d=>exact⟨q ds A,by simp⟩
      | comm a b c=>exact⟨q ds A,by simp⟩
      | _=>cases this
     ·cases h <;>first|exact⟨_,_,_,rfl⟩|cases hh
 | nil =>
   cases m:fr.mode with
   | run=>exact absurd m hm
   | panicking ch=>
     have I: ∀Q,fr.catches Q=false:=λQ=>by
       unfold Frame.catches;split
       ·rename_i a b e;have:=ok.todo _ ko;cases this
       ·rfl
     refine .inr ⟨.touch (.raise ch),v,#[],λmain c cs=>?_,ok.chain ch m,trivial,rel.objs,(λ_=>rfl),λhc=>by cases hc⟩;rw[C];unfold unwind;simp only[hd,m,I];rfl
   | returning=>
     have hr:fr.roundOf=none:=by
       cases e:fr.roundOf with
       | none=>rfl
       | some l=>exact absurd m (ok.back qe)
     have Y:=ok.fn hr;cases h1:P.funcs[fr.fn]? with
     | none=>
       have h2:F[fr.fn]? =none:=by rw[<- Y,h1]
       have B: ∀(Q:Program),Q.funcs[fr.fn]? =none-> ∀(main:Bool) (c:Frame) (cs:List Frame) (u:World),stepG Q main (G fr (c::cs)) u=(c9 fr (fr.tmps.getD 0 undef)).plug Q c cs u #[]:=λQ hQ main c cs u=>by
        rw[C];unfold unwind;simp only[hd,m,hQ];exact wn ok.kind Q main c cs _ u
       exact .inr ⟨c9 fr (fr.tmps.getD 0 undef),v,#[],λmain c cs=>B (V P F) h2 main c cs v,fdm _,o7 _ _,rel.objs,(λhp=>by unfold vt at hp;rw[m] at hp;cases hp),λ_=>⟨0,fx8 _,rfl,rfl,λ_=>⟨w,#[],λmain c cs=>B P h1 main c cs w,rfl,rfl,rel,by simp⟩⟩⟩
     | some fn=>
     have h2:F[fr.fn]? =some fn:=by rw[<- Y,h1]
     have B: ∀(Q:Program),Q.funcs[fr.fn]? =some fn-> ∀(main:Bool) (c:Frame) (cs:List Frame) (u:World) (r:Result Value) (es:Array Event),(results fn fr.tmps).runT Q u #[]=(r,es)->
      stepG Q main (G fr (c::cs)) u=GStep.after (seen Q fr.fn es) (match r with
            | .ok v w=>doReturn Q main fr (c::cs) none v w
            | .halt (.stuck s) w=>.ended (.stuck s (fr.pos Q)) w
            | .halt _ w=>.ended (.stuck "return: the result variables cannot be read" (fr.pos Q)) w):=λQ hQ main c cs u r es he=>by
       rw[C];unfold unwind;simp only[hd,m,hQ,he];cases r with
       | ok=>rfl
       | halt h=>cases h <;>rfl
     rcases ym (fkt fn fr.tmps) rel with⟨x,v1,hx,hh⟩|⟨R,hR,v1,k,ac,ho,hsz,ad,ae,⟨ak,ah⟩,h4⟩
     ·refine .inl λmain c cs=>?_;obtain⟨W,D⟩:=uu hx;rw[B (V P F) h2 main c cs v _ _ D];cases x <;>first|exact⟨_,_,_,rfl⟩|cases hh
     ·obtain⟨W,D⟩:=uu ac;rcases hR with⟨x,rfl⟩|⟨x,rfl⟩
      ·refine .inr ⟨c9 fr x,v1,seen (V P F) fr.fn W++ #[],λmain c cs=>?_,fdm x,o7 _ _,ho,(λhp=>by unfold vt at hp;rw[m] at hp;cases hp),λ_=>⟨k,hsz,ad,ae,λha=>?_⟩⟩
       ·rw[B (V P F) h2 main c cs v _ _ D];simp only[wn ok.kind,ye]
       ·obtain⟨w1,new,g1,g2,g3,g4,g5⟩:=h4 ha;refine⟨w1,seen P fr.fn new++ #[],λmain c cs=>?_,g2,g3,g4,λe he=>g5 e (f3e (by simpa using he))⟩;rw[B P h1 main c cs w _ _ g1];simp only[wn ok.kind,ye]
      ·refine .inl λmain c cs=>?_;rw[B (V P F) h2 main c cs v _ _ D];exact⟨_,_,_,rfl⟩
def s1 (hF:FOk P F) (ok:FrOk P F fr) (rel:Rel H v w):S1 P F H fr v w:=by
 by_cases hm:fr.mode=.run
 ·exact s1_run hF ok hm rel
 ·exact fq6 hF ok hm rel
end
def fku (c:CommCase) (b:Bool) (sh:CommShape):Prop:=(b=false/\sh=.select/\c.send=none)\/(b=true/\sh=.send/\ ∃y,c.send=some y)
def uk (c:CommCase) (w:World):Option (Value×World):=
 match c.chan,c.send with
 | .chan none,none=>some (.tuple #[goInt (-1),.bool false,c.zero],w)
 | .chan (some k),none=>match w.heap[k]? with
   | some (.chan cap buf closed s r tm)=>
     if 0<buf.size then some (.tuple #[goInt 0,.bool true,buf.getD 0 undef],w.setChan k cap (buf.extract 1 buf.size) closed s (r+1) tm)
     else if closed then some (.tuple #[goInt 0,.bool false,c.zero],w) else some (.tuple #[goInt (-1),.bool false,c.zero],w)
   | _=>none
 | .chan (some k),some y=>match w.heap[k]? with
   | some (.chan cap buf false s r tm)=>if buf.size<cap then some (undef,w.setChan k cap (buf.push y) false (s+1) r tm) else none
   | _=>none
 | _,_=>none
def fq7 (P:Program) (fr:Frame) (w:World) (r:LRes) (w':World):Prop:=
 (∃es,ff9 P fr w r w' es/\(∀a b c d,r≠ .comm a b c d))\/
 ∃fr0 c b sh w1 val es,ff9 P fr w (.comm fr0 #[c] b sh) w1 es/\fku c b sh/\uk c w1=some (val,w')/\r=.push (fr0.finish val) []
def fm9 {cases:Array CommCase} {b:Bool} {sh:CommShape} (h:(b=false/\sh=.select/\ ∃x z,cases=#[{ chan:=x,send:=none,zero:=z }])\/(b=true/\sh=.send/\ ∃x y z,cases=#[{ chan:=x,send:=some y,zero:=z }])): ∃c,cases=#[c]/\fku c b sh:=by
 rcases h with⟨h1,h2,x,z,h3⟩|⟨h1,h2,x,y,z,h3⟩
 ·exact⟨_,h3,.inl ⟨h1,h2,rfl⟩⟩
 ·exact⟨_,h3,.inr ⟨h1,h2,y,rfl⟩⟩
def LRes.fr (P:Program) (r:LRes) (c:Frame):Frame:=match r with
 | .push fr _=>fr
 | .enter f args kind _=>Frame.enter P f args kind
 | .touch t=>t.on c
 | .comm fr .. =>fr
def LRes.cs (r:LRes) (c:Frame) (cs:List Frame):List Frame:=match r with
 | .push _ ab=>ab++c::cs
 | .enter _ _ _ fr=>fr::c::cs
 | .touch _=>cs
 | .comm .. =>c::cs
section
variable {P:Program} {F:Array Func} {H:Hide} {f:FuncId} {fr fr' c:Frame} {cs:List Frame} {v w v' w':World} {r:LRes}
def fij {buf:Array Value} (h: ¬0<buf.size):buf=#[]:=by
 have:buf.size=0:=by omega
 exact f4y this
def fdq {fr0:Frame} {cc:CommCase} {b:Bool} {sh:CommShape} {val:Value} {w1:World} {es:Array Event} {cs:List Frame} (h:stepG P true (G fr cs) w=.comm (G fr0 cs) #[cc] b sh w1 es) (hf:fku cc b sh) (hs:uk cc w1=some (val,w')):
    step P (lone fr cs w)=.next (lone (fr0.finish val) cs w'):=by
 rw[lone_eq_solo,step,stepT_solo rfl];obtain⟨x,sd,z⟩:=cc;rcases hf with⟨rfl,rfl,j⟩|⟨rfl,rfl,y,j⟩
 ·simp only at j;subst j;cases x with
  | chan q=>
    cases q with
    | none=>
      simp only[uk,f03,f2e] at hs;obtain⟨rfl,rfl⟩:=hs;simp[runT,solo,lone,G,Array.swapAt!,Array.swapAt,h,GStep.es,communicate,ways,Goroutine.finishComm,commResult] at h ⊢
    | some k=>
      have hp:=partners_alone (c:=k) true;simp only[uk] at hs;split at hs
      ·rename_i cap buf closed s r tm hc;split at hs
       ·rename_i hb;cases hs;simp[runT,solo,lone,G,Array.swapAt!,Array.swapAt,h,GStep.es,communicate,ways,hc,hp,hb,choose,Sem.run,Question.forced,bind,Sem.bind,pure,Goroutine.finishComm,commResult,World.setChan] at h ⊢
       ·rename_i hb;obtain rfl:=fij hb;split at hs
        ·rename_i m;subst m;cases hs;simp[runT,solo,lone,G,Array.swapAt!,Array.swapAt,h,GStep.es,communicate,ways,hc,hp,choose,Sem.run,Question.forced,bind,Sem.bind,pure,Goroutine.finishComm,commResult] at h ⊢
        ·rename_i m;obtain rfl:closed=false:=by simpa using m
         cases hs;simp[runT,solo,lone,G,Array.swapAt!,Array.swapAt,h,GStep.es,communicate,ways,hc,hp,Goroutine.finishComm,commResult] at h ⊢
      ·cases hs
  | _=>simp[uk] at hs
 ·simp only at j;subst j;cases x with
  | chan q=>
    cases q with
    | none=>simp[uk] at hs
    | some k=>
      have hp:=partners_alone (c:=k) false;simp only[uk] at hs;split at hs
      ·rename_i cap buf s r tm hc;split at hs
       ·rename_i hb;cases hs;simp[runT,solo,lone,G,Array.swapAt!,Array.swapAt,h,GStep.es,communicate,ways,hc,hp,hb,choose,Sem.run,Question.forced,bind,Sem.bind,pure,Goroutine.finishComm,commResult,World.setChan] at h ⊢
       ·cases hs
      ·cases hs
  | _=>simp[uk] at hs
def fto {P:Program} {g:Goroutine} {w:World} (hs:g.status=.blocked): ∃o u,step P { world:=w,gs:=#[g],rest:={ timers:=#[],alone:=none,slice:=none } }=.ended o u:=by
 have he: ∀(u:World) (t:ByteArray) (o:Outcome),∃o' u' es,endWith u 2 t o=.ended o' u' es:=λu t o=>by
    unfold endWith;dsimp only;split
    ·split
     ·exact⟨_,_,_,rfl⟩
     ·exact⟨_,_,_,rfl⟩
    ·exact⟨_,_,_,rfl⟩
    ·exact⟨_,_,_,rfl⟩
 simp[step,stepT,move,ask,askOn,runnable_eq,due,ahead,Goroutine.canRun,hs,List.range_succ,pure];obtain⟨o',u',es,e⟩:=he w (bytes "fatal error: all goroutines are asleep - deadlock!\n") (Outcome.fatal "all goroutines are asleep - deadlock!");exact⟨o',u',by rw[e]⟩
def np {fr0 : Frame} {cc:CommCase} {b:Bool} {sh:CommShape} {w1:World} {es:Array Event} {cs:List Frame} (h:stepG P true (G fr cs) w=.comm (G fr0 cs) #[cc] b sh w1 es) (hf:fku cc b sh) (hs:uk cc w1=none):
    (∃o u,step P (lone fr cs w)=.ended o u)\/(∃g u,g.status=.blocked/\step P (lone fr cs w)=.next { world:=u,gs:=#[g],rest:={ timers:=#[],alone:=none,slice:=none } })\/
      ∃y u,(runtimePanic (.plain "send on closed channel"):Sem Unit).run P w1=.halt (.panic y) u/\step P (lone fr cs w)=.next (lone (fr0.raise [{ v:=y,recovered:=false }]) cs u):=by
 rw[lone_eq_solo,step,stepT_solo rfl];obtain⟨x,sd,z⟩:=cc;unfold uk at hs;rcases hf with⟨rfl,rfl,j⟩|⟨rfl,rfl,y,j⟩
 ·simp only at j;subst j;refine .inl ?_;cases x with
  | chan y=>
    cases y with
    | none=>simp at hs
    | some k=>
      cases hk:w1.heap[k]? with
      | none=>simp[runT,solo,G,Array.swapAt!,Array.swapAt,h,GStep.es,communicate,hk] at h ⊢
      | some o=>
        cases o with
        | chan cap buf closed s r tm=>
          simp only[hk] at hs;split at hs
          ·cases hs
          ·split at hs <;>cases hs
        | _=>simp[runT,solo,G,Array.swapAt!,Array.swapAt,h,GStep.es,communicate,hk] at h ⊢
  | _=>simp[runT,solo,G,Array.swapAt!,Array.swapAt,h,GStep.es,communicate] at h ⊢
 ·simp only at j;subst j;cases x with
  | chan q=>
    cases q with
    | none=>
      refine .inr (.inl ⟨{ (G fr0 cs) with status:=.blocked,offers:=some (#[{ chan:=.chan none,send:=some y,zero:=z }],.send) },w1,rfl,?_⟩);simp[runT,solo,G,Array.swapAt!,Array.swapAt,h,GStep.es,communicate,ways,waitingAt,timerAhead] at h ⊢
    | some k=>
      have hp:=partners_alone (c:=k) false;cases hk:w1.heap[k]? with
      | none=>exact .inl kn
      | some o=>
        cases o with
        | chan cap buf closed s r tm=>
          cases closed with
          | false=>
            have hn: ¬buf.size<cap:=by
             intro hb;simp[hk,hb] at hs
            refine .inr (.inl ⟨{ (G fr0 cs) with status:=.blocked,offers:=some (#[{ chan:=.chan (some k),send:=some y,zero:=z }],.send) },w1,rfl,?_⟩);simp[runT,solo,G,Array.swapAt!,Array.swapAt,h,GStep.es,communicate,ways,hk,hp,hn,waitingAt,timerAhead] at h ⊢
          | true=>
            have m:(∃e1 u,(runtimePanic (.plain "send on closed channel"):Sem Unit).run P w1=.halt (.panic e1) u)\/ ∀e1 u,(runtimePanic (.plain "send on closed channel"):Sem Unit).run P w1≠ .halt (.panic e1) u:=by
             by_cases hx: ∃e1 u,(runtimePanic (.plain "send on closed channel"):Sem Unit).run P w1=.halt (.panic e1) u
             ·exact .inl hx
             ·exact .inr λe1 u he=>hx ⟨e1,u,he⟩
            rcases m with⟨e1,u,he⟩|A
            ·refine .inr (.inr ⟨e1,u,he,?_⟩);simp[runT,solo,lone,G,Array.swapAt!,Array.swapAt,h,GStep.es,communicate,ways,hk,hp,choose,Sem.run,Question.forced,bind,Sem.bind,pure,he] at h ⊢
            ·refine .inl ?_;cases he:(runtimePanic (.plain "send on closed channel"):Sem Unit).run P w1 with
             | ok a u=>simp[runT,solo,lone,G,Array.swapAt!,Array.swapAt,h,GStep.es,communicate,ways,hk,hp,choose,Sem.run,Question.forced,bind,Sem.bind,pure,he] at h ⊢
             | halt x u=>
               cases x with
               | panic y=>exact absurd he (A y u)
               | _=>simp[runT,solo,lone,G,Array.swapAt!,Array.swapAt,h,GStep.es,communicate,ways,hk,hp,choose,Sem.run,Question.forced,bind,Sem.bind,pure,he] at h ⊢
        | _=>exact .inl kn
  | _=>exact .inl (by simp[runT,solo,G,Array.swapAt!,Array.swapAt,h,GStep.es,communicate] at h ⊢)
def di (h:fq7 P fr w r w'):step P (lone fr (c::cs) w)=.next (lone (r.fr P c) (r.cs c cs) w'):=by
 rcases h with⟨es,h,hn⟩|⟨fr0,cc,b,sh,w1,val,es,h,hf,hs,rfl⟩
 ·have h:=h true c cs;cases r with
  | push fr' ab=>exact f3t py
  | enter f a k fr'=>exact f3t py
  | touch t=>exact f3t py
  | comm a b d e=>exact absurd rfl (hn a b d e)
 ·exact fdq (h true c cs) hf hs
def fik (h:Dead P fr v): ∃o u,step P (lone fr (c::cs) v)=.ended o u:=by
 obtain⟨o,u,es,h⟩:=h true c cs;exact⟨o,u,f3u (by unfold G at h;rw[h];rfl)⟩
def ez (hn: ∀k,H k=none) (m:H.on=false) (rel:Rel H v w) {cc:CommCase} {val:Value} (h:uk cc v=some (val,v')): ∃w',uk cc w=some (val,w')/\Rel H v' w'/\v'.heap.size=v.heap.size/\v'.tape=v.tape/\v'.drawn=v.drawn/\w'.tape=w.tape/\w'.drawn=w.drawn:=by
 obtain⟨x,sd,z⟩:=cc;cases x with
 | chan q=>
   cases q with
   | none=>
     cases sd with
     | none=>
       simp only[uk,f03,f2e] at h;obtain⟨rfl,rfl⟩:=h;exact⟨w,rfl,rel,rfl,rfl,rfl,rfl,rfl⟩
     | some y=>simp[uk] at h
   | some k=>
     cases sd with
     | none=>
       simp only[uk] at h ⊢;split at h
       ·rename_i cap buf closed s r tm hc;cases hH:H k with
        | none=>
          have hw:w.heap[k]? =some (.chan cap buf closed s r tm):=by rw[<- rel.same k hH,hc]
          simp only[hw];split at h
          ·rename_i hb;cases h;exact⟨w.setChan k cap (buf.extract 1 buf.size) closed s (r+1) tm,by simp[Array.getD,hb],rel.setBlock hH rfl (λh=>by rw[m] at h;cases h),by simp[World.setChan],rfl,rfl,rfl,rfl⟩
          ·rename_i hb;rw[fx9 hb];split at h
           ·cases h;rename_i j;rw[f02 j];exact⟨w,rfl,rel,rfl,rfl,rfl,rfl,rfl⟩
           ·cases h;rename_i j;rw[fx9 j];exact⟨w,rfl,rel,rfl,rfl,rfl,rfl,rfl⟩
        | some o=>exact absurd (hn k) (by rw[hH];simp)
       ·cases h
     | some y=>
       simp only[uk] at h ⊢;split at h
       ·rename_i cap buf s r tm hc;split at h
        ·rename_i hb;cases h;have hH:H k=none:=hn k;have hw:w.heap[k]? =some (.chan cap buf false s r tm):=by rw[<- rel.same k hH,hc]
         exact⟨w.setChan k cap (buf.push y) false (s+1) r tm,by simp[hw,hb],rel.setBlock hH rfl (λh=>by rw[m] at h;cases h),by simp[World.setChan],rfl,rfl,rfl,rfl⟩
        ·cases h
       ·cases h
 | _=>simp[uk] at h
def botF:Frame:={ fn:=0,tmps:=#[],todo:=[.code (.refuse "")],defers:=[{ target:=.nil,args:=#[] }],mode:=.run,kind:=.normal }
def fma (t:Touch) (ht:t.ok) (v:World): ∃o u,step P (lone (t.on botF) [] v)=.ended o u:=by
 cases t with
 | fin x=>exact⟨_,_,f3u (by simp[Touch.on,botF,Frame.finish,stepG,stepG.exec];exact⟨rfl,rfl⟩)⟩
 | dret=>exact⟨_,_,f3u (by simp[Touch.on,botF,stepG,stepG.exec];exact⟨rfl,rfl⟩)⟩
 | raise ch=>exact⟨_,_,f3u (by simp[Touch.on,botF,Frame.raise,stepG,unwind,callDeferred];exact⟨rfl,rfl⟩)⟩
def nq (F:Array Func):Prop:= ∀(f:Nat) (fn:Func) (c:Code),F[f]? =some fn->fn.body=some c->va c=true
def t9 (hc:nq F) (j:P.funcs[f]? =F[f]?) (args:Array Value) {kind:CallKind} (hk:kind=.normal\/kind=.deferred) (q:Nc P F-> ∀fn c,F[f]? =some fn->fn.body=some c->yb c=true):FrOk P F (Frame.enter P f args kind):=by
 have m: ∀i∈(Frame.enter P f args kind).todo,wk i=true/\(Nc P F->fdk i=true):=λi hi=>by
    simp only[Frame.enter,j,fy3,fz8,f0z] at hi;subst hi;cases h2:F[f]? with
    | none=>exact⟨rfl,λ_=>rfl⟩
    | some fn=>
      cases hb:fn.body with
      | none=>simp[hb];exact⟨rfl,λ_=>rfl⟩
      | some c=>simp[hb];exact⟨hc _ fn c h2 hb,λhn=>q hn fn c h2 hb⟩
 refine⟨hk,λi hi=>(m i hi).1,λi hi=>⟨λh=>by simp[Frame.enter] at h,(m i hi).2⟩,by simp[Frame.enter],λch h=>by simp[Frame.enter] at h,λ_=>j,λh=>by simp[Frame.enter] at h⟩
end
def PanS (s:List Frame):Prop:= ∃f∈s,vt f=true
def i5 (P:Program) (F:Array Func) (s:List Frame):Prop:= ∀f∈s,FrOk P F f
section
variable {P:Program} {F:Array Func} {fr fr':Frame} {l l':List Frame} {v w v' w':World}
def fdr {v:World} (h:ut v) (t:Nat->Question->Nat) (d:Nat):ut (reW v t d):=h
def fmb (h:Rel fq4 v w):w=reW v w.tape w.drawn:=by
 have hh:w.heap=v.heap:=by
    apply f0v;intro i;exact(h.same i rfl).symm
 cases w;simp only[reW,f5a] at hh ⊢;exact⟨hh,trivial,trivial,h.os.symm,h.output.symm⟩
def td {t:Touch} (ht:t.ok) {f:Frame} (ok:FrOk P F f):FrOk P F (t.on f)/\(vt f=true->vt (t.on f)=true):=by
 cases t with
 | fin x=>exact⟨dh ok x,λh=>by unfold vt at h ⊢;simp only[Touch.on,fks];exact h⟩
 | dret=>
   have e:Touch.dret.on f=f:=by
    simp only[Touch.on];split
    ·rename_i x y z j hm;have:=(ok.chain _ hm).1 _ (fz5);simp at this
    ·rfl
   rw[e];exact⟨ok,id⟩
 | raise ch=>exact⟨t8 ok ht.1 ht.2,λ_=>vu f ch⟩
def yn {t:Touch} (h:LRes.calm (.touch t)=false) (f:Frame):vt (t.on f)=true:=by
 cases t with
 | raise ch=>exact vu f ch
 | _=>cases h
def fgt {r:LRes} (h:r.calm=false) (c:Frame) (cs:List Frame):vt (r.fr P c)=true\/ ∃x∈r.cs c cs,vt x=true/\(∀ab f,r=.push f ab->x∈ab)/\ ∀f a k g,r=.enter f a k g->x=g:=by
 cases r with
 | push f ab=>
   simp only[LRes.calm,Bool.and_eq_false_iff,f3l] at h;rcases h with h|h
   ·exact .inl h
   ·simp only[List.all_eq_false,Bool.not_eq_true,f3l] at h;obtain⟨x,hx,hp⟩:=h;exact .inr ⟨x,by simp[LRes.cs,hx],hp,λj f' e=>(by cases e;exact hx),λ_ _ _ _ e=>kz⟩
 | enter f a k g=>
   simp only[LRes.calm,f3l] at h;exact .inr ⟨g,by simp[LRes.cs],h,λ_ _ e=>kz,λ_ _ _ _ e=>(by cases e;rfl)⟩
 | touch t=>exact .inl (yn h c)
 | comm a b d e=>cases h
def ftp (hF :FOk (V P F) F) (hc:nq F) (ok:i5 (V P F) F (fr::l)) (ho:ut v) {m:Machine} (h:step (V P F) (lone fr (l++[botF]) v)=.next m):
    (((∃o u,step (V P F) m=.ended o u)/\ ∀fr' l' v',m≠lone fr' (l'++[botF]) v')\/ ∃t v',Touch.ok t/\m=lone (t.on botF) [] v')\/ ∃fr' l' v',m=lone fr' (l'++[botF]) v'/\i5 (V P F) F (fr'::l')/\ut v'/\(PanS (fr::l)->PanS (fr'::l'))/\
      (¬PanS (fr'::l')-> ∃k,v'.tape=v.tape/\v'.drawn=v.drawn+k/\ ∀t d,(∀j,j<k->v.tape (v.drawn+j)=t (d+j))->step (V P F) (lone fr (l++[botF]) (reW v t d))=.next (lone fr' (l'++[botF]) (reW v' t (d+k)))):=by
 have aA:=ok fr fi;obtain⟨c,cs,A⟩: ∃c cs,l++[botF]=c::cs:=by cases l <;>exact⟨_,_,rfl⟩
 by_cases X: ∃fr0 cc b sh v1 es,ff9 (V P F) fr v (.comm fr0 #[cc] b sh) v1 es/\fku cc b sh/\uk cc v1=none/\FrOk (V P F) F fr0/\ut v1
 ·obtain⟨fr0,cc,b,sh,v1,es,hl,hf,hs,W,aH⟩:=X;rcases np (hl true c cs) hf hs with⟨o,u,e⟩|⟨g,u,hg,e⟩|⟨y,u,hy,e⟩
  ·rw[A,e] at h;cases h
  ·rw[A,e] at h;cases h;refine .inl (.inl ⟨fto hg,λfr' l' v' e'=>?_⟩);simp only[lone,f1q,f1z,f0n,f2i] at e';have:=e'.2;rw[this] at hg;cases hg
  ·rw [A,e] at h;cases h;refine .inr ⟨fr0.raise [{ v:=y,recovered:=false }],l,u,by rw[A],λx hx=>?_,?_,λ_=>⟨_,fz5,vu _ _⟩,λJ=>absurd ⟨_,fz5,vu _ _⟩ J⟩
   ·rcases fy3.1 hx with rfl|hx
    ·exact t8 W (eu y) fi
    ·exact ok x (by simp[hx])
   ·rcases ym (P:=P) (F:=F) (s:=(runtimePanic (.plain "send on closed channel"):Sem Unit)) (Sim.runtimePanic' _) (Rel.refl aH) with⟨q,v2,q1,q2⟩|⟨R,hR,v2,k,q1,q2,_⟩
    ·rw[q1] at hy;cases hy;cases q2
    ·rw[q1] at hy;rcases hR with⟨x,rfl⟩|⟨x,rfl⟩
     ·cases hy
     ·cases hy;exact q2
 have view : ∀w,Rel fq4 v w-> ∃r v',fq7 (V P F) fr v r v'/\fgq (V P F) F r/\ut v'/\(vt fr=true->r.calm=false)/\
  (r.calm=true-> ∃k,v'.tape=v.tape/\v'.drawn=v.drawn+k/\(Agree v w k-> ∃w',fq7 (V P F) fr w r w'/\w'=reW v' w.tape (w.drawn+k))):=by
    intro w rel;rcases s1 (P:=V P F) hF aA rel with hd|⟨r,v',es,hl,hr,_,I,hp,hm⟩
    ·obtain⟨o,u,e⟩:=fik (c:=c) (cs:=cs) hd;rw[A] at h;have e:step (V P F) (lone fr (c::cs) v)=.ended o u:=e;rw[e] at h;cases h
    ·have hl:ff9 (V P F) fr v r v' es:=hl;by_cases B: ∃a b d e,r=.comm a b d e
     ·obtain⟨fr0,ap,b,sh,rfl⟩:=B;obtain⟨W,_,ad⟩:=hr;obtain⟨cc,rfl,hf⟩:=fm9 ad;cases hs:uk cc v' with
      | none=>exact absurd ⟨fr0,cc,b,sh,v',es,hl,hf,hs,W,I⟩ X
      | some p=>
        obtain⟨val,v2⟩:=p;obtain⟨k,h1,h2,h3,h4⟩:=hm rfl;have J:vt fr≠true:=λe=>by have:=hp e;cases this
        refine⟨.push (fr0.finish val) [],v2,.inr ⟨fr0,cc,b,sh,v',val,es,hl,hf,hs,rfl⟩,⟨dh W val,by simp⟩,?_,λe=>absurd e J,λ_=>⟨k,?_,?_,λha=>?_⟩⟩
        ·obtain⟨_,_,r2,_⟩:=ez (λ_=>rfl) rfl (Rel.refl I) hs;exact r2.objs
        ·obtain⟨_,_,_,_,q1,q2,_⟩:=ez (λ_=>rfl) rfl (Rel.refl I) hs;exact q1.trans h2
        ·obtain⟨_,_,_,_,q1,q2,_⟩:=ez (λ_=>rfl) rfl (Rel.refl I) hs;exact q2.trans h3
        ·obtain⟨w',ac,g1,g2,g3,g4,_⟩:=h4 ha;obtain⟨w2,q0,q1,_,_,_,q2,q3⟩:=ez (λ_=>rfl) rfl g4 hs;exact⟨w2,.inr ⟨fr0,cc,b,sh,w',val,ac,g1,hf,q0,rfl⟩,by rw[fmb q1,q2,q3,g2,g3]⟩
     ·have hn: ∀a b d e,r≠ .comm a b d e:=λa b d e he=>B ⟨a,b,d,e,he⟩;refine⟨r,v',.inl ⟨es,hl,hn⟩,hr,I,hp,λO=>?_⟩;obtain⟨k,h1,h2,h3,h4⟩:=hm O;refine⟨k,h2,h3,λha=>?_⟩;obtain⟨w',ac,g1,g2,g3,g4,_⟩:=h4 ha;exact⟨w',.inl ⟨ac,g1,hn⟩,by rw[fmb g4,g2,g3]⟩
 have stack: ∀r v',fq7 (V P F) fr v r v'->fgq (V P F) F r->(vt fr=true->r.calm=false)->
  (∃t,Touch.ok t/\r=.touch t/\l=[]/\m=lone (t.on botF) [] v')\/ ∃fr' l',r.fr (V P F) c=fr'/\r.cs c cs=l'++[botF]/\m=lone fr' (l'++[botF]) v'/\i5 (V P F) F (fr'::l')/\(PanS (fr::l)->PanS (fr'::l'))/\(r.calm=false->PanS (fr'::l')):=by
    intro r v' hr D hp;have Y:=di (c:=c) (cs:=cs) hr;rw[A,Y] at h;cases h;have ak:i5 (V P F) F l:=λf hf=>ok f (by simp[hf]);cases r with
    | push f ab=>
      refine .inr ⟨f,ab++l,rfl,by simp only[LRes.cs,<- A,f0k],by simp only[LRes.fr,LRes.cs,<- A,f0k],λx hx=>?_,λ⟨x,hx,C⟩=>?_,λB=>?_⟩
      ·simp only[fy3,fz0] at hx;rcases hx with rfl|hx|hx
       ·exact D.1
       ·exact D.2 x hx
       ·exact ak x hx
      ·rcases fy3.1 hx with rfl|hx
       ·rcases fgt (P:=V P F) (hp C) botF [] with h1|⟨y,_,hy,h2,_⟩
        ·exact⟨f,by simp,h1⟩
        ·exact⟨y,by simp[h2 ab f rfl],hy⟩
       ·exact⟨x,by simp[hx],C⟩
      ·rcases fgt (P:=V P F) B botF [] with h1|⟨y,_,hy,h2,_⟩
       ·exact⟨f,by simp,h1⟩
       ·exact⟨y,by simp[h2 ab f rfl],hy⟩
    | enter f a k g=>
      refine .inr ⟨Frame.enter (V P F) f a k,g::l,rfl,by simp only[LRes.cs,<- A,f0j],by simp only[LRes.fr,LRes.cs,<- A,f0j],λx hx=>?_,λ⟨x,hx,C⟩=>?_,λB=>?_⟩
      ·simp only[fy3] at hx;rcases hx with rfl|rfl|hx
       ·exact t9 hc rfl a D.2 λhn=>absurd rfl hn
       ·exact D.1
       ·exact ak x hx
      ·rcases fy3.1 hx with rfl|hx
       ·have:=hp C;simp only[LRes.calm,f3l] at this;exact⟨g,by simp,this⟩
       ·exact⟨x,by simp[hx],C⟩
      ·simp only[LRes.calm,f3l] at B;exact⟨g,by simp,B⟩
    | touch t=>
      cases l with
      | nil=>
        simp only[f2h,f0n] at A;obtain⟨rfl,rfl⟩:=A;exact .inl ⟨t,D,rfl,rfl,rfl⟩
      | cons f l=>
        simp only[f0j,f0n] at A;obtain⟨rfl,rfl⟩:=A;have h1:=td D (ok f fi);refine .inr ⟨t.on f,l,rfl,rfl,rfl,λx hx=>?_,λ⟨x,hx,C⟩=>?_,λB=>⟨t.on f,by simp,yn B f⟩⟩
        ·rcases fy3.1 hx with rfl|hx
         ·exact h1.1
         ·exact ok x (by simp[hx])
        ·rcases fy3.1 hx with rfl|hx
         ·exact⟨t.on f,by simp,yn (hp C) f⟩
         ·rcases fy3.1 hx with rfl|hx
          ·exact⟨t.on x,by simp,h1.2 C⟩
          ·exact⟨x,by simp[hx],C⟩
    | comm a b d e=>
      rcases hr with⟨_,_,hn⟩|⟨_,_,_,_,_,_,_,_,_,_,e⟩
      ·exact absurd rfl (hn a b d e)
      ·cases e
 obtain⟨r,v',hr,D,I,hp,_⟩:=view v (Rel.refl ho);rcases stack r v' hr D hp with⟨t,ht,_,_,hm⟩|⟨fr',l',e1,e2,hm,Y,ah,aE⟩
 ·exact .inl (.inr ⟨t,v',ht,hm⟩)
 ·refine .inr ⟨fr',l',v',hm,Y,I,ah,λJ=>?_⟩;have O:r.calm=true:=by
   cases e:r.calm with
   | true=>rfl
   | false=>exact absurd (aE e) J
  obtain⟨r0,v0,aG,ae,_,aC,aB⟩:=view v (Rel.refl ho);have M: ∀r2 v2,fq7 (V P F) fr v r2 v2->fgq (V P F) F r2->(vt fr=true->r2.calm=false)->v2=v'/\r2.fr (V P F) c=fr'/\r2.cs c cs=l'++[botF]/\r2.calm=true:=λr2 v2 h2 U aa=>by
   have e:=di (c:=c) (cs:=cs) h2;rw[di (c:=c) (cs:=cs) hr] at e;simp only[f0o,lone,f1q,f1z,f0n,f1j,f2i] at e;obtain⟨ew,ef,ec⟩:=e;refine⟨ew.symm,ef.symm.trans e1,ec.symm.trans e2,?_⟩;cases e3:r2.calm with
   | true=>rfl
   | false=>
     rcases stack r2 v2 h2 U aa with⟨t,_,rfl,aF,an⟩|⟨aI,l2,q1,q2,_,_,_,q3⟩
     ·subst aF;simp only[f2h,f0n] at A;obtain⟨rfl,rfl⟩:=A;have:(LRes.touch t).cs botF []=l'++[botF]:=ec.symm.trans e2;simp[LRes.cs] at this
     ·have a1:aI=fr':=q1.symm.trans (ef.symm.trans e1)
      have a2:l2=l':=by
          have:=q2.symm.trans (ec.symm.trans e2);exact fz2 this
      subst a1;subst a2;exact absurd (q3 e3) J
  obtain⟨rfl,_,_,aJ⟩:=M r0 v0 aG ae aC;obtain⟨k,k1,k2,_⟩:=aB aJ;refine⟨k,k1,k2,λt d ha=>?_⟩;obtain⟨r2,v2,hr2,U,_,aa,an⟩:=view (reW v t d) ((Rel.refl ho).re t d);obtain⟨rfl,b1,b2,aD⟩:=M r2 v2 hr2 U aa;obtain⟨k',g1,g2,g3⟩:=an aD;obtain rfl:k'=k:=by omega
  obtain⟨w',g4,g5⟩:=g3 ha;rw[A,di (c:=c) (cs:=cs) g4,b1,b2,g5];rfl
def fq8 (hF:FOk (V P F) F) (hc:nq F) {Stop:Frame->List Frame->World->Prop} (hS: ∀fr l v,Stop fr l v-> ¬PanS (fr::l)): ∀(n:Nat) (fr:Frame) (l:List Frame) (v:World) (fr':Frame) (l':List Frame) (v':World),i5 (V P F) F (fr::l)->ut v->PanS (fr::l)->
    runN (V P F) n (lone fr (l++[botF]) v)=.next (lone fr' (l'++[botF]) v')-> ¬Stop fr' l' v'
 | 0,fr,l,v,fr',l',v',_,_,hp,h=>by
   simp only[runN,f0o,lone,f1q,f1z,f0n,f1j,f2i] at h;obtain⟨_,rfl,h⟩:=h;obtain rfl:=fz2 h;exact λhs=>hS _ _ _ hs hp
 | n + 1,fr,l,v,fr',l',v',hk,ho,hp,h=>by
   simp only[runN] at h;split at h
   ·rename_i m hm;rcases ftp hF hc hk ho hm with(⟨⟨o,u,e⟩,j⟩|⟨t,u,ht,rfl⟩)|⟨fr1,l1,v1,rfl,B,A,q,_⟩
    ·cases n with
     | zero=>
       simp only[runN,f0o] at h;exact absurd h (j _ _ _)
     | succ n=>
       simp only[runN,e] at h;cases h
    ·cases n with
     | zero=>
       simp only[runN,f0o,lone,f1q,f1z,f0n,f1j,f2i] at h;obtain⟨_,_,h⟩:=h;simp at h
     | succ n=>
       obtain⟨o,u',e⟩:=fma (P:=V P F) t ht u;simp only[runN,e] at h;cases h
    ·exact fq8 hF hc hS n fr1 l1 v1 fr' l' v' B A (q hp) h
   ·rename_i e he;exact(he _ h).elim
inductive Fin (P:Program) (Stop:Frame->List Frame->World->Prop):Frame->List Frame->World->Prop
 | stop {fr:Frame} {l:List Frame} {v:World}:Stop fr l v->Fin P Stop fr l v
 | step {fr:Frame} {l:List Frame} {v:World} (fr':(Nat->Question->Nat)->Nat->Frame) (l':(Nat->Question->Nat)->Nat->List Frame) (v':(Nat->Question->Nat)->Nat->World):
   (∀t d,Go.step P (lone fr (l++[botF]) (reW v t d))=.next (lone (fr' t d) (l' t d++[botF]) (v' t d)))->(∀t d,Fin P Stop (fr' t d) (l' t d) (v' t d))->Fin P Stop fr l v
def fq9 (P:Program) (Stop:Frame->List Frame->World->Prop) (fr:Frame) (l:List Frame) (v:World):Prop:=
 ∃n fr' l' v',runN P n (lone fr (l++[botF]) v)=.next (lone fr' (l'++[botF]) v')/\Stop fr' l' v'
def cf {fr fr':Frame} {l l':List Frame} {v v':World} (h:lone fr (l++[botF]) v=lone fr' (l'++[botF]) v'):fr=fr'/\l=l'/\v=v':=by
 simp only[lone,f1q,f1z,f0n,f1j,f2i] at h;exact⟨h.2.1,fz2 h.2.2,h.1⟩
def fao (hF:FOk (V P F) F) (hc:nq F) {Stop:Frame->List Frame->World->Prop} (hS: ∀fr l v,Stop fr l v-> ¬PanS (fr::l)) (hk:i5 (V P F) F (fr::l)) (ho:ut v) (hn: ¬Stop fr l v) (h:fq9 (V P F) Stop fr l v):
    ∃ fr' l' v' k,step (V P F) (lone fr (l++[botF]) v)=.next (lone fr' (l'++[botF]) v')/\i5 (V P F) F (fr'::l')/\ut v'/\v'.tape=v.tape/\v'.drawn=v.drawn+k/\
      (∀t d,(∀j,j<k->v.tape (v.drawn+j)=t (d+j))->step (V P F) (lone fr (l++[botF]) (reW v t d))=.next (lone fr' (l'++[botF]) (reW v' t (d+k))))/\fq9 (V P F) Stop fr' l' v':=by
 obtain⟨n,fr',l',v',h,hs⟩:=h;cases n with
 | zero=>
   simp only[runN,f0o] at h;obtain⟨rfl,rfl,rfl⟩:=cf h;exact absurd hs hn
 | succ n=>
   simp only[runN] at h;split at h
   ·rename_i m hm;rcases ftp hF hc hk ho hm with(⟨⟨o,u,e⟩,B⟩|⟨t,u,ht,rfl⟩)|⟨fr1,l1,v1,rfl,A,q,I,C⟩
    ·cases n with
     | zero=>
       simp only[runN,f0o] at h;exact absurd h (B _ _ _)
     | succ n=>
       simp only[runN,e] at h;cases h
    ·cases n with
     | zero=>
       simp only[runN,f0o,lone,f1q,f1z,f0n,f1j,f2i] at h;obtain⟨_,_,h⟩:=h;simp at h
     | succ n=>
       obtain⟨o,u',e⟩:=fma (P:=V P F) t ht u;simp only[runN,e] at h;cases h
    ·have D: ¬PanS (fr1::l1):=λhp=>fq8 hF hc hS n fr1 l1 v1 fr' l' v' A q hp h hs;obtain⟨k,k1,k2,k3⟩:=C D;exact⟨fr1,l1,v1,k,hm,A,q,k1,k2,k3,n,fr',l',v',h,hs⟩
   ·rename_i e he;exact(he _ h).elim
def fds (hF:FOk (V P F) F) (hc:nq F) {Stop:Frame->List Frame->World->Prop} (hS: ∀fr l v,Stop fr l v-> ¬PanS (fr::l)) (hR: ∀fr l v t d,Stop fr l v->Stop fr l (reW v t d)):
    ∀(n:Nat) (fr:Frame) (l:List Frame) (v:World) (fr':Frame) (l':List Frame) (v':World),i5 (V P F) F (fr::l)->ut v->runN (V P F) n (lone fr (l++[botF]) v)=.next (lone fr' (l'++[botF]) v')->Stop fr' l' v'->
    ∀t d,(∀j,v.tape (v.drawn+j)=t (d+j))->fq9 (V P F) Stop fr l (reW v t d)
 | 0,fr,l,v,fr',l',v',_,_,h,hs,t,d,_=>by
   simp only[runN,f0o] at h;obtain⟨rfl,rfl,rfl⟩:=cf h;exact⟨0,fr,l,_,rfl,hR _ _ _ t d hs⟩
 | n +1,fr,l,v,fr',l',v',hk,ho,h,hs,t,d,ha=>by
   by_cases q:Stop fr l v
   ·exact⟨0,fr,l,_,rfl,hR _ _ _ t d q⟩
   ·obtain⟨fr1,l1,v1,k,h1,h2,h3,h4,h5,h6,_⟩:=fao hF hc hS hk ho q ⟨n+1,fr',l',v',h,hs⟩;simp only[runN,h1] at h;obtain⟨m,a1,a2,a3,a4,a5⟩:=fds hF hc hS hR n fr1 l1 v1 fr' l' v' h2 h3 h hs t (d+k) (λj=>by rw[h4,h5,f3r,ha,f3r]);refine⟨m+1,a1,a2,a3,?_,a5⟩;simp only[runN,h6 t d (λj _=>ha j)];exact a4
end
section
variable {P:Program} {F:Array Func} {fr fr':Frame} {l l':List Frame} {v w v' w':World}
def fil (Q:Program): ∀(n:Nat) (m m':Machine),runN Q n m=.next m'->runN Q (n+1) m=step Q m'
 | 0,m,m',h=>by
   simp only[runN,f0o] at h;subst h;simp only[runN];split <;>simp_all
 | n +1,m,m',h=>by
   simp only[runN] at h;split at h
   ·rename_i m1 h1;have:=fil Q n m1 m' h;rw[show runN Q (n+1+1) m=match step Q m with | .next m=>runN Q (n+1) m|e=>e from rfl,h1];exact this
   ·rename_i e he;exact(he _ h).elim
def ftq {Q:Program} {m m1 m2:Machine} {n:Nat} (h1:runN Q n m=.next m1) (h2:runN Q n m=.next m2):m1=m2:=by rw[h1] at h2;cases h2;rfl
abbrev St:=Frame×List Frame×World
open Classical in
def fdt (hF : FOk (V P F) F) (hc:nq F) {Stop:Frame->List Frame->World->Prop} (hS: ∀fr l v,Stop fr l v-> ¬PanS (fr::l)) (hR: ∀fr l v t d,Stop fr l v->Stop fr l (reW v t d)) (hk:i5 (V P F) F (fr::l)) (ho:ut v)
    (h: ∀t d,fq9 (V P F) Stop fr l (reW v t d)):Fin (V P F) Stop fr l v:=by
 refine f1e λhn=>?_
 let B:St->Prop:=λs=>i5 (V P F) F (s.1::s.2.1)/\ut s.2.2/\(∀t d,fq9 (V P F) Stop s.1 s.2.1 (reW s.2.2 t d))/\ ¬Fin (V P F) Stop s.1 s.2.1 s.2.2
 let R:{s:St // B s}->{s:St // B s}×(Nat->Question->Nat)×Nat×Nat->Prop:=λs y=> ∀t' d',(∀j,j<y.2.2.2->y.2.1 (y.2.2.1+j)=t' (d'+j))->
    step (V P F) (lone s.1.1 (s.1.2.1++[botF]) (reW s.1.2.2 t' d'))=.next (lone y.1.1.1 (y.1.1.2.1++[botF]) (reW y.1.1.2.2 t' (d'+y.2.2.2)))
 have A: ∀s:{s:St // B s},∃y,R s y:=by
    rintro⟨⟨fr,l,v⟩,hk,ho,h,hn⟩;simp only at hk ho h hn;have J: ¬Stop fr l v:=λhs=>hn (.stop hs);have q: ∀t d,¬Stop fr l (reW v t d):=λt d hs=>J (by have:=hR fr l _ v.tape v.drawn hs;exact this);have m: ∃t d,∀fr' l' v',step (V P F) (lone fr (l++[botF]) (reW v t d))=.next (lone fr' (l'++[botF]) v')-> ¬Fin (V P F) Stop fr' l' v':=by
     refine f1e λI=>hn ?_
     have C: ∀p:(Nat->Question->Nat)×Nat,∃y:St,step (V P F) (lone fr (l++[botF]) (reW v p.1 p.2))=.next (lone y.1 (y.2.1++[botF]) y.2.2)/\Fin (V P F) Stop y.1 y.2.1 y.2.2:=by
        rintro⟨t,d⟩;refine f1e λO=>I ⟨t,d,λfr' l' v' e hf=>O ⟨(fr',l',v'),e,hf⟩⟩
     obtain⟨f,hf⟩:=f1v C;exact .step (λt d=>(f (t,d)).1) (λt d=>(f (t,d)).2.1) (λt d=>(f (t,d)).2.2) (λt d=>(hf (t,d)).1) (λt d=>(hf (t,d)).2)
    obtain⟨t,d,m⟩:=m;obtain⟨fr1,l1,v1,k,h1,h2,h3,h4,h5,h6,_⟩:=fao hF hc hS hk (fdr ho t d) (q t d) (h t d);have h6: ∀t' d',(∀j,j<k->t (d+j)=t' (d'+j))->step (V P F) (lone fr (l++[botF]) (reW v t' d'))=.next (lone fr1 (l1++[botF]) (reW v1 t' (d'+k))):=h6;refine⟨(⟨(fr1,l1,v1),h2,h3,λt' d'=>?_,m _ _ _ h1⟩,t,d,k),h6⟩
    let T:Nat->Question->Nat:=λj=>if j<d+k then t j else t' (j-(d+k)+d')
    have e1:=h6 T d (λj hj=>by simp only[T];rw[f02 fe]);obtain⟨W,l2,v2,k2,g1,_,g3,g4,g5,_,g7⟩:=fao hF hc hS hk (fdr ho T d) (q T d) (h T d);rw[e1] at g1;simp only[f0o] at g1;obtain⟨rfl,rfl,rfl⟩:=cf g1;obtain⟨n,a1,a2,a3,a4,a5⟩:=g7;exact fds hF hc hS hR n fr1 l1 _ a1 a2 a3 h2 (fdr h3 _ _) a4 a5 t' d' (λj=>by
     show T (d+k+j)=_;simp only[T];rw[fx9 fe]
     congr 1
     omega)
 obtain⟨f,hf⟩:=f1v A
 let s0:{s:St // B s}:=⟨(fr,l,v),hk,ho,h,hn⟩
 let S:Nat->{s:St // B s}:=λn=>Nat.rec s0 (λ_ s=>(f s).1) n
 have S0:S 0=s0:=rfl;have Ss: ∀n,S (n+1)=(f (S n)).1:=λn=>rfl
 let tt:Nat->Nat->Question->Nat:=λn=>(f (S n)).2.1
 let dd:Nat->Nat:=λn=>(f (S n)).2.2.1
 let kk:Nat->Nat:=λn=>(f (S n)).2.2.2
 let D:Nat->Nat:=λn=>Nat.rec 0 (λi a=>a+kk i) n
 have Ds: ∀n,D (n+1)=D n+kk n:=λn=>rfl
 have Dm : ∀ a b,a<=b->D a<=D b:=by
    intro a b X
    induction b with
    | zero => obtain rfl:a=0:=by omega
              exact fx8 _
    | succ b ih=>
      rcases f01 a (b+1) with h|h
      ·exact f08 (ih fe) (by rw[Ds];omega)
      ·obtain rfl:a=b+1:=by omega
       exact fx8 _
 let τ:Nat->Question->Nat:=λj=>if h: ∃i,D i<=j/\j<D (i+1) then tt (Classical.choose h) (dd (Classical.choose h)+(j-D (Classical.choose h))) else λ_=>0
 have hτ: ∀n j,j<kk n->tt n (dd n+j)=τ (D n+j):=by
    intro n j hj;have m: ∃i,D i<=D n+j/\D n+j<D (i+1):=⟨n,by omega,by rw[Ds];omega⟩;have U:=Classical.choose_spec m;have hi:Classical.choose m=n:=by
     rcases Nat.lt_trichotomy (Classical.choose m) n with h|h|h
     ·have:=Dm (Classical.choose m+1) n fe;omega
     ·exact h
     ·have:=Dm (n+1) (Classical.choose m) fe;rw[Ds] at this;omega
    simp only[τ];rw[dif_pos m,hi]
    congr 1
    omega
 have hrun: ∀n,runN (V P F) n (lone fr (l++[botF]) (reW v τ 0))=.next (lone (S n).1.1 ((S n).1.2.1++[botF]) (reW (S n).1.2.2 τ (D n))):=by
    intro n
    induction n with
    | zero=>rfl
    | succ n ih=>
      rw[fil _ n _ _ ih];exact hf (S n) τ (D n) (hτ n)
 obtain⟨N,fr',l',v',hN,hs⟩:=h τ 0;have e:=ftq (hrun N) hN;obtain⟨e1,e2,e3⟩:=cf e;obtain⟨_,_,_,M⟩:=(S N).2;refine M (.stop ?_);have:=hR _ _ _ (S N).1.2.2.tape (S N).1.2.2.drawn hs;rw[<- e1,<- e2,<- e3] at this;exact this
def Fin.calm (hF:FOk (V P F) F) (hc:nq F) {Stop:Frame->List Frame->World->Prop} (hS: ∀fr l v,Stop fr l v-> ¬PanS (fr::l)) (h:Fin (V P F) Stop fr l v):i5 (V P F) F (fr::l)->ut v-> ¬PanS (fr::l):=by
 induction h with
 | stop hs=>exact λ_ _=>hS _ _ _ hs
 | step fr' l' v' h1 _ ih=>
   intro hk ho hp;rename_i fr l v;rcases ftp hF hc hk (fdr ho (λ_ _=>0) 0) (h1 (λ_ _=>0) 0) with(⟨_,j⟩|⟨t,u,ht,e⟩)|⟨fr1,l1,v1,e,A,q,m,_⟩
   ·exact absurd rfl (j _ _ _)
   ·simp only[lone,f1q,f1z,f0n,f1j,f2i] at e;obtain⟨_,_,e⟩:=e;simp at e
   ·obtain⟨e1,e2,e3⟩:=cf e;exact ih _ _ (by rw[e1,e2];exact A) (by rw[e3];exact q) (by rw[e1,e2];exact m hp)
def Fin.re {Q:Program} {Stop:Frame->List Frame->World->Prop} (hR: ∀fr l v t d,Stop fr l v->Stop fr l (reW v t d)) (h:Fin Q Stop fr l v) (t:Nat->Question->Nat) (d:Nat):Fin Q Stop fr l (reW v t d):=by
 cases h with
 | stop hs=>exact .stop (hR _ _ _ t d hs)
 | step fr' l' v' h1 h2=>exact .step fr' l' v' h1 h2
end
def oper (dst:Option Nat) (o:Op) (ty:TypeId):Oper:={ dst:=dst,op:=o,type:=ty,pos:= "",after:=#[],guard:=none }
def doV:Func:={ name:= "do",origin:= "",params:=#[78,116],resultTypes:=#[49],nfree:=0,ntmps:=11,results:=#[.tmp 4],norace:=false,tmpNames:=#[],body:=some (.seq (.region 100 #[oper (some 5) (.call { callee:=.builtin .cap,args:=#[.tmp 0],argTypes:=#[78] }) 3,oper (some 6) (.binOp .eql 3 (.tmp 5) (.const (.int .i64 0)) 3) 4] false) (.cond (.tmp 6) (.seq (.region 101 #[oper (some 7) (.select #[{ chan:=.tmp 0,send:=none,elem:=1 }] false) 0,oper (some 8) (.extract (.tmp 7) 1) 4] false) (.cond (.tmp 8) (.seq (.region 102 #[oper (some 3) (.box 116 (.tmp 1)) 0,oper (some 9) (.makeChan 163 (.const (.int .i64 0))) 163,oper (some 10) (.box 163 (.const (.agg #[]))) 0] false) (.seq (.region 103 #[oper (some 4) (.call { callee:=.value (.tmp 1),args:=#[],argTypes:=#[] }) 49] false) (.seq (.region 104 #[oper none (.send (.tmp 0) (.const (.bool true))) 0] false) .ret))) (.refuse "busy"))) (.refuse "no worker"))) }
def chk (g:Nat):Oper:=oper none (.binOp .eql 99 (.tmp 0) (.const (.pointer (some ⟨g,0,none⟩))) 99) 4
abbrev chkR:Code:=.region 90 #[chk 0,chk 1] false
abbrev mkV (name:String) (params results:Array TypeId) (ntmps:Nat) (rs:Array ResultVar) (c:Code):Func:={ name:=name,origin:= "",params:=params,resultTypes:=results,nfree:=0,ntmps:=ntmps,results:=rs,norace:=true,tmpNames:=#[],body:=some c }
def fql:Code:=.seq (.region 0 #[oper (some 1) (.load 21 (.tmp 0)) 21,oper (some 2) (.binOp .eql 21 (.tmp 1) (.const (.int .i32 0)) 21) 4] false) (.cond (.tmp 2) (.seq (.region 1 #[oper none (.store 21 (.tmp 0) (.const (.int .i32 1))) 0] false) .ret) (.refuse "locked"))
def lockV:Func:=mkV "lock" #[172] #[] 3 #[] (.seq chkR fql)
def fe5:Code:=.seq (.region 0 #[oper (some 1) (.load 21 (.tmp 0)) 21,oper (some 2) (.binOp .eql 21 (.tmp 1) (.const (.int .i32 1)) 21) 4] false) (.cond (.tmp 2) (.seq (.region 1 #[oper none (.store 21 (.tmp 0) (.const (.int .i32 0))) 0] false) .ret) (.refuse "not locked"))
def unlockV:Func:=mkV "unlock" #[172] #[] 3 #[] (.seq chkR fe5)
def ccB:Code:=.seq (.region 0 #[oper (some 1) (.fieldAddr 102 (.tmp 0) 0) 0,oper (some 2) (.load 99 (.tmp 1)) 99,oper (some 3) (.binOp .eql 99 (.tmp 2) (.const (.pointer none)) 99) 4] false)
 (.cond (.tmp 3) (.seq (.region 1 #[oper (some 4) (.call { callee:=.builtin .unsafeSlice,args:=#[.tmp 0,.const (.int .i64 1)],argTypes:=#[99,3] }) 0,oper none (.store 99 (.tmp 1) (.tmp 0)) 0] false) .ret) (.seq (.region 2 #[oper (some 4) (.binOp .eql 99 (.tmp 2) (.tmp 0) 99) 4] false) (.cond (.tmp 4) .ret (.refuse "another's"))))
def ccV:Func:=mkV "copyCheck" #[99] #[] 5 #[] (.seq chkR ccB)
abbrev zm:Array Oper:=#[oper (some 6) (.call { callee:=.value (.func 87),args:=#[.tmp 0],argTypes:=#[87] }) 4]
def putT:Code:=.cond (.tmp 6) (.seq (.region 2 #[oper (some 4) (.assign (.const (.bool false))) 4] false) .ret)
 (.seq (.region 3 #[oper (some 9) (.fieldAddr 149 (.tmp 0) 0) 0,oper (some 10) (.load 146 (.tmp 9)) 146,oper (some 2) (.binOp .eql 146 (.tmp 10) (.const (.chan none)) 146) 4] false)
    (.cond (.tmp 2) (.refuse "no channel") (.seq (.region 4 #[oper (some 7) (.call { callee:=.builtin .cap,args:=#[.tmp 10],argTypes:=#[146] }) 3,oper (some 15) (.binOp .eql 3 (.tmp 7) (.const (.int .i64 0)) 3) 4] false)
      (.cond (.tmp 15) (.refuse "no room") (.seq (.region 5 #[oper (some 11) (.load 110 (.tmp 3)) 110,oper none (.send (.tmp 10) (.tmp 11)) 0,oper (some 4) (.assign (.const (.bool true))) 4] false) .ret)))))
def putB:Code:=.seq (.region 0 #[oper (some 3) (.box 110 (.tmp 1)) 0] false) (.seq (.region 1 zm false) putT)
def putV:Func:=mkV "put" #[87,110] #[4] 16 #[.tmp 4] (.seq chkR putB)
def fo6 :Code:=.seq (.region 0 #[oper (some 5) (.fieldAddr 149 (.tmp 0) 1) 0,oper (some 7) (.load 147 (.tmp 5)) 147,oper (some 8) (.binOp .eql 147 (.tmp 7) (.const (.pointer none)) 147) 4] false)
 (.seq (.cond (.tmp 8) (.seq (.region 1 #[oper (some 9) (.fieldAddr 149 (.tmp 0) 0) 0,oper (some 12) (.load 146 (.tmp 9)) 146,oper (some 10) (.call { callee:=.builtin .cap,args:=#[.tmp 12],argTypes:=#[146] }) 3,oper (some 11) (.binOp .eql 3 (.tmp 10) (.const (.int .i64 0)) 3) 4] false)
   (.cond (.tmp 11) (.refuse "no room") (.seq (.region 2 #[oper (some 13) (.select #[{ chan:=.tmp 12,send:=none,elem:=110 }] false) 0,oper (some 14) (.extract (.tmp 13) 0) 3,oper (some 15) (.binOp .eql 3 (.tmp 14) (.const (.int .i64 0)) 3) 4] false)
       (.cond (.tmp 15) (.region 3 #[oper (some 16) (.extract (.tmp 13) 2) 110,oper (some 3) (.alloc 110) 0,oper none (.store 110 (.tmp 3) (.tmp 16)) 0,oper none (.store 147 (.tmp 5) (.tmp 3)) 0] false) .skip)))) .skip)
    (.seq (.region 5 #[oper (some 2) (.load 147 (.tmp 5)) 147] false) .ret))
def peekV:Func:=mkV "peek" #[87] #[147] 24 #[.tmp 2] (.seq chkR fo6)
def refused:Func:={ name:= "refused",origin:= "",params:=#[],resultTypes:=#[],nfree:=0,ntmps:=0,results:=#[],body:=none,norace:=false,tmpNames:=#[] }
def rowsKept:List Nat:=[80,81,82,84,113,114,130,146,157,158,159,160]
def specials:List Nat:=[46,57,58,75,90,116]
noncomputable def nt (i:Nat) (fn:Func):Func:=
 if i=46 then doV else if i=57 then lockV else if i=58 then unlockV else if i=75 then ccV else if i=90 then putV else if i=116 then peekV else
 if rowsKept.contains i then fn else match fn.body with
  | some c=>if va c&&yb c&&fn.name != "runtime.NumGoroutine" then fn else refused
  | none=>refused
noncomputable def rg:Array Func:=Tryz.prog.funcs.mapIdx nt
noncomputable abbrev PV:Program:=V Tryz.prog rg
def wy (i:Nat):rg[i]? =(Tryz.prog.funcs[i]?).map (nt i):=by
 unfold rg;rw[f4x]
def fqm : nq rg :=by
 intro i fn c h hb;rw[wy] at h;obtain⟨m,h0,rfl⟩:=fy8.1 h;unfold nt at hb;split at hb
 ·cases hb;kernel_rfl
 ·split at hb
  ·cases hb;kernel_rfl
  ·split at hb
   ·cases hb;kernel_rfl
   ·split at hb
    ·cases hb;kernel_rfl
    ·split at hb
     ·cases hb;kernel_rfl
     ·split at hb
      ·cases hb;kernel_rfl
      ·split at hb
       ·rename_i hr;exfalso
        have:m.body=none:=by
          simp only[rowsKept,List.contains_cons,List.contains_nil,Bool.or_false,f4n,f5g] at hr;rcases hr with rfl|rfl|rfl|rfl|rfl|rfl|rfl|rfl|rfl|rfl|rfl|rfl
          ·rw[Tryz.func80] at h0;cases h0;kernel_rfl
          ·rw[Tryz.func81] at h0;cases h0;kernel_rfl
          ·rw[Tryz.func82] at h0;cases h0;kernel_rfl
          ·rw[Tryz.func84] at h0;cases h0;kernel_rfl
          ·rw[Tryz.func113] at h0;cases h0;kernel_rfl
          ·rw[Tryz.func114] at h0;cases h0;kernel_rfl
          ·rw[Tryz.func130] at h0;cases h0;kernel_rfl
          ·rw[Tryz.func146] at h0;cases h0;kernel_rfl
          ·rw[Tryz.func157] at h0;cases h0;kernel_rfl
          ·rw[Tryz.func158] at h0;cases h0;kernel_rfl
          ·rw[Tryz.func159] at h0;cases h0;kernel_rfl
          ·rw[Tryz.func160] at h0;cases h0;kernel_rfl
        rw[this] at hb;cases hb
       ·split at hb
        ·rename_i c0 q;split at hb
         ·rename_i j;rw[q] at hb;cases hb;simp only[f04] at j;exact j.1.1
         ·cases hb
        ·cases hb
def fbo {F:Array Func} {P:Program} {f:Nat} (h:F[f]? =some refused) (xs:Array Value):Vain (V P F) (callFunc f xs):=by
 intro v;have e1:Extern.findNext refused=none:=by kernel_rfl
 have e2:Extern.find refused=none:=by kernel_rfl
 refine⟨.unsupported (.extern "refused"),v,?_,rfl⟩;show(Sem.bind (.program .pure) _).run (V P F) v=_;have h3:(refused.name== "runtime.NumGoroutine")=false:=by kernel_rfl
 have h4:(refused.name.endsWith ".init" && !refused.name.startsWith "(" && !refused.name.startsWith "gosem.")=false:=by kernel_rfl
 simp only[Sem.bind,Sem.run,h,h3,f0g,f0s];show(Sem.bind (Go.mark (.extern f)) _).run (V P F) v=_;simp only[Go.mark,Sem.bind,Sem.run,e1,e2,h4];rfl
section
variable {P:Program} {F:Array Func} {N:Nat->Prop}
def row80 (xs:Array Value):Sim P F N (Extern.ReflectliteValue.unpack (xs.getD 0 (.tuple #[]))):=fbh _
def row81 (xs:Array Value):Sim P F N (Extern.ReflectliteValue.methodAny (Extern.ReflectliteValue.valueError "reflectlite.Value.Type" 0) (λt _ _ _=>Extern.ReflectliteType.toType t) xs):=fdg _ _ (xw _ _) (λt _ _ _=>lf t) xs
def row82 (xs:Array Value):Sim P F N (Extern.ReflectliteValue.method (Extern.ReflectliteValue.valueError "reflectlite.Value.IsNil" 0) Extern.ReflectliteValue.isNil xs):=fbi _ _ (xw _ _) (λt a x y=>fda t a x y) xs
def row113 (xs:Array Value):Sim P F N (Extern.ReflectliteValue.method (Extern.ReflectliteValue.valueError "reflectlite.Value.Elem" 0) Extern.ReflectliteValue.elem xs):=fbi _ _ (xw _ _) (λt a x y=>ffl t a x y) xs
def row146 (xs:Array Value):Sim P F N (Extern.ReflectliteType.abiMethod (λt=>do Pure.pure (.int .u8 (<- Extern.Rtype.kind t))) xs):=fdh _ (λt=>Sim.bind' (fm6 t) λ_=>Sim.pure' _) xs
def row157 (xs:Array Value):Sim P F N (Extern.ReflectliteType.relation "AssignableTo" Extern.ReflectliteType.assignableTo xs):=nk _ _ (λt u=>ik t u) xs
def row158 (xs:Array Value):Sim P F N (Extern.ReflectliteType.method (λt=>do Extern.Rtype.noPackHeld "Comparable" t;Pure.pure (.bool (<- typeInfo t).comparable)) xs):=fbj _ (λt=>Sim.bind' (f6z _ t) λ_=>Sim.bind' (Sim.typeInfo' t) λ_=>Sim.pure' _) xs
def row159 (xs:Array Value):Sim P F N (Extern.ReflectliteType.method Extern.ReflectliteType.elem xs):=fbj _ (λt=>ffm t) xs
def row160 (xs:Array Value):Sim P F N (Extern.ReflectliteType.relation "Implements" Extern.ReflectliteType.implements_ xs):=nk _ _ (λt u=>ij t u) xs
end
def fqn {i:Nat} {fn:Func} (hi:i∈rowsKept) (h:Tryz.prog.funcs[i]? =some fn):fn.name≠ "runtime.NumGoroutine" /\Extern.findNext fn=none/\ ∃e,Extern.find fn=some e/\ ∀(P:Program) (F:Array Func) N xs,Sim P F N (e xs):=by
 have hn: ∀{f:Func},(f.name== "runtime.NumGoroutine")=false->f.name≠ "runtime.NumGoroutine" :=λh e=>by simp[e] at h
 simp only[rowsKept,fy3,fz8,f0z] at hi;rcases hi with rfl|rfl|rfl|rfl|rfl|rfl|rfl|rfl|rfl|rfl|rfl|rfl
 ·rw[Tryz.func80] at h;cases h;exact⟨hn fd,by kernel_rfl,_,(by kernel_rfl:Extern.find Tryz.f80=some (λargs=>Extern.ReflectliteValue.unpack (args.getD 0 (.tuple #[])))),λP F N xs=>row80 xs⟩
 ·rw[Tryz.func81] at h;cases h;exact⟨hn fd,by kernel_rfl,_,(by kernel_rfl:Extern.find Tryz.f81=some (Extern.ReflectliteValue.methodAny (Extern.ReflectliteValue.valueError "reflectlite.Value.Type" 0) λt _ _ _=>Extern.ReflectliteType.toType t)),λP F N xs=>row81 xs⟩
 ·rw[Tryz.func82] at h;cases h;exact⟨hn fd,by kernel_rfl,_,(by kernel_rfl:Extern.find Tryz.f82=some (Extern.ReflectliteValue.method (Extern.ReflectliteValue.valueError "reflectlite.Value.IsNil" 0) Extern.ReflectliteValue.isNil)),λP F N xs=>row82 xs⟩
 ·rw[Tryz.func84] at h;cases h;exact⟨hn fd,by kernel_rfl,_,(by kernel_rfl:Extern.find Tryz.f84=some Extern.ReflectliteType.typeOf),λP F N xs=>fbk xs⟩
 ·rw[Tryz.func113] at h;cases h;exact⟨hn fd,by kernel_rfl,_,(by kernel_rfl:Extern.find Tryz.f113=some (Extern.ReflectliteValue.method (Extern.ReflectliteValue.valueError "reflectlite.Value.Elem" 0) Extern.ReflectliteValue.elem)),λP F N xs=>row113 xs⟩
 ·rw[Tryz.func114] at h;cases h;exact⟨hn fd,by kernel_rfl,_,(by kernel_rfl:Extern.find Tryz.f114=some Extern.ReflectliteValue.set),λP F N xs=>fif xs⟩
 ·rw[Tryz.func130] at h;cases h;exact⟨hn fd,by kernel_rfl,_,(by kernel_rfl:Extern.find Tryz.f130=some Extern.MapsClone.clone),λP F N xs=>f7e xs⟩
 ·rw[Tryz.func146] at h;cases h;exact⟨hn fd,by kernel_rfl,_,(by kernel_rfl:Extern.find Tryz.f146=some (Extern.ReflectliteType.abiMethod λt=>do Pure.pure (.int .u8 (<- Extern.Rtype.kind t)))),λP F N xs=>row146 xs⟩
 ·rw[Tryz.func157] at h;cases h;exact⟨hn fd,by kernel_rfl,_,(by kernel_rfl:Extern.find Tryz.f157=some (Extern.ReflectliteType.relation "AssignableTo" Extern.ReflectliteType.assignableTo)),λP F N xs=>row157 xs⟩
 ·rw[Tryz.func158] at h;cases h;exact⟨hn fd,by kernel_rfl,_,(by kernel_rfl:Extern.find Tryz.f158=some (Extern.ReflectliteType.method λt=>do Extern.Rtype.noPackHeld "Comparable" t;Pure.pure (.bool (<- typeInfo t).comparable))),λP F N xs=>row158 xs⟩
 ·rw[Tryz.func159] at h;cases h;exact⟨hn fd,by kernel_rfl,_,(by kernel_rfl:Extern.find Tryz.f159=some (Extern.ReflectliteType.method Extern.ReflectliteType.elem)),λP F N xs=>row159 xs⟩
 ·rw[Tryz.func160] at h;cases h;exact⟨hn fd,by kernel_rfl,_,(by kernel_rfl:Extern.find Tryz.f160=some (Extern.ReflectliteType.relation "Implements" Extern.ReflectliteType.implements_)),λP F N xs=>row160 xs⟩
def fj1 {F:Array Func} {P:Program} {f:Nat} (h:F[f]? =none) (xs:Array Value):Vain (V P F) (callFunc f xs):=by
 intro v;refine⟨.stuck "call: no such function",v,?_,rfl⟩;show(Sem.bind (.program .pure) _).run (V P F) v=_;simp only[Sem.bind,Sem.run,h];rfl
def fft: ∀s d,(s,d)∈convs->(∃k,Tryz.prog.underlying s=some (.int k))/\ ∃k,Tryz.prog.underlying d=some (.int k):=by
 intro s d h;simp only[convs,fy3,f2e,fz8,f0z] at h;rcases h with⟨rfl,rfl⟩|⟨rfl,rfl⟩|⟨rfl,rfl⟩|⟨rfl,rfl⟩
 ·exact⟨⟨_,Tryz.underlying21⟩,_,Tryz.underlying3⟩
 ·exact⟨⟨_,Tryz.underlying21⟩,_,Tryz.underlying5⟩
 ·exact⟨⟨_,Tryz.underlying21⟩,_,Tryz.underlying60⟩
 ·exact⟨⟨_,Tryz.underlying3⟩,_,Tryz.underlying21⟩
def fj2: ∃e,Tryz.prog.underlying 99=some (.pointer e)/\ ∀m u,Tryz.prog.underlying e≠some (.array m u):=by
 refine⟨_,Tryz.underlying99,λm u h=>?_⟩;rw[Tryz.underlying102] at h;cases h
def fa4 {i:Nat} {fn:Func} (hi:i∈specials) (h:Tryz.prog.funcs[i]? =some fn):fn.name≠ "runtime.NumGoroutine" /\(nt i fn).name≠ "runtime.NumGoroutine" /\fn.body.isSome=true/\(nt i fn).body.isSome=true:=by
 have hn: ∀{f:Func},(f.name== "runtime.NumGoroutine")=false->f.name≠ "runtime.NumGoroutine" :=λh e=>by simp[e] at h
 simp only[specials,fy3,fz8,f0z] at hi;rcases hi with rfl|rfl|rfl|rfl|rfl|rfl
 ·rw[Tryz.func46] at h;cases h;exact⟨hn fd,hn (by rfl),by kernel_rfl,by rfl⟩
 ·rw[Tryz.func57] at h;cases h;exact⟨hn fd,hn (by rfl),by kernel_rfl,by rfl⟩
 ·rw[Tryz.func58] at h;cases h;exact⟨hn fd,hn (by rfl),by kernel_rfl,by rfl⟩
 ·rw[Tryz.func75] at h;cases h;exact⟨hn fd,hn (by rfl),by kernel_rfl,by rfl⟩
 ·rw[Tryz.func90] at h;cases h;exact⟨hn fd,hn (by rfl),by kernel_rfl,by rfl⟩
 ·rw[Tryz.func116] at h;cases h;exact⟨hn fd,hn (by rfl),by kernel_rfl,by rfl⟩
def f7g (i:Nat):(rg[i]? =none)\/ ∃fn,Tryz.prog.funcs[i]? =some fn/\((i∈specials/\rg[i]? =some (nt i fn))\/(rg[i]? =some refused)\/
    (rg[i]? =some fn/\fn.name≠ "runtime.NumGoroutine" /\(i∈rowsKept\/ ∃c,fn.body=some c/\va c=true/\yb c=true))):=by
 cases h:Tryz.prog.funcs[i]? with
 | none=>exact .inl (by rw[wy,h];rfl)
 | some fn =>
   refine .inr ⟨fn,rfl,?_⟩;have hg:rg[i]? =some (nt i fn):=by rw[wy,h];rfl
   by_cases hs:i∈specials
   ·exact .inl ⟨hs,hg⟩
   ·refine .inr ?_;simp only[specials,fy3,fz8,f0z,not_or] at hs;obtain⟨h1,h2,h3,h4,h5,h6⟩:=hs;unfold nt at hg;rw[fx9 h1,fx9 h2,fx9 h3,fx9 h4,fx9 h5,fx9 h6] at hg;split at hg
    ·rename_i hr;have hr:i∈rowsKept:=by simpa using hr
     exact .inr ⟨hg,(fqn hr h).1,.inl hr⟩
    ·split at hg
     ·rename_i c hc;split at hg
      ·rename_i j;simp only[f04,bne_iff_ne,ne_eq] at j;exact .inr ⟨hg,j.2,.inr ⟨c,hc,j.1.1,j.1.2⟩⟩
      ·exact .inl hg
     ·exact .inl hg
def fj3 {i:Nat} {fn:Func} (h:Tryz.prog.funcs[i]? =some fn) (hn:i∈rowsKept\/ ∃c,fn.body=some c/\va c=true/\yb c=true) (P:Program) (F:Array Func):fn.body=none->Extern.findNext fn=none/\ ∃e,Extern.find fn=some e/\ ∀N xs,Sim P F N (e xs):=by
 intro hb;rcases hn with hr|⟨c,hr,_⟩
 ·obtain⟨_,h1,e,h2,h3⟩:=fqn hr h;exact⟨h1,e,h2,λN xs=>h3 P F N xs⟩
 ·rw[hb] at hr;cases hr
def md:FOk Tryz.prog rg:=by
 refine⟨fft,fj2,λi=>?_⟩;rcases f7g i with hn|⟨fn,h,⟨hs,hg⟩|hg|⟨hg,h1,h2⟩⟩
 ·exact .inr (.inr (fj1 hn))
 ·obtain⟨a1,a2,a3,a4⟩:=fa4 hs h;exact .inr (.inl ⟨fn,_,h,hg,a1,a2,a3,a4⟩)
 ·exact .inr (.inr (fbo hg))
 ·exact .inl ⟨fn,h,hg,h1,fj3 h h2 _ _⟩
def fok_v {P:Program} {F:Array Func} (hl: ∃e,P.underlying 99=some (.pointer e)/\ ∀m u,P.underlying e≠some (.array m u)) (hc: ∀s d,(s,d)∈convs->(∃k,P.underlying s=some (.int k))/\ ∃k,P.underlying d=some (.int k))
    (h: ∀f,(∃fn,F[f]? =some fn/\fn.name≠ "runtime.NumGoroutine" /\(fn.body=none->Extern.findNext fn=none/\ ∃e,Extern.find fn=some e/\ ∀N xs,Sim (V P F) F N (e xs)))\/
      (∀xs,Vain (V P F) (callFunc f xs))):FOk (V P F) F:=by
 refine⟨λs d h=>?_,by simpa only[rq] using hl,λf=>?_⟩
 ·rw[rq,rq];exact hc s d h
 ·rcases h f with⟨fn,h1,h2,h3⟩|h1
  ·exact .inl ⟨fn,h1,h1,h2,h3⟩
  ·exact .inr (.inr h1)
def fqo:FOk PV rg:=by
 refine fok_v fj2 fft λi=>?_;rcases f7g i with hn|⟨fn,h,⟨hs,hg⟩|hg|⟨hg,h1,h2⟩⟩
 ·exact .inr (fj1 hn)
 ·obtain⟨a1,a2,a3,a4⟩:=fa4 hs h;exact .inl ⟨_,hg,a2,λhb=>by rw[hb] at a4;cases a4⟩
 ·exact .inr (fbo hg)
 ·exact .inl ⟨fn,hg,h1,fj3 h h2 _ _⟩
end Go.Proofs.YtelecjnabeokeaaGreatDoor
namespace Go.Proofs.YtelecjnabeokeaaGreatDoor
open Go Go.RowKit
section
variable (P:Program) (F:Array Func) (w:World)
@[go_sem] def ua (t:TypeId):(underlying t).run (V P F) w=(underlying t).run P w:=by
  unfold underlying;simp only[Go.program,Bind.bind,Sem.bind,Sem.run,rq];cases P.underlying t <;>simp only[Pure.pure,Sem.run,Go.stuck]
@[go_sem] def fas (t:TypeId):(typeInfo t).run (V P F) w=(typeInfo t).run P w:=by
  unfold typeInfo;simp only[Go.program,Bind.bind,Sem.bind,Sem.run,fcr];cases P.info? t <;>simp only[Pure.pure,Sem.run,Go.stuck]
@[go_sem] def fce (t:TypeId):(sizeOf t).run (V P F) w=(sizeOf t).run P w:=by
  unfold sizeOf;simp only[fz9,fas];cases (typeInfo t).run P w <;>simp only[Result.andThen,Pure.pure,Sem.run]
@[go_sem] def V_zeroValue (t:TypeId):(zeroValue t).run (V P F) w=(zeroValue t).run P w:=by
  unfold zeroValue;simp only[fz9,fas];cases (typeInfo t).run P w with
  | ok i u=>simp only[Result.andThen];cases i.zero <;>simp only[Pure.pure,Sem.run,Go.unsupported]
  | halt h u=>simp only[Result.andThen]
@[go_sem] def V_isAgg (t:TypeId):(isAgg t).run (V P F) w=(isAgg t).run P w:=by
  unfold isAgg;simp only[fz9,ua];cases (underlying t).run P w with
  | ok i u=>simp only[Result.andThen];cases i <;>simp only[Pure.pure,Sem.run]
  | halt h u=>simp only[Result.andThen]
end
def fl2 (P:Program) (F:Array Func):(V P F).funcs=F:=rfl
def rd (i:Nat) (fn:Func) (c:Code) (h:Tryz.prog.funcs[i]? =some fn) (hs:specials.contains i=false) (hr:rowsKept.contains i=false) (hb:fn.body=some c) (hc:(va c&&yb c&&fn.name != "runtime.NumGoroutine")=true):PV.funcs[i]? =some fn:=by
 rw[fl2];rw[wy,h];simp only[fz3,f03];simp only[specials,List.contains_cons,List.contains_nil,Bool.or_false,Bool.or_eq_false_iff,beq_eq_false_iff_ne,ne_eq] at hs;obtain⟨h1,h2,h3,h4,h5,h6⟩:=hs;unfold nt;rw[fx9 h1,fx9 h2,fx9 h3,fx9 h4,fx9 h5,fx9 h6,fx9 (by rw[hr];simp),hb];simp only[hc,f0e]
def ra {i:Nat} {fn:Func} {c:Code} (hf:PV.funcs[i]? =some fn) (hn:(fn.name== "runtime.NumGoroutine")=false) (hb:fn.body=some c) (args:Array Value) (w:World):(callFunc i args).run PV w=.ok (.enter i args) w:=by
 have h2:fn.body.isNone=false:=by rw[hb];rfl
 unfold callFunc;simp only[Go.program,Bind.bind,Sem.bind,Sem.run,hf,hn,h2,f0g,f0s,Pure.pure]
def wg (i:Nat) (fn j:Func) (h:Tryz.prog.funcs[i]? =some fn) (hv:nt i fn=j):PV.funcs[i]? =some j:=by
 rw[fl2,wy,h];exact f3q some hv
def pf {i:Nat} {fn:Func} {c:Code} (h:Tryz.prog.funcs[i]? =some fn) (hs:specials.contains i=false:=by kernel_rfl) (hr:rowsKept.contains i=false:=by kernel_rfl) (hb:fn.body=some c:=by rfl) (hc:(va c&&yb c&&fn.name != "runtime.NumGoroutine")=true:=by kernel_rfl):PV.funcs[i]? =some fn:=rd i fn c h hs hr hb hc
def pc {i:Nat} {fn:Func} {c:Code} (hf:PV.funcs[i]? =some fn) (args:Array Value) (w:World) (hn:(fn.name== "runtime.NumGoroutine")=false:=by kernel_rfl) (hb:fn.body=some c:=by rfl):(callFunc i args).run PV w=.ok (.enter i args) w:=ra hf hn hb args w
def PV.func7:PV.funcs[7]? =some Tryz.f7:=pf Tryz.func7
@[go_sem] def PV.call7:=λx w=>pc PV.func7 x w
def PV.func9:PV.funcs[9]? =some Tryz.f9:=pf Tryz.func9
@[go_sem] def PV.call9:=λx w=>pc PV.func9 x w
def PV.func11:PV.funcs[11]? =some Tryz.f11:=pf Tryz.func11
@[go_sem] def PV.call11:=λx w=>pc PV.func11 x w
def PV.func16:PV.funcs[16]? =some Tryz.f16:=pf Tryz.func16
@[go_sem] def PV.call16:=λx w=>pc PV.func16 x w
def PV.func17:PV.funcs[17]? =some Tryz.f17:=pf Tryz.func17
@[go_sem] def PV.call17:=λx w=>pc PV.func17 x w
def PV.func19:PV.funcs[19]? =some Tryz.f19:=pf Tryz.func19
@[go_sem] def PV.call19:=λx w=>pc PV.func19 x w
def PV.func20:PV.funcs[20]? =some Tryz.f20:=pf Tryz.func20
@[go_sem] def PV.call20:=λx w=>pc PV.func20 x w
def PV.func21:PV.funcs[21]? =some Tryz.f21:=pf Tryz.func21
@[go_sem] def PV.call21:=λx w=>pc PV.func21 x w
def PV.func22:PV.funcs[22]? =some Tryz.f22:=pf Tryz.func22
@[go_sem] def PV.call22:=λx w=>pc PV.func22 x w
def PV.func23:PV.funcs[23]? =some Tryz.f23:=pf Tryz.func23
@[go_sem] def PV.call23:=λx w=>pc PV.func23 x w
def PV.func24:PV.funcs[24]? =some Tryz.f24:=pf Tryz.func24
@[go_sem] def PV.call24:=λx w=>pc PV.func24 x w
def PV.func25:PV.funcs[25]? =some Tryz.f25:=pf Tryz.func25
@[go_sem] def PV.call25:=λx w=>pc PV.func25 x w
def PV.func26:PV.funcs[26]? =some Tryz.f26:=pf Tryz.func26
@[go_sem] def PV.call26:=λx w=>pc PV.func26 x w
def PV.func27:PV.funcs[27]? =some Tryz.f27:=pf Tryz.func27
@[go_sem] def PV.call27:=λx w=>pc PV.func27 x w
def PV.func29:PV.funcs[29]? =some Tryz.f29:=pf Tryz.func29
@[go_sem] def PV.call29:=λx w=>pc PV.func29 x w
def PV.func30:PV.funcs[30]? =some Tryz.f30:=pf Tryz.func30
@[go_sem] def PV.call30:=λx w=>pc PV.func30 x w
def PV.func31:PV.funcs[31]? =some Tryz.f31:=pf Tryz.func31
@[go_sem] def PV.call31:=λx w=>pc PV.func31 x w
def PV.func34:PV.funcs[34]? =some Tryz.f34:=pf Tryz.func34
@[go_sem] def PV.call34:=λx w=>pc PV.func34 x w
def PV.func35:PV.funcs[35]? =some Tryz.f35:=pf Tryz.func35
@[go_sem] def PV.call35:=λx w=>pc PV.func35 x w
def PV.func36:PV.funcs[36]? =some Tryz.f36:=pf Tryz.func36
@[go_sem] def PV.call36:=λx w=>pc PV.func36 x w
def PV.func38:PV.funcs[38]? =some Tryz.f38:=pf Tryz.func38
@[go_sem] def PV.call38:=λx w=>pc PV.func38 x w
def PV.func39:PV.funcs[39]? =some Tryz.f39:=pf Tryz.func39
@[go_sem] def PV.call39:=λx w=>pc PV.func39 x w
def PV.func40:PV.funcs[40]? =some Tryz.f40:=pf Tryz.func40
@[go_sem] def PV.call40:=λx w=>pc PV.func40 x w
def PV.func41:PV.funcs[41]? =some Tryz.f41:=pf Tryz.func41
@[go_sem] def PV.call41:=λx w=>pc PV.func41 x w
def PV.func42:PV.funcs[42]? =some Tryz.f42:=pf Tryz.func42
@[go_sem] def PV.call42:=λx w=>pc PV.func42 x w
def PV.func43:PV.funcs[43]? =some Tryz.f43:=pf Tryz.func43
@[go_sem] def PV.call43:=λx w=>pc PV.func43 x w
def PV.func44:PV.funcs[44]? =some Tryz.f44:=pf Tryz.func44
@[go_sem] def PV.call44:=λx w=>pc PV.func44 x w
def PV.func45:PV.funcs[45]? =some Tryz.f45:=pf Tryz.func45
@[go_sem] def PV.call45:=λx w=>pc PV.func45 x w
def PV.func47:PV.funcs[47]? =some Tryz.f47:=pf Tryz.func47
def PV.func48:PV.funcs[48]? =some Tryz.f48:=pf Tryz.func48
@[go_sem] def PV.call48:=λx w=>pc PV.func48 x w
def PV.func49:PV.funcs[49]? =some Tryz.f49:=pf Tryz.func49
@[go_sem] def PV.call49:=λx w=>pc PV.func49 x w
def PV.func50:PV.funcs[50]? =some Tryz.f50:=pf Tryz.func50
def PV.func51:PV.funcs[51]? =some Tryz.f51:=pf Tryz.func51
@[go_sem] def PV.call51:=λx w=>pc PV.func51 x w
def PV.func52:PV.funcs[52]? =some Tryz.f52:=pf Tryz.func52
def PV.func53:PV.funcs[53]? =some Tryz.f53:=pf Tryz.func53
@[go_sem] def PV.call53:=λx w=>pc PV.func53 x w
def PV.func54:PV.funcs[54]? =some Tryz.f54:=pf Tryz.func54
def PV.func55:PV.funcs[55]? =some Tryz.f55:=pf Tryz.func55
@[go_sem] def PV.call55:=λx w=>pc PV.func55 x w
def PV.func56:PV.funcs[56]? =some Tryz.f56:=pf Tryz.func56
def PV.func59:PV.funcs[59]? =some Tryz.f59:=pf Tryz.func59
@[go_sem] def PV.call59:=λx w=>pc PV.func59 x w
def PV.func60:PV.funcs[60]? =some Tryz.f60:=pf Tryz.func60
@[go_sem] def PV.call60:=λx w=>pc PV.func60 x w
def PV.func71:PV.funcs[71]? =some Tryz.f71:=pf Tryz.func71
@[go_sem] def PV.call71:=λx w=>pc PV.func71 x w
def PV.func72:PV.funcs[72]? =some Tryz.f72:=pf Tryz.func72
@[go_sem] def PV.call72:=λx w=>pc PV.func72 x w
def PV.func76:PV.funcs[76]? =some Tryz.f76:=pf Tryz.func76
@[go_sem] def PV.call76:=λx w=>pc PV.func76 x w
def PV.func83:PV.funcs[83]? =some Tryz.f83:=pf Tryz.func83
@[go_sem] def PV.call83:=λx w=>pc PV.func83 x w
def PV.func85:PV.funcs[85]? =some Tryz.f85:=pf Tryz.func85
@[go_sem] def PV.call85:=λx w=>pc PV.func85 x w
def PV.func87:PV.funcs[87]? =some Tryz.f87:=pf Tryz.func87
@[go_sem] def PV.call87:=λx w=>pc PV.func87 x w
def PV.func88:PV.funcs[88]? =some Tryz.f88:=pf Tryz.func88
@[go_sem] def PV.call88:=λx w=>pc PV.func88 x w
def PV.func89:PV.funcs[89]? =some Tryz.f89:=pf Tryz.func89
@[go_sem] def PV.call89:=λx w=>pc PV.func89 x w
def PV.func91:PV.funcs[91]? =some Tryz.f91:=pf Tryz.func91
@[go_sem] def PV.call91:=λx w=>pc PV.func91 x w
def PV.func92:PV.funcs[92]? =some Tryz.f92:=pf Tryz.func92
@[go_sem] def PV.call92:=λx w=>pc PV.func92 x w
def PV.func93:PV.funcs[93]? =some Tryz.f93:=pf Tryz.func93
@[go_sem] def PV.call93:=λx w=>pc PV.func93 x w
def PV.func94:PV.funcs[94]? =some Tryz.f94:=pf Tryz.func94
@[go_sem] def PV.call94:=λx w=>pc PV.func94 x w
def PV.func115:PV.funcs[115]? =some Tryz.f115:=pf Tryz.func115
@[go_sem] def PV.call115:=λx w=>pc PV.func115 x w
def PV.func117:PV.funcs[117]? =some Tryz.f117:=pf Tryz.func117
@[go_sem] def PV.call117:=λx w=>pc PV.func117 x w
def PV.func129:PV.funcs[129]? =some Tryz.f129:=pf Tryz.func129
@[go_sem] def PV.call129:=λx w=>pc PV.func129 x w
def PV.func131:PV.funcs[131]? =some Tryz.f131:=pf Tryz.func131
@[go_sem] def PV.call131:=λx w=>pc PV.func131 x w
def PV.func167:PV.funcs[167]? =some Tryz.f167:=pf Tryz.func167
@[go_sem] def PV.call167:=λx w=>pc PV.func167 x w
def PV.func170:PV.funcs[170]? =some Tryz.f170:=pf Tryz.func170
@[go_sem] def PV.call170:=λx w=>pc PV.func170 x w
def PV.func171:PV.funcs[171]? =some Tryz.f171:=pf Tryz.func171
@[go_sem] def PV.call171:=λx w=>pc PV.func171 x w
def PV.func172:PV.funcs[172]? =some Tryz.f172:=pf Tryz.func172
@[go_sem] def PV.call172:=λx w=>pc PV.func172 x w
def PV.func175:PV.funcs[175]? =some Tryz.f175:=pf Tryz.func175
@[go_sem] def PV.call175:=λx w=>pc PV.func175 x w
def PV.func176:PV.funcs[176]? =some Tryz.f176:=pf Tryz.func176
@[go_sem] def PV.call176:=λx w=>pc PV.func176 x w
def PV.func177:PV.funcs[177]? =some Tryz.f177:=pf Tryz.func177
@[go_sem] def PV.call177:=λx w=>pc PV.func177 x w
def PV.func180:PV.funcs[180]? =some Tryz.f180:=pf Tryz.func180
@[go_sem] def PV.call180:=λx w=>pc PV.func180 x w
def PV.func181:PV.funcs[181]? =some Tryz.f181:=pf Tryz.func181
@[go_sem] def PV.call181:=λx w=>pc PV.func181 x w
def PV.func46:PV.funcs[46]? =some doV:=wg 46 _ _ Tryz.func46 rfl
@[go_sem] def PV.call46:=λx w=>pc PV.func46 x w
def PV.func57:PV.funcs[57]? =some lockV:=wg 57 _ _ Tryz.func57 rfl
@[go_sem] def PV.call57:=λx w=>pc PV.func57 x w
def PV.func58:PV.funcs[58]? =some unlockV:=wg 58 _ _ Tryz.func58 rfl
@[go_sem] def PV.call58:=λx w=>pc PV.func58 x w
def PV.func75:PV.funcs[75]? =some ccV:=wg 75 _ _ Tryz.func75 rfl
@[go_sem] def PV.call75:=λx w=>pc PV.func75 x w
def PV.func90:PV.funcs[90]? =some putV:=wg 90 _ _ Tryz.func90 rfl
@[go_sem] def PV.call90:=λx w=>pc PV.func90 x w
def PV.func116:PV.funcs[116]? =some peekV:=wg 116 _ _ Tryz.func116 rfl
@[go_sem] def PV.call116:=λx w=>pc PV.func116 x w
def PV.func80:PV.funcs[80]? =some Tryz.f80:=wg 80 _ _ Tryz.func80 rfl
def PV.func81:PV.funcs[81]? =some Tryz.f81:=wg 81 _ _ Tryz.func81 rfl
def PV.func82:PV.funcs[82]? =some Tryz.f82:=wg 82 _ _ Tryz.func82 rfl
def PV.func84:PV.funcs[84]? =some Tryz.f84:=wg 84 _ _ Tryz.func84 rfl
def PV.func113:PV.funcs[113]? =some Tryz.f113:=wg 113 _ _ Tryz.func113 rfl
def PV.func114:PV.funcs[114]? =some Tryz.f114:=wg 114 _ _ Tryz.func114 rfl
def PV.func130:PV.funcs[130]? =some Tryz.f130:=wg 130 _ _ Tryz.func130 rfl
def PV.func146:PV.funcs[146]? =some Tryz.f146:=wg 146 _ _ Tryz.func146 rfl
def PV.func157:PV.funcs[157]? =some Tryz.f157:=wg 157 _ _ Tryz.func157 rfl
def PV.func158:PV.funcs[158]? =some Tryz.f158:=wg 158 _ _ Tryz.func158 rfl
def PV.func159:PV.funcs[159]? =some Tryz.f159:=wg 159 _ _ Tryz.func159 rfl
def PV.func160:PV.funcs[160]? =some Tryz.f160:=wg 160 _ _ Tryz.func160 rfl
end Go.Proofs.YtelecjnabeokeaaGreatDoor
namespace Go.Proofs.YtelecjnabeokeaaGreatDoor
namespace Plain
structure El where
 r:Int
 c:Int
 n:Int
deriving DecidableEq
def El.zero:El:=⟨0,0,0⟩
structure Chg where
 kind:Int
 pos:Int
 e:El
 cl:Int
deriving DecidableEq
structure Frm where
 chg:Chg
 mine:Int
 other:Int
 cur:Int
structure Sent where
 chg:Chg
 mine:Int
structure EndS where
 mine:Int
 other:Int
 acked:Int
 row:List Sent
def insPast (k m:Int) (b:Chg):Int:=
 if b.kind=1 then (if k>b.pos\/k=b.pos/\m>=b.cl then k+1 else k)
 else if b.kind=2 then (if k>b.pos then k-1 else k) else k
def past (a b:Chg):Chg:=
 if a.kind=1 then ⟨1,insPast a.pos a.cl b,a.e,a.cl⟩
 else if a.kind=2 then
    if b.kind=1 then ⟨2,if a.pos>=b.pos then a.pos+1 else a.pos,.zero,a.cl⟩
    else if b.kind=2 then if a.pos=b.pos then ⟨3,0,.zero,a.cl⟩ else ⟨2,if a.pos>b.pos then a.pos-1 else a.pos,.zero,a.cl⟩
    else ⟨2,a.pos,.zero,a.cl⟩
 else ⟨3,0,.zero,a.cl⟩
def index (a:Chg) (k:Int):Int:=
 if a.kind=1 then (if a.pos<=k then k+1 else k) else if a.kind=2 then (if a.pos<k then k-1 else k) else k
def apply (a:Chg) (t:List El):List El:=
 if a.kind=1 then t.take a.pos.toNat++a.e::t.drop a.pos.toNat
 else if a.kind=2 then t.take a.pos.toNat++t.drop (a.pos.toNat+1) else t
def Fits (a:Chg) (n:Nat):Prop:=(a.kind=1->0<=a.pos/\a.pos<=n)/\(a.kind=2->0<=a.pos/\a.pos<n)
structure Norm (a:Chg):Prop where
 kind:a.kind=1\/a.kind=2\/a.kind=3
 del:a.kind=2->a.e=.zero
 non:a.kind=3->a.pos=0/\a.e=.zero
def past_cl (a b:Chg):(past a b).cl=a.cl:=by unfold past;repeat' split <;>try rfl
def past_norm (a b:Chg):Norm (past a b):=by
 unfold past;repeat' split
 all_goals exact⟨by simp,by simp,by simp⟩
def grow (a:Chg) (n:Nat):Nat:=if a.kind=1 then n+1 else if a.kind=2 then n-1 else n
def f4k {a:Chg} {t:List El} (h:Fits a t.length):(apply a t).length=grow a t.length:=by
 unfold apply grow;split
 ·rename_i h1;have:=h.1 h1;simp only[f0a,f2d,fz6,f2p];omega
 ·split
  ·rename_i h1;have:=h.2 h1;simp only[f0a,f2d,f2p];omega
  ·rfl
def fad {a:Chg} {t:List El} (h:Fits a t.length) (i:Nat):(apply a t)[i]? =
    if a.kind=1 then (if (i:Int)<a.pos then t[i]? else if (i:Int)=a.pos then some a.e else t[i-1]?)
    else if a.kind=2 then (if (i:Int)<a.pos then t[i]? else t[i+1]?) else t[i]? :=by
 unfold apply;split
 ·rename_i h1;have:=h.1 h1;by_cases h2:(i:Int)<a.pos
  ·rw[f02 h2,f1d ja,f5r,f02 fe]
  ·rw[fx9 h2,f0y ja];simp only[f2d];by_cases h3:(i:Int)=a.pos
   ·rw[f02 h3,show i-min a.pos.toNat t.length=0 from by omega];rfl
   ·rw[fx9 h3,show i-min a.pos.toNat t.length=(i-1-a.pos.toNat)+1 from by omega,fy0,List.getElem?_drop,show a.pos.toNat+(i-1-a.pos.toNat)=i-1 from by omega]
 ·split
  ·rename_i h1;have:=h.2 h1;by_cases h2:(i:Int)<a.pos
   ·rw[f02 h2,f1d ja,f5r,f02 fe]
   ·rw[fx9 h2,f0y ja,List.getElem?_drop];simp only[f2d];rw[show a.pos.toNat+1+(i-min a.pos.toNat t.length)=i+1 from by omega]
  ·rfl
def lq {a b:Chg} {n:Nat} (ha:Fits a n) (hb:Fits b n):Fits (past a b) (grow b n):=by
 unfold Fits at*;unfold past insPast grow;repeat' split
 all_goals (simp only[] at*;try omega)
def fw8 {a b:Chg} {t:List El} (ha:Fits a t.length) (hb:Fits b t.length) (hc:a.cl≠b.cl):apply (past b a) (apply a t)=apply (past a b) (apply b t):=by
 have fa:=lq hb ha;have fb:=lq ha hb;rw[<- f4k ha] at fa;rw[<- f4k hb] at fb;refine List.ext_getElem? λi=>?_;rw[fad fa,fad fb];simp only[fad ha,fad hb];unfold Fits at ha hb;rcases a with⟨ak,ap,ae,ac⟩;rcases b with⟨bk,bp,be,bc⟩;obtain⟨q,C⟩:=ha;obtain⟨m,j⟩:=hb;clear fa fb;simp only[] at*;by_cases a1:ak=1
 ·subst a1;obtain⟨A,A'⟩:=q rfl;clear q C;by_cases b1:bk=1
  ·subst b1;obtain⟨B,B'⟩:=m rfl;clear m j;simp only[past,insPast,f0e];simp only[ge_iff_le,f0e] at*;repeat' split
   all_goals first|rfl|omega|(exact f3q (λk=>t[k]?) fe)|skip
  ·by_cases b2:bk=2
   ·subst b2;obtain⟨B,B'⟩:=j rfl;clear m j;simp only[past,insPast,f0e];simp at*;repeat' split
    all_goals first|rfl|omega|(exact f3q (λk=>t[k]?) fe)|skip
   ·simp only[past,insPast,b1,b2,f0e,f0s];simp at*
 ·by_cases a2:ak=2
  ·subst a2;obtain⟨A,A'⟩:=C rfl;clear q C;by_cases b1:bk=1
   ·subst b1;obtain⟨B,B'⟩:=m rfl;clear m j;simp only[past,insPast,f0e];simp at*;repeat' split
    all_goals first|rfl|omega|(exact f3q (λk=>t[k]?) fe)|skip
   ·by_cases b2:bk=2
    ·subst b2;obtain⟨B,B'⟩:=j rfl;clear m j;simp only[past,insPast,f0e];simp at*;by_cases e:ap=bp
     ·subst e;simp
     ·simp[e,f3w e];repeat' split
      all_goals first|rfl|omega|(exact f3q (λk=>t[k]?) fe)|skip
    ·simp only[past,insPast,b1,b2,f0e,f0s];simp at*
  ·by_cases b1:bk=1
   ·subst b1;simp[past,insPast,a1,a2]
   ·by_cases b2:bk=2
    ·subst b2;simp[past,insPast,a1,a2]
    ·simp[past,insPast,a1,a2,b1,b2]
end Plain
open Go Go.RowKit
abbrev i64 (n:Int):Value:=.int .i64 n
abbrev elV (e:Plain.El):Value:=.agg #[.int .i32 e.r,.int .i64 e.c,.int .i64 e.n]
abbrev chgV (a:Plain.Chg):Value:=.agg #[.int .i64 a.kind,.int .i64 a.pos,.int .i32 a.e.r,.int .i64 a.e.c,.int .i64 a.e.n,.int .i64 a.cl]
abbrev insV (a:Plain.Chg):Value:=.agg #[.int .i64 a.pos,.int .i32 a.e.r,.int .i64 a.e.c,.int .i64 a.e.n]
abbrev delV (a:Plain.Chg):Value:=.agg #[.int .i64 a.pos]
def opV (a:Plain.Chg):Value:=if a.kind=1 then .iface 219 (insV a) else if a.kind=2 then .iface 221 (delV a) else .iface 222 (.agg #[])
def opV1 {a:Plain.Chg} (h:a.kind=1):opV a=.iface 219 (insV a):=f02 h
def opV2 {a:Plain.Chg} (h:a.kind=2):opV a=.iface 221 (delV a):=by unfold opV;rw[fx9 fe,f02 h]
def opV3 {a:Plain.Chg} (h:a.kind≠1) (h':a.kind≠2):opV a=.iface 222 (.agg #[]):=by unfold opV;rw[fx9 h,fx9 h']
@[go_sem] def mk219 (v:Value) (w:World):(Instr.makeInterface 219 v).run PV w=.ok (.iface 219 v) w:=by kernel_rfl
@[go_sem] def mk221 (v:Value) (w:World):(Instr.makeInterface 221 v).run PV w=.ok (.iface 221 v) w:=by kernel_rfl
@[go_sem] def mk222 (v:Value) (w:World):(Instr.makeInterface 222 v).run PV w=.ok (.iface 222 v) w:=by kernel_rfl
def frm (p r c n k:Int) (w:World) (h1: -1000000<=k) (h2:k<=1000000):Calls PV 170 #[.agg #[.int .i64 p,.int .i32 r,.int .i64 c,.int .i64 n],.int .i64 k] w λx w'=>x=.returned (.int .i64 (if p<=k then k+1 else k))/\Below w.heap.size w w':=by
 go_enter PV.func170,Tryz.ntmps170;go_wp2;all_goals (go_ret;exact⟨rfl,(Below.refl _ _).alloc (fx8 _) _⟩)
def frn (p k:Int) (w:World) (h1: -1000000<=k) (h2:k<=1000000):Calls PV 175 #[.agg #[.int .i64 p],.int .i64 k] w λx w'=>x=.returned (.int .i64 (if p<k then k-1 else k))/\Below w.heap.size w w':=by
 go_enter PV.func175,Tryz.ntmps175;go_wp2;all_goals (go_ret;exact⟨rfl,(Below.refl _ _).alloc (fx8 _) _⟩)
def fro (k:Int) (w:World):Calls PV 180 #[.agg #[],.int .i64 k] w λx w'=>x=.returned (.int .i64 k)/\Below w.heap.size w w':=by
 go_enter PV.func180,Tryz.ntmps180;go_wp2;all_goals (go_ret;exact⟨rfl,(Below.refl _ _).alloc (fx8 _) _⟩)
def fn2 (pos r c n cl:Int) (w:World):Calls PV 115 #[.agg #[.int .i64 1,.int .i64 pos,.int .i32 r,.int .i64 c,.int .i64 n,.int .i64 cl]] w λx w'=>x=.returned (.iface 219 (.agg #[.int .i64 pos,.int .i32 r,.int .i64 c,.int .i64 n]))/\Below w.heap.size w w':=by
 go_enter PV.func115,Tryz.ntmps115;go_wp2;go_ret;exact⟨rfl,(Below.refl _ _).alloc (fx8 _) _⟩
def fn3 (pos r c n cl:Int) (w:World):Calls PV 115 #[.agg #[.int .i64 2,.int .i64 pos,.int .i32 r,.int .i64 c,.int .i64 n,.int .i64 cl]] w λx w'=>x=.returned (.iface 221 (.agg #[.int .i64 pos]))/\Below w.heap.size w w':=by
 go_enter PV.func115,Tryz.ntmps115;go_wp2;go_ret;exact⟨rfl,(Below.refl _ _).alloc (fx8 _) _⟩
def fn4 (k pos r c n cl:Int) (h1:(k==1)=false) (h2:(k==2)=false) (w:World):Calls PV 115 #[.agg #[.int .i64 k,.int .i64 pos,.int .i32 r,.int .i64 c,.int .i64 n,.int .i64 cl]] w λx w'=>x=.returned (.iface 222 (.agg #[]))/\Below w.heap.size w w':=by
 go_enter PV.func115,Tryz.ntmps115;go_wp2;go_ret;exact⟨rfl,(Below.refl _ _).alloc (fx8 _) _⟩
def frp (a:Plain.Chg) (w:World):Calls PV 115 #[chgV a] w λx w'=>x=.returned (opV a)/\Below w.heap.size w w':=by
 rcases a with⟨kind,pos,e,cl⟩;by_cases h1:kind=1
 ·subst h1;rw[opV1 rfl];exact fn2 _ _ _ _ _ _
 ·by_cases h2:kind=2
  ·subst h2;rw[opV2 rfl];exact fn3 _ _ _ _ _ _
  ·rw[opV3 h1 h2];exact fn4 _ _ _ _ _ _ (by simpa using h1) (by simpa using h2) _
@[go_sem] def me219_apply (v:Value) (w:World):(method 358 219 v "coedit/ot.apply").run PV w=.ok (167,v) w:=by kernel_rfl
@[go_sem] def me219_index (v:Value) (w:World):(method 358 219 v "coedit/ot.index").run PV w=.ok (170,v) w:=by kernel_rfl
@[go_sem] def me219_past (v:Value) (w:World):(method 358 219 v "coedit/ot.past").run PV w=.ok (171,v) w:=by kernel_rfl
@[go_sem] def na219_past (v:Value) (w:World):(nilAhead 358 219 v "coedit/ot.past").run PV w=.ok (some false) w:=by kernel_rfl
@[go_sem] def me221_apply (v:Value) (w:World):(method 358 221 v "coedit/ot.apply").run PV w=.ok (172,v) w:=by kernel_rfl
@[go_sem] def me221_index (v:Value) (w:World):(method 358 221 v "coedit/ot.index").run PV w=.ok (175,v) w:=by kernel_rfl
@[go_sem] def me221_past (v:Value) (w:World):(method 358 221 v "coedit/ot.past").run PV w=.ok (176,v) w:=by kernel_rfl
@[go_sem] def na221_past (v:Value) (w:World):(nilAhead 358 221 v "coedit/ot.past").run PV w=.ok (some false) w:=by kernel_rfl
@[go_sem] def me222_apply (v:Value) (w:World):(method 358 222 v "coedit/ot.apply").run PV w=.ok (177,v) w:=by kernel_rfl
@[go_sem] def me222_index (v:Value) (w:World):(method 358 222 v "coedit/ot.index").run PV w=.ok (180,v) w:=by kernel_rfl
@[go_sem] def me222_past (v:Value) (w:World):(method 358 222 v "coedit/ot.past").run PV w=.ok (181,v) w:=by kernel_rfl
@[go_sem] def na222_past (v:Value) (w:World):(nilAhead 358 222 v "coedit/ot.past").run PV w=.ok (some false) w:=by kernel_rfl
abbrev Bl (w w':World):Prop:=Below w.heap.size w w'
def Bl.al {w w1:World} (h:Bl w w1) (o:Obj):Bl w (w1.alloc o):=Below.alloc h h.size o
def Bl.dr {w w1:World} (h:Bl w w1):Bl w w1.drew:=Below.drew h
def Bl.st {w w1:World} (h:Bl w w1) {p:Addr} (hp:w.heap.size<=p.block) (u:Value):Bl w (w1.setCell p u):=Below.setCell h hp u
def Bl.cl {w w1 w2:World} (h:Bl w w1) (h2:Bl w1 w2):Bl w w2:=Below.trans h (Below.mono h2 h.size)
def Bl.rf (w:World):Bl w w:=Below.refl _ _
def Bl.gr {w w1 w2:World} (h:Bl w w1) {row:Option Nat} (hg:w1.grownBy w2 row) (hr: ∀k,row=some k->w.heap.size<=k):Bl w w2:=Below.grown h hg h.size hr
def bh (a:Plain.Chg) (k:Int) (w:World) (h1: -1000000<=k) (h2:k<=1000000):Calls PV 89 #[chgV a,i64 k] w λx w'=>x=.returned (i64 (Plain.index a k))/\Bl w w':=by
 rcases a with⟨kind,pos,e,cl⟩;by_cases k1:kind=1
 ·subst k1;go_enter PV.func89,Tryz.ntmps89;go_wp2_with (first|(go_at_call 115;refine(fn2 _ _ _ _ _ _).mono ?_;rintro e w1 ⟨rfl,m⟩)|(go_at_call 170;refine(frm _ _ _ _ _ _ h1 h2).mono ?_;rintro e w2 ⟨rfl,j⟩));all_goals (go_ret;exact⟨by simp[Plain.index, *];try omega,(((Bl.rf _).al _).cl m).cl j⟩)
 ·by_cases k2:kind=2
  ·subst k2;go_enter PV.func89,Tryz.ntmps89;go_wp2_with (first|(go_at_call 115;refine(fn3 _ _ _ _ _ _).mono ?_;rintro e w1 ⟨rfl,m⟩)|(go_at_call 175;refine(frn _ _ _ h1 h2).mono ?_;rintro e w2 ⟨rfl,j⟩));all_goals (go_ret;exact⟨by simp[Plain.index, *];try omega,(((Bl.rf _).al _).cl m).cl j⟩)
  ·have e1:(kind==1)=false:=by simpa using k1
   have e2:(kind==2)=false:=by simpa using k2
   go_enter PV.func89,Tryz.ntmps89;go_wp2_with (first|(go_at_call 115;refine(fn4 _ _ _ _ _ _ e1 e2 _).mono ?_;rintro e w1 ⟨rfl,m⟩)|(go_at_call 180;refine(fro _ _).mono ?_;rintro e w2 ⟨rfl,j⟩));go_ret;exact⟨by simp[Plain.index,k1,k2],(((Bl.rf _).al _).cl m).cl j⟩
@[go_sem] def ta_219_219 (v:Value) (w:World):(Instr.typeAssert (.iface 219 v) 205 219 true).run PV w=.ok (.tuple #[v,.bool true]) w:=by kernel_rfl
@[go_sem] def ta_221_221 (v:Value) (w:World):(Instr.typeAssert (.iface 221 v) 205 221 true).run PV w=.ok (.tuple #[v,.bool true]) w:=by kernel_rfl
@[go_sem] def ta_221_219 (v:Value) (w:World):(Instr.typeAssert (.iface 221 v) 205 219 true).run PV w=.ok (.tuple #[.agg #[.int .i64 0,.int .i32 0,.int .i64 0,.int .i64 0],.bool false]) w:=by kernel_rfl
@[go_sem] def ta_222_221 (v:Value) (w:World):(Instr.typeAssert (.iface 222 v) 205 221 true).run PV w=.ok (.tuple #[.agg #[.int .i64 0],.bool false]) w:=by kernel_rfl
@[go_sem] def ta_222_219 (v:Value) (w:World):(Instr.typeAssert (.iface 222 v) 205 219 true).run PV w=.ok (.tuple #[.agg #[.int .i64 0,.int .i32 0,.int .i64 0,.int .i64 0],.bool false]) w:=by kernel_rfl
def retI {q q':Int} {r c n:Value} (h:q=q'):Ending.returned (.iface 219 (.agg #[.int .i64 q,r,c,n]))=Ending.returned (.iface 219 (.agg #[.int .i64 q',r,c,n])):=by rw[h]
def retD {q q':Int} (h:q=q'):Ending.returned (.iface 221 (.agg #[.int .i64 q]))=Ending.returned (.iface 221 (.agg #[.int .i64 q'])):=by rw[h]
def fjq (p r c n m p' r' c' n' o:Int) (w:World) (h1: -1000000<=p) (h2:p<=1000000):Calls PV 171 #[.agg #[.int .i64 p,.int .i32 r,.int .i64 c,.int .i64 n],.iface 219 (.agg #[.int .i64 p',.int .i32 r',.int .i64 c',.int .i64 n']),.int .i64 m,.int .i64 o] w λx w'=>x=.returned (.iface 219 (.agg #[.int .i64 (Plain.insPast p m ⟨1,p',⟨r',c',n'⟩,o⟩),.int .i32 r,.int .i64 c,.int .i64 n]))/\Bl w w':=by
 go_enter PV.func171,Tryz.ntmps171;go_wp2;all_goals (go_ret;exact⟨retI (by simp only[Plain.insPast,f0e];split <;>omega),((Bl.rf _).al _).al _⟩)
def fjr (p r c n m p' o:Int) (e':Plain.El) (w:World) (h1: -1000000<=p) (h2:p<=1000000):Calls PV 171 #[.agg #[.int .i64 p,.int .i32 r,.int .i64 c,.int .i64 n],.iface 221 (.agg #[.int .i64 p']),.int .i64 m,.int .i64 o] w λx w'=>x=.returned (.iface 219 (.agg #[.int .i64 (Plain.insPast p m ⟨2,p',e',o⟩),.int .i32 r,.int .i64 c,.int .i64 n]))/\Bl w w':=by
 go_enter PV.func171,Tryz.ntmps171;go_wp2;all_goals (go_ret;exact⟨retI (by simp[Plain.insPast];omega),((Bl.rf _).al _).al _⟩)
def fjs (p r c n m o:Int) (w:World):Calls PV 171 #[.agg #[.int .i64 p,.int .i32 r,.int .i64 c,.int .i64 n],.iface 222 (.agg #[]),.int .i64 m,.int .i64 o] w λx w'=>x=.returned (.iface 219 (.agg #[.int .i64 p,.int .i32 r,.int .i64 c,.int .i64 n]))/\Bl w w':=by
 go_enter PV.func171,Tryz.ntmps171;go_wp2;all_goals (go_ret;exact⟨rfl,(Bl.rf _).al _⟩)
def fjt (p m p' r' c' n' o:Int) (w:World) (h1: -1000000<=p) (h2:p<=1000000):Calls PV 176 #[.agg #[.int .i64 p],.iface 219 (.agg #[.int .i64 p',.int .i32 r',.int .i64 c',.int .i64 n']),.int .i64 m,.int .i64 o] w λx w'=>x=.returned (.iface 221 (.agg #[.int .i64 (if p>=p' then p+1 else p)]))/\Bl w w':=by
 go_enter PV.func176,Tryz.ntmps176;go_wp2;all_goals (go_ret;exact⟨retD (by first|rfl|(split <;>omega)),((Bl.rf _).al _).al _⟩)
def fju (p m o:Int) (p':Int) (w:World) (j: ¬p=p') (h1: -1000000<=p) (h2:p<=1000000):Calls PV 176 #[.agg #[.int .i64 p],.iface 221 (.agg #[.int .i64 p']),.int .i64 m,.int .i64 o] w λx w'=>x=.returned (.iface 221 (.agg #[.int .i64 (if p>p' then p-1 else p)]))/\Bl w w':=by
 go_enter PV.func176,Tryz.ntmps176;go_wp2;all_goals (go_ret;exact⟨retD (by first|rfl|(split <;>omega)),((Bl.rf _).al _).al _⟩)
def fhb (p m o:Int) (w:World):Calls PV 176 #[.agg #[.int .i64 p],.iface 221 (.agg #[.int .i64 p]),.int .i64 m,.int .i64 o] w λx w'=>x=.returned (.iface 222 (.agg #[]))/\Bl w w':=by
 go_enter PV.func176,Tryz.ntmps176;go_wp2;all_goals (go_ret;exact⟨rfl,((Bl.rf _).al _).al _⟩)
def fjv (p m o:Int) (w:World):Calls PV 176 #[.agg #[.int .i64 p],.iface 222 (.agg #[]),.int .i64 m,.int .i64 o] w λx w'=>x=.returned (.iface 221 (.agg #[.int .i64 p]))/\Bl w w':=by
 go_enter PV.func176,Tryz.ntmps176;go_wp2;all_goals (go_ret;exact⟨rfl,(Bl.rf _).al _⟩)
def ful (b:Value) (m o:Int) (w:World):Calls PV 181 #[.agg #[],b,.int .i64 m,.int .i64 o] w λx w'=>x=.returned (.iface 222 (.agg #[]))/\Bl w w':=by
 go_enter PV.func181,Tryz.ntmps181;go_wp2;all_goals (go_ret;exact⟨rfl,(Bl.rf _).al _⟩)
def fum (k p r c n cl q r' c' n':Int) (w:World):Calls PV 131 #[.agg #[.int .i64 k,.int .i64 p,.int .i32 r,.int .i64 c,.int .i64 n,.int .i64 cl],.iface 219 (.agg #[.int .i64 q,.int .i32 r',.int .i64 c',.int .i64 n'])] w λx w'=>x=.returned (.agg #[.int .i64 1,.int .i64 q,.int .i32 r',.int .i64 c',.int .i64 n',.int .i64 cl])/\Bl w w':=by
 go_enter PV.func131,Tryz.ntmps131;go_wp2;exact f0q (v:=.agg #[.int .i64 1,.int .i64 q,.int .i32 r',.int .i64 c',.int .i64 n',.int .i64 cl]) pr rfl ⟨rfl,(((Bl.rf _).al _).al _).al _⟩
def fuo (k p r c n cl q:Int) (w:World):Calls PV 131 #[.agg #[.int .i64 k,.int .i64 p,.int .i32 r,.int .i64 c,.int .i64 n,.int .i64 cl],.iface 221 (.agg #[.int .i64 q])] w λx w'=>x=.returned (.agg #[.int .i64 2,.int .i64 q,.int .i32 0,.int .i64 0,.int .i64 0,.int .i64 cl])/\Bl w w':=by
 go_enter PV.func131,Tryz.ntmps131;go_wp2;exact f0q (v:=.agg #[.int .i64 2,.int .i64 q,.int .i32 0,.int .i64 0,.int .i64 0,.int .i64 cl]) pr rfl ⟨rfl,(((Bl.rf _).al _).al _).al _⟩
def fup (k p r c n cl:Int) (w:World):Calls PV 131 #[.agg #[.int .i64 k,.int .i64 p,.int .i32 r,.int .i64 c,.int .i64 n,.int .i64 cl],.iface 222 (.agg #[])] w λx w'=>x=.returned (.agg #[.int .i64 3,.int .i64 0,.int .i32 0,.int .i64 0,.int .i64 0,.int .i64 cl])/\Bl w w':=by
 go_enter PV.func131,Tryz.ntmps131;go_wp2;exact f0q (v:=.agg #[.int .i64 3,.int .i64 0,.int .i32 0,.int .i64 0,.int .i64 0,.int .i64 cl]) pr rfl ⟨rfl,((Bl.rf _).al _).al _⟩
def fuq (a b:Plain.Chg) (hb:b.kind=2->b.e=.zero) (h3:b.kind≠1->b.kind≠2->b=⟨3,0,.zero,b.cl⟩) (w:World):Calls PV 131 #[chgV a,opV b] w λx w'=>x=.returned (chgV ⟨b.kind,b.pos,b.e,a.cl⟩)/\Bl w w':=by
 rcases b with⟨kind,pos,e,cl⟩;by_cases k1:kind=1
 ·subst k1;rw[opV1 rfl];exact fum _ _ _ _ _ _ _ _ _ _ _
 ·by_cases k2:kind=2
  ·subst k2;rw[opV2 rfl,hb rfl];exact fuo _ _ _ _ _ _ _ _
  ·rw[opV3 k1 k2,h3 k1 k2];exact fup _ _ _ _ _ _ _
structure Bk (w:World) (g:Nat) (t:TypeId) (cs:Array Value):Prop where
 at_:w.heap[g]? =some (.cells cs t (0,0))
section
variable {w w1:World} {g:Nat} {t:TypeId} {cs:Array Value}
def Bk.lt (h:Bk w g t cs):g<w.heap.size:=(fx5.1 h.at_).1
def Bk.ce (h:Bk w g t cs): ∀i,w.cell? ⟨g,i,none⟩=cs[i]? :=λi=>cell_of_row w g i cs t (0,0) h.at_
def Bk.fz (h:Bk w g t cs): ∀i,w.frozen? ⟨g,i,none⟩=false:=λi=>by
 simp[World.frozen?,h.at_]
def Bk.nw {n:Nat} (hn:w.heap.size=n):Bk (w.alloc (.cells cs t)) n t cs:=⟨by subst hn;exact f3n w _⟩
def Bk.dr (h:Bk w g t cs):Bk w.drew g t cs:=⟨h.at_⟩
def Bk.al (h:Bk w g t cs) (o:Obj):Bk (w.alloc o) g t cs:=⟨(f7l w o g h.lt).trans h.at_⟩
def Bk.st {i:Nat} (u:Value) (h:Bk w g t cs):Bk (w.setCell ⟨g,i,none⟩ u) g t (cs.setIfInBounds i u):=by
 refine⟨?_⟩;simp[World.setCell,fy6,h.at_]
def Bk.fr {p:Addr} (u:Value) (hp:g≠p.block) (h:Bk w g t cs):Bk (w.setCell p u) g t cs:=⟨(Below.heap_setCell w p u g hp).trans h.at_⟩
def Bk.bl (hb:Bl w w1) (h:Bk w g t cs):Bk w1 g t cs:=⟨(hb.block g h.lt).trans h.at_⟩
def Bk.gr {row:Option Nat} (hb:w.grownBy w1 row) (hg:some g≠row) (h:Bk w g t cs):Bk w1 g t cs:=⟨(hb.block g h.lt hg).trans h.at_⟩
def Bk.inj {t':TypeId} {cs':Array Value} (h:Bk w g t cs) (h':Bk w g t' cs'):cs'=cs/\t'=t:=by
 have h':=h'.at_;rw[h.at_] at h';injection h' with h'
 injection h' with h1 h2
 exact⟨h1.symm,h2.symm⟩
def Bk.ne_ {g':Nat} {t':TypeId} {cs':Array Value} (h:Bk w g t cs) (h':Bk w g' t' cs') (j:t≠t'):g≠g':=by
 rintro rfl;exact j (h.inj h').2.symm
end
def Bk.st6 {w:World} {g:Nat} {t:TypeId} {x0 x1 x2 x3 x4 x5 y0 y1 y2 y3 y4 y5:Value} (h:Bk w g t #[x0,x1,x2,x3,x4,x5]):Bk ((((((w.setCell ⟨g,0,none⟩ y0).setCell ⟨g,1,none⟩ y1).setCell ⟨g,2,none⟩ y2).setCell ⟨g,3,none⟩ y3).setCell ⟨g,4,none⟩ y4).setCell ⟨g,5,none⟩ y5) g t #[y0,y1,y2,y3,y4,y5]:=by
 have:=(Bk.st (i:=5) y5 (Bk.st (i:=4) y4 (Bk.st (i:=3) y3 (Bk.st (i:=2) y2 (Bk.st (i:=1) y1 (Bk.st (i:=0) y0 h))))));simpa using this
def Bk.st67 {w:World} {g:Nat} {t:TypeId} {x0 x1 x2 x3 x4 x5 x6 y0 y1 y2 y3 y4 y5:Value} (h:Bk w g t #[x0,x1,x2,x3,x4,x5,x6]):Bk ((((((w.setCell ⟨g,0,none⟩ y0).setCell ⟨g,1,none⟩ y1).setCell ⟨g,2,none⟩ y2).setCell ⟨g,3,none⟩ y3).setCell ⟨g,4,none⟩ y4).setCell ⟨g,5,none⟩ y5) g t #[y0,y1,y2,y3,y4,y5,x6]:=by
 have:=(Bk.st (i:=5) y5 (Bk.st (i:=4) y4 (Bk.st (i:=3) y3 (Bk.st (i:=2) y2 (Bk.st (i:=1) y1 (Bk.st (i:=0) y0 h))))));simpa using this
def Bk.cv {w:World} {g:Nat} {t:TypeId} {cs cs':Array Value} (h:Bk w g t cs) (e:cs=cs'):Bk w g t cs':=e▸h
def vy {Z F:World->Prop} {W:World} (hF:F W) (h: ∀W',F W'->Z W'):Z W:=h W hF
abbrev CeF (w:World) (g:Nat) (cs:Array Value):Prop:=(∀i,w.cell? ⟨g,i,none⟩=cs[i]?)/\(∀i,w.frozen? ⟨g,i,none⟩=false)
def Bk.ceF {w:World} {g:Nat} {t:TypeId} {cs:Array Value} (h:Bk w g t cs):CeF w g cs:=⟨h.ce,h.fz⟩
def bx (g:Nat):(∀(W:World) (o:Obj) (i:Nat),g<W.heap.size->(W.alloc o).cell? ⟨g,i,none⟩=W.cell? ⟨g,i,none⟩)/\(∀(W:World) (o:Obj) (i:Nat),g<W.heap.size->(W.alloc o).frozen? ⟨g,i,none⟩=W.frozen? ⟨g,i,none⟩):=
 ⟨λW o i h=>f0h (a:=⟨g,i,none⟩) (f7l W o g h),λW o i h=>World.frozen?_of_block (a:=⟨g,i,none⟩) (f7l W o g h)⟩
structure Ch (K:Nat->Prop) (w w':World):Prop where
 os:w'.os=w.os
 tape:w'.tape=w.tape
 output:w'.output=w.output
 size:w.heap.size<=w'.heap.size
 block: ∀x,x<w.heap.size-> ¬K x->w'.heap[x]? =w.heap[x]?
section
variable {w w1 w2:World} {K K':Nat->Prop}
def Ch.rf (K:Nat->Prop) (w:World):Ch K w w:=⟨rfl,rfl,rfl,fx8 _,λ_ _ _=>rfl⟩
def Ch.tr (h:Ch K w w1) (h2:Ch K' w1 w2) (hk: ∀x,K' x->K x\/w.heap.size<=x):Ch K w w2:=
 ⟨h2.os.trans h.os,h2.tape.trans h.tape,h2.output.trans h.output,f08 h.size h2.size,λx hx hn=>(h2.block x (f0f hx h.size) λhx'=>(hk x hx').elim hn fe).trans (h.block x hx hn)⟩
def Ch.ba (h:Bl w w1):Ch K w w1:=⟨h.os,h.tape,h.output,h.size,λx hx _=>h.block x hx⟩
def Ch.cl (h:Ch K w w1) (h2:Bl w1 w2):Ch K w w2:=h.tr (K':=λ_=>False) (Ch.ba h2) λ_ h=>h.elim
def Ch.al (h:Ch K w w1) (o:Obj):Ch K w (w1.alloc o):=h.cl ((Bl.rf _).al o)
def Ch.dr (h:Ch K w w1):Ch K w w1.drew:=h.cl ((Bl.rf _).dr)
def Ch.gr (h:Ch K w w1) {row:Option Nat} (hg:w1.grownBy w2 row) (hr: ∀k,row=some k->K k\/w.heap.size<=k):Ch K w w2:=
 h.tr (K':=λx=>row=some x) ⟨hg.os,hg.tape,hg.output,hg.size,λx hx hn=>hg.block x hx (λe=>hn e.symm)⟩ hr
def Ch.st (h:Ch K w w1) {p:Addr} (hp:K p.block\/w.heap.size<=p.block) (u:Value):Ch K w (w1.setCell p u):=
 h.tr (K':=λx=>x=p.block) ⟨rfl,rfl,rfl,by simp[World.setCell],λx _ hn=>Below.heap_setCell w1 p u x hn⟩ λx e=>by subst e;exact hp
def Ch.mo (h:Ch K w w1) (hk: ∀x,K x->K' x):Ch K' w w1:=⟨h.os,h.tape,h.output,h.size,λx hx hn=>h.block x hx λhx'=>hn (hk x hx')⟩
def Bk.ch {g:Nat} {t:TypeId} {cs:Array Value} (hc:Ch K w w1) (hn: ¬K g) (h:Bk w g t cs):Bk w1 g t cs:=⟨(hc.block g h.lt hn).trans h.at_⟩
def qx {base n size:Nat} {e:TypeId} {v:Value} {xs:List Value} (hc:Ch K w w1) (h:w.ownsRow base e size v n xs) (hn: ∀g,v.ownBlock=some g-> ¬K g):w1.ownsRow base e size v n xs:=by
 refine⟨h.1,?_⟩;rcases h.2 with m|⟨g,cap,cur,rfl,hb,j,rest⟩
 ·exact .inl m
 ·exact .inr ⟨g,cap,cur,rfl,hb,(hc.block g (fx5.1 j).1 (hn g rfl)).trans j,rest⟩
def mj {base base' n size:Nat} {e:TypeId} {v:Value} {xs:List Value} (h:w.ownsRow base e size v n xs) (hb:base'<=base):w.ownsRow base' e size v n xs:=
 ⟨h.1,h.2.imp id λ⟨g,cap,cur,h1,h2,h3⟩=>⟨g,cap,cur,h1,f08 hb h2,h3⟩⟩
def lr {base n size:Nat} {e:TypeId} {v:Value} {xs:List Value} (h:w.ownsRow base e size v n xs): ∀g,v.ownBlock=some g->g<w.heap.size:=λg hg=>(h.lt g hg).2
end
def past_op (a b:Plain.Chg) (w:World) (h1: -1000000<=a.pos) (h2:a.pos<=1000000):
    (a.kind=1->Calls PV 171 #[insV a,opV b,i64 a.cl,i64 b.cl] w λx w'=>x=.returned (opV (Plain.past a b))/\Bl w w')/\
    (a.kind=2->Calls PV 176 #[delV a,opV b,i64 a.cl,i64 b.cl] w λx w'=>x=.returned (opV (Plain.past a b))/\Bl w w'):=by
 rcases a with⟨kind,pos,e,cl⟩;rcases b with⟨j,m,e',q⟩;constructor
 ·rintro rfl;rw[show opV (Plain.past ⟨1,pos,e,cl⟩ ⟨j,m,e',q⟩)=.iface 219 (insV ⟨1,Plain.insPast pos cl ⟨j,m,e',q⟩,e,cl⟩) from opV1 rfl];by_cases k1:j=1
  ·subst k1;rw[opV1 rfl];exact fjq _ _ _ _ _ _ _ _ _ _ w h1 h2
  ·by_cases k2:j=2
   ·subst k2;rw[opV2 rfl];exact fjr _ _ _ _ _ _ _ _ w h1 h2
   ·rw[opV3 k1 k2];refine(fjs _ _ _ _ _ _ w).mono λx w' h=>⟨h.1.trans (retI ?_),h.2⟩;simp[Plain.insPast,k1,k2]
 ·rintro rfl;by_cases k1:j=1
  ·subst k1;rw[opV1 (a:=⟨1,m,e',q⟩) rfl];refine(fjt _ _ _ _ _ _ _ w h1 h2).mono λx w' h=>⟨h.1.trans ?_,h.2⟩;rw[opV2 (by simp[Plain.past])];exact retD (by simp[Plain.past])
  ·by_cases k2:j=2
   ·subst k2;rw[opV2 (a:=⟨2,m,e',q⟩) rfl];by_cases hp:pos=m
    ·subst hp;refine(fhb _ _ _ w).mono λx w' h=>⟨h.1.trans ?_,h.2⟩;rw[opV3 (by simp[Plain.past]) (by simp[Plain.past])]
    ·refine(fju _ _ _ _ w hp h1 h2).mono λx w' h=>⟨h.1.trans ?_,h.2⟩;rw[opV2 (by simp[Plain.past,hp])];exact retD (by simp[Plain.past,hp])
   ·rw[opV3 k1 k2];refine(fjv _ _ _ w).mono λx w' h=>⟨h.1.trans ?_,h.2⟩;rw[opV2 (by simp[Plain.past,k1,k2])];exact retD (by simp[Plain.past,k1,k2])
def frq (a b:Plain.Chg) (h1:(Plain.past a b).kind≠1) (h2:(Plain.past a b).kind≠2):Plain.past a b=⟨3,0,.zero,(Plain.past a b).cl⟩:=by
 have hn:=Plain.past_norm a b;rcases hn.kind with h|h|h
 ·exact absurd h h1
 ·exact absurd h h2
 ·obtain⟨h3,h4⟩:=hn.non h;generalize Plain.past a b=x at*;rcases x with⟨k,p,e,c⟩;simp only at h h3 h4 ⊢;rw[h,h3,h4]
def Bk.carry {P:Program} {f:FuncId} {args:Array Value} {W:World} {v:Ending} {g:Nat} {t:TypeId} {cs:Array Value} (h:Calls P f args W λx w'=>x=v/\Bl W w') (hk:Bk W g t cs):
    Calls P f args W λx w'=>x=v/\Bl W w'/\Bk w' g t cs/\CeF w' g cs:=
 h.mono λ_ _ hh=>⟨hh.1,hh.2,Bk.bl hh.2 hk,(Bk.bl hh.2 hk).ceF⟩
def past1 (p r c n cl k' p' r' c' n' j qk qp qr qc qn m:Int) (w:World)
    (H1: ∀w,Calls PV 171 #[insV ⟨1,p,⟨r,c,n⟩,cl⟩,opV ⟨k',p',⟨r',c',n'⟩,j⟩,i64 cl,i64 j] w λx w'=>x=.returned (opV ⟨qk,qp,⟨qr,qc,qn⟩,m⟩)/\Bl w w')
    (H2: ∀w,Calls PV 131 #[chgV ⟨1,p,⟨r,c,n⟩,cl⟩,opV ⟨qk,qp,⟨qr,qc,qn⟩,m⟩] w λx w'=>x=.returned (chgV ⟨qk,qp,⟨qr,qc,qn⟩,cl⟩)/\Bl w w'):
    Calls PV 129 #[.agg #[.int .i64 1,.int .i64 p,.int .i32 r,.int .i64 c,.int .i64 n,.int .i64 cl],.agg #[.int .i64 k',.int .i64 p',.int .i32 r',.int .i64 c',.int .i64 n',.int .i64 j]] w λx w'=>x=.returned (chgV ⟨qk,qp,⟨qr,qc,qn⟩,cl⟩)/\Bl w w':=by
 have A:=fx6 H1;clear H1;have q:=fx6 H2;clear H2;go_enter PV.func129,Tryz.ntmps129;go_wp2_with fail
 go_region_held3 (λw'=>((∀o,w'.cell? ⟨w.heap.size,o,none⟩=(#[.int .i64 1,.int .i64 p,.int .i32 r,.int .i64 c,.int .i64 n,.int .i64 cl]:Array Value)[o]?)/\(∀o,w'.cell? ⟨w.heap.size+1,o,none⟩=(#[.int .i64 k',.int .i64 p',.int .i32 r',.int .i64 c',.int .i64 n',.int .i64 j]:Array Value)[o]?))/\
  Bk w' w.heap.size 40 #[.int .i64 1,.int .i64 p,.int .i32 r,.int .i64 c,.int .i64 n,.int .i64 cl]/\Bk w' (w.heap.size+1) 40 #[.int .i64 k',.int .i64 p',.int .i32 r',.int .i64 c',.int .i64 n',.int .i64 j])
    (first
      | (refine(λ(h1:Bk _ w.heap.size 40 #[.int .i64 1,.int .i64 p,.int .i32 r,.int .i64 c,.int .i64 n,.int .i64 cl]) h2=>⟨⟨Bk.ce h1,Bk.ce h2⟩,h1,h2⟩) ?_ ?_ <;>
          repeat' (first|with_reducible assumption|with_reducible exact Bk.nw fi|with_reducible refine Bk.dr ?_|with_reducible refine Bk.al ?_ _|with_reducible refine Bk.bl fq ?_|(with_reducible refine Bk.fr _ fw ?_))))
    (first
      | (go_at_call 115;(with_reducible refine(Bk.carry (fn2 _ _ _ _ _ _) (g:=w.heap.size+1+1) (t:=40) (cs:=#[.int .i64 0,.int .i64 0,.int .i32 0,.int .i64 0,.int .i64 0,.int .i64 0]) (Bk.dr (Bk.nw fi))).mono ?_);rintro e w1 ⟨rfl,I,k1,-⟩)
      | (go_at_call 115;refine(Bk.carry (frp ⟨_,_,⟨_,_,_⟩,_⟩ _) k1).mono ?_;rintro e w2 ⟨rfl,D,k2,-⟩)
      | (go_at_call 171;refine(Bk.carry (A.out _) k2).mono ?_;rintro e w3 ⟨rfl,C,k3,-⟩)
      | (go_at_call 131;refine(Bk.carry (q.out _) k3).mono ?_;rintro e w4 ⟨rfl,B,k4,hc4,J⟩))
 all_goals
    go_wp2_with fail;exact f0q (v:=chgV ⟨qk,qp,⟨qr,qc,qn⟩,cl⟩) pe rfl ⟨rfl,fg⟩
def past2 (p r c n cl k' p' r' c' n' j qk qp qr qc qn m:Int) (w:World)
    (H1: ∀w,Calls PV 176 #[delV ⟨2,p,⟨r,c,n⟩,cl⟩,opV ⟨k',p',⟨r',c',n'⟩,j⟩,i64 cl,i64 j] w λx w'=>x=.returned (opV ⟨qk,qp,⟨qr,qc,qn⟩,m⟩)/\Bl w w')
    (H2: ∀w,Calls PV 131 #[chgV ⟨2,p,⟨r,c,n⟩,cl⟩,opV ⟨qk,qp,⟨qr,qc,qn⟩,m⟩] w λx w'=>x=.returned (chgV ⟨qk,qp,⟨qr,qc,qn⟩,cl⟩)/\Bl w w'):
    Calls PV 129 #[.agg #[.int .i64 2,.int .i64 p,.int .i32 r,.int .i64 c,.int .i64 n,.int .i64 cl],.agg #[.int .i64 k',.int .i64 p',.int .i32 r',.int .i64 c',.int .i64 n',.int .i64 j]] w λx w'=>x=.returned (chgV ⟨qk,qp,⟨qr,qc,qn⟩,cl⟩)/\Bl w w':=by
 have A:=fx6 H1;clear H1;have q:=fx6 H2;clear H2;go_enter PV.func129,Tryz.ntmps129;go_wp2_with fail
 go_region_held3 (λw'=>((∀o,w'.cell? ⟨w.heap.size,o,none⟩=(#[.int .i64 2,.int .i64 p,.int .i32 r,.int .i64 c,.int .i64 n,.int .i64 cl]:Array Value)[o]?)/\(∀o,w'.cell? ⟨w.heap.size+1,o,none⟩=(#[.int .i64 k',.int .i64 p',.int .i32 r',.int .i64 c',.int .i64 n',.int .i64 j]:Array Value)[o]?))/\
  Bk w' w.heap.size 40 #[.int .i64 2,.int .i64 p,.int .i32 r,.int .i64 c,.int .i64 n,.int .i64 cl]/\Bk w' (w.heap.size+1) 40 #[.int .i64 k',.int .i64 p',.int .i32 r',.int .i64 c',.int .i64 n',.int .i64 j])
    (first
      | (refine(λ(h1:Bk _ w.heap.size 40 #[.int .i64 2,.int .i64 p,.int .i32 r,.int .i64 c,.int .i64 n,.int .i64 cl]) h2=>⟨⟨Bk.ce h1,Bk.ce h2⟩,h1,h2⟩) ?_ ?_ <;>
          repeat' (first|with_reducible assumption|with_reducible exact Bk.nw fi|with_reducible refine Bk.dr ?_|with_reducible refine Bk.al ?_ _|with_reducible refine Bk.bl fq ?_|(with_reducible refine Bk.fr _ fw ?_))))
    (first
      | (go_at_call 115;(with_reducible refine(Bk.carry (fn3 _ _ _ _ _ _) (g:=w.heap.size+1+1) (t:=40) (cs:=#[.int .i64 0,.int .i64 0,.int .i32 0,.int .i64 0,.int .i64 0,.int .i64 0]) (Bk.dr (Bk.nw fi))).mono ?_);rintro e w1 ⟨rfl,I,k1,-⟩)
      | (go_at_call 115;refine(Bk.carry (frp ⟨_,_,⟨_,_,_⟩,_⟩ _) k1).mono ?_;rintro e w2 ⟨rfl,D,k2,-⟩)
      | (go_at_call 176;refine(Bk.carry (A.out _) k2).mono ?_;rintro e w3 ⟨rfl,C,k3,-⟩)
      | (go_at_call 131;refine(Bk.carry (q.out _) k3).mono ?_;rintro e w4 ⟨rfl,B,k4,hc4,J⟩))
 all_goals
    go_wp2_with fail;exact f0q (v:=chgV ⟨qk,qp,⟨qr,qc,qn⟩,cl⟩) pe rfl ⟨rfl,fg⟩
def past3 (k:Int) (e1:(k==1)=false) (e2:(k==2)=false) (p r c n cl k' p' r' c' n' j qk qp qr qc qn m:Int) (w:World)
    (H1: ∀w,Calls PV 181 #[.agg #[],opV ⟨k',p',⟨r',c',n'⟩,j⟩,i64 cl,i64 j] w λx w'=>x=.returned (opV ⟨qk,qp,⟨qr,qc,qn⟩,m⟩)/\Bl w w')
    (H2: ∀w,Calls PV 131 #[chgV ⟨k,p,⟨r,c,n⟩,cl⟩,opV ⟨qk,qp,⟨qr,qc,qn⟩,m⟩] w λx w'=>x=.returned (chgV ⟨qk,qp,⟨qr,qc,qn⟩,cl⟩)/\Bl w w'):
    Calls PV 129 #[.agg #[.int .i64 k,.int .i64 p,.int .i32 r,.int .i64 c,.int .i64 n,.int .i64 cl],.agg #[.int .i64 k',.int .i64 p',.int .i32 r',.int .i64 c',.int .i64 n',.int .i64 j]] w λx w'=>x=.returned (chgV ⟨qk,qp,⟨qr,qc,qn⟩,cl⟩)/\Bl w w':=by
 have A:=fx6 H1;clear H1;have q:=fx6 H2;clear H2;go_enter PV.func129,Tryz.ntmps129;go_wp2_with fail
 go_region_held3 (λw'=>((∀o,w'.cell? ⟨w.heap.size,o,none⟩=(#[.int .i64 k,.int .i64 p,.int .i32 r,.int .i64 c,.int .i64 n,.int .i64 cl]:Array Value)[o]?)/\(∀o,w'.cell? ⟨w.heap.size+1,o,none⟩=(#[.int .i64 k',.int .i64 p',.int .i32 r',.int .i64 c',.int .i64 n',.int .i64 j]:Array Value)[o]?))/\
  Bk w' w.heap.size 40 #[.int .i64 k,.int .i64 p,.int .i32 r,.int .i64 c,.int .i64 n,.int .i64 cl]/\Bk w' (w.heap.size+1) 40 #[.int .i64 k',.int .i64 p',.int .i32 r',.int .i64 c',.int .i64 n',.int .i64 j])
    (first
      | (refine(λ(h1:Bk _ w.heap.size 40 #[.int .i64 k,.int .i64 p,.int .i32 r,.int .i64 c,.int .i64 n,.int .i64 cl]) h2=>⟨⟨Bk.ce h1,Bk.ce h2⟩,h1,h2⟩) ?_ ?_ <;>
          repeat' (first|with_reducible assumption|with_reducible exact Bk.nw fi|with_reducible refine Bk.dr ?_|with_reducible refine Bk.al ?_ _|with_reducible refine Bk.bl fq ?_|(with_reducible refine Bk.fr _ fw ?_))))
    (first
      | (go_at_call 115;(with_reducible refine(Bk.carry (fn4 _ _ _ _ _ _ e1 e2 _) (g:=w.heap.size+1+1) (t:=40) (cs:=#[.int .i64 0,.int .i64 0,.int .i32 0,.int .i64 0,.int .i64 0,.int .i64 0]) (Bk.dr (Bk.nw fi))).mono ?_);rintro e w1 ⟨rfl,I,k1,-⟩)
      | (go_at_call 115;refine(Bk.carry (frp ⟨_,_,⟨_,_,_⟩,_⟩ _) k1).mono ?_;rintro e w2 ⟨rfl,D,k2,-⟩)
      | (go_at_call 181;refine(Bk.carry (A.out _) k2).mono ?_;rintro e w3 ⟨rfl,C,k3,-⟩)
      | (go_at_call 131;refine(Bk.carry (q.out _) k3).mono ?_;rintro e w4 ⟨rfl,B,k4,hc4,J⟩))
 all_goals
    go_wp2_with fail;exact f0q (v:=chgV ⟨qk,qp,⟨qr,qc,qn⟩,cl⟩) pe rfl ⟨rfl,fg⟩
def fn5 (a b:Plain.Chg) (w:World) (h1: -1000000<=a.pos) (h2:a.pos<=1000000):Calls PV 129 #[chgV a,chgV b] w λx w'=>x=.returned (chgV (Plain.past a b))/\Bl w w':=by
 have hp:=λw=>past_op a b w h1 h2;have hw:=λw=>fuq a (Plain.past a b) (Plain.past_norm _ _).del (frq _ _) w;have j:(Plain.past a b).cl=a.cl:=Plain.past_cl a b;have h3:a.kind≠1->a.kind≠2->opV (Plain.past a b)=.iface 222 (.agg #[]):=λg1 g2=>by rw[opV3] <;>simp[Plain.past,g1,g2]
 generalize Plain.past a b=q at*;rcases a with⟨kind,p,⟨r,c,n⟩,cl⟩;rcases b with⟨k',p',⟨r',c',n'⟩,m⟩;rcases q with⟨qk,qp,⟨qr,qc,qn⟩,A⟩;simp only at j;subst j;by_cases k1:kind=1
 ·subst k1;exact past1 _ _ _ _ _ _ _ _ _ _ _ _ _ _ _ _ _ w (λw=>(hp w).1 rfl) hw
 ·by_cases k2:kind=2
  ·subst k2;exact past2 _ _ _ _ _ _ _ _ _ _ _ _ _ _ _ _ _ w (λw=>(hp w).2 rfl) hw
  ·refine past3 kind (by simpa using k1) (by simpa using k2) _ _ _ _ _ _ _ _ _ _ _ _ _ _ _ _ _ w (λw=>?_) hw;rw[h3 k1 k2];exact ful _ _ _ w
end Go.Proofs.YtelecjnabeokeaaGreatDoor
